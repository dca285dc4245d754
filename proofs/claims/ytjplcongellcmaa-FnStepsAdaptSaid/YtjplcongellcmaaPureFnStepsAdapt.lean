/- Decoded bits have the values of their coder, steps grow and shrink by halves, and gaps are differences. Conditions: none beyond those that the statement itself prints. -/
import Derived.Test.YtjplcongellcmaaPFnStepsAdaptx11
namespace Go.Proofs.Ytjplcongellcmaa.Pure
open Go.RowKit Go.Proofs.Ytjplcongellcmaa.PFnStepsAdapt Go.Proofs.YtjplcongellcmaaW.PrintWords Go.Proofs.YtjplcongellcmaaW.PrintLast Go.Proofs.YtjplcongellcmaaW.PrintMore
set_option linter.unusedVariables false
set_option linter.unusedSimpArgs false

theorem w64 {n : Int} (h1 : -9223372036854775808 ≤ n) (h2 : n ≤ 9223372036854775807) : wrap64 n = n := by
  unfold wrap64
  omega
theorem Ev.to {α : Type} {g : Nat → Option α} {r r' : α} (h : Ev g r) (e : r = r') : Ev g r' := e ▸ h
theorem Ev.const {α : Type} {g : Option α} {r : α} (h : g = some r) : Ev (fun _ => g) r := ⟨0, fun _ _ => h⟩
theorem Ev.dbind {α β : Type} {g : Option α} {f : Nat → α → Option β} {a : α} {r : β} (h : g = some a) (k : Ev (fun n => f n a) r) : Ev (fun n => g.bind (f n)) r :=
  Ev.bind (g := fun _ => g) (Ev.const h) k
theorem Ev.tt {α : Type} {c : Prop} {_ : Decidable c} {g f : Nat → Option α} {r : α} (h : c) (k : Ev g r) : Ev (fun n => if c then g n else f n) r := by
  simpa only [if_pos h] using k
theorem Ev.ff {α : Type} {c : Prop} {_ : Decidable c} {g f : Nat → Option α} {r : α} (h : ¬ c) (k : Ev f r) : Ev (fun n => if c then g n else f n) r := by
  simpa only [if_neg h] using k
theorem rd_mid (p t : List Int) (x : Int) : rd (p ++ x :: t) (p.length : Int) = x := by
  simp [rd]
theorem lt_mid {α : Type} (p t : List α) (x : α) : (p.length : Int) < ((p ++ x :: t).length : Int) := by
  simp
  omega
theorem nx_mid {α : Type} (p t : List α) (x : α) (h : (p ++ x :: t).length ≤ 140737488351232) : wrap64 ((p.length : Int) + 1) = ((p ++ [x]).length : Int) := by
  simp at h ⊢
  exact w64 (by omega) (by omega)
theorem ap_mid {α : Type} (p t : List α) (x : α) : p ++ x :: t = (p ++ [x]) ++ t := by simp
theorem w64_nat (a b : Nat) (h : a + b ≤ 1000000000) : wrap64 ((a : Int) + (b : Int)) = ((a + b : Nat) : Int) := by
  rw [w64 (n := (a : Int) + (b : Int)) (by omega) (by omega)]
  omega
theorem w64_suc {α : Type} (q : List α) (x : α) (h : q.length ≤ 1000000000) : wrap64 ((q.length : Int) + 1) = ((q ++ [x]).length : Int) := by
  rw [w64 (n := (q.length : Int) + 1) (by omega) (by omega)]
  simp
theorem ar1 {a b c d : Nat} (h1 : a + 1 ≤ c) (h2 : b + 1 ≤ d) : ((a + b : Nat) : Int) < ((c + d - 1 : Nat) : Int) := by omega
theorem ar2 {a b c d : Nat} (h1 : a + 1 ≤ c) (h2 : b + 1 ≤ d) : a + b < c + d - 1 := by omega
theorem ar3 (a b : Nat) : ¬ (a ≤ a + b ∧ a + b - a < b) := by omega
theorem ar4 {v M : Int} (h : -M ≤ v ∧ v ≤ M) (hm : M ≤ 4000000000000000000) : wrap64 v = v := w64 (by omega) (by omega)
theorem ar5 {c v P M H : Int} (hc : -P ≤ c ∧ c ≤ P) (hv : -M ≤ v ∧ v ≤ M) (hp : P + M ≤ H) (hH : H ≤ 4000000000000000000) : wrap64 (c + v) = c + v := w64 (by omega) (by omega)
theorem ar6 {a b : Nat} {M : Int} (h : a + 1 ≤ b) (hM : 0 ≤ M) : (a : Int) * M + M ≤ (b : Int) * M := by
  have h1 : ((a : Int) + 1) * M ≤ (b : Int) * M := Int.mul_le_mul_of_nonneg_right (by omega) hM
  rw [Int.add_mul, Int.one_mul] at h1
  exact h1
theorem ar7 {a b c d : Nat} (h1 : a + 1 ≤ c) (h2 : b + 1 ≤ d) (h : c + d ≤ 100000000) : a + b ≤ 1000000000 := by omega
theorem ar8 {a c d : Nat} (h1 : a + 1 ≤ c) (h : c + d ≤ 100000000) : a ≤ 1000000000 := by omega
theorem tm (a b : Nat) : Int.tmod (a : Int) (b : Int) = ((a % b : Nat) : Int) := (Int.ofNat_tmod a b).symm
theorem td (a b : Nat) : Int.tdiv (a : Int) (b : Int) = ((a / b : Nat) : Int) := (Int.ofNat_tdiv a b).symm
theorem w64n {a : Nat} (h : a ≤ 1000000000) : wrap64 (a : Int) = (a : Int) := w64 (by omega) (by omega)

def backOf (n : Int) : Int × Bool := if n = 3 then (-1, true) else if n = 4 then (0, true) else if n = 6 then (1, true) else (0, false)
def tnF (c : Int) : List Int → Int → Int → Int × Int
  | [], y, z => (y, z)
  | x :: t, y, z => tnF c t (wrap64 ((wrap64 (x + (wrap64 (c * y)))) - z)) y
def sig (l : List Int) : Bool := decide (l.length ≤ 64) && l.all fun x => decide (-100000 ≤ x) && decide (x ≤ 100000)
def toneStates (l : List Int) (n : Int) : Int × Int × Bool := if (backOf n).2 = true then (if sig l = true then ((tnF (backOf n).1 l 0 0).1, (tnF (backOf n).1 l 0 0).2, true) else (0, 0, false)) else (0, 0, false)
theorem sig_len {l : List Int} (h : sig l = true) : l.length ≤ 64 := by
  simp [sig] at h
  exact h.1
theorem sig_mem {l : List Int} (h : sig l = true) : ∀ x ∈ l, -100000 ≤ x ∧ x ≤ 100000 := by
  simp [sig] at h
  exact h.2
def isBits (l : List Int) : Bool := decide (l.length ≤ 200) && l.all fun x => decide (x = 1 ∨ x = -1)
theorem isBits_len {l : List Int} (h : isBits l = true) : l.length ≤ 200 := by
  simp [isBits] at h
  exact h.1
theorem isBits_mem {l : List Int} (h : isBits l = true) : ∀ x ∈ l, x = 1 ∨ x = -1 := by
  simp [isBits] at h
  exact h.2
def toldM (l : List Int) : List Int × Bool := if sig l = true then (l, true) else ([], false)
theorem toldM_len (l : List Int) : (toldM l).1.length ≤ 64 := by
  unfold toldM
  split
  · exact sig_len ‹_›
  · simp
def bitM (x v : Int) : Int := if x ≥ v then 1 else -1
theorem bitM_cases (x v : Int) : bitM x v = 1 ∨ bitM x v = -1 := by
  unfold bitM
  split <;> simp
def tkS (st last : Int) (fixed : Bool) (bit : Int) : Int :=
  if fixed = true then st else if last = 0 then st else if bit = last then (if 2 * st ≤ 4096 then 2 * st else 4096) else (if 1 ≤ st / 2 then st / 2 else 1)
theorem tkS_bd {st last : Int} {fixed : Bool} {bit : Int} (h0 : 1 ≤ st) (h1 : st ≤ 4096) : 1 ≤ tkS st last fixed bit ∧ tkS st last fixed bit ≤ 4096 := by
  unfold tkS
  repeat' split
  all_goals omega
theorem mul_bit {st bit : Int} (hb : bit = 1 ∨ bit = -1) : st * bit = st ∨ st * bit = -st := by
  rcases hb with rfl | rfl
  · left; omega
  · right; omega
/-- bit, value and step behind each sample -/
def codeM (fixed : Bool) : List Int → Int → Int → Int → List (Int × Int × Int)
  | [], _, _, _ => []
  | x :: t, v, st, last =>
    let b := bitM x v
    let s := tkS st last fixed b
    (b, v + s * b, s) :: codeM fixed t (v + s * b) s b
theorem codeM_length (fixed : Bool) : ∀ (l : List Int) (v st last : Int), (codeM fixed l v st last).length = l.length
  | [], _, _, _ => rfl
  | x :: t, v, st, last => by simp [codeM, codeM_length fixed t]
def fixM (st : Int) : List Int → Int → List Int
  | [], _ => []
  | x :: t, v => bitM x v :: fixM st t (v + bitM x v * st)
theorem fixM_length (st : Int) : ∀ (l : List Int) (v : Int), (fixM st l v).length = l.length
  | [], _ => rfl
  | x :: t, v => by simp [fixM, fixM_length st t]
def fixedBits (l : List Int) (st : Int) : List Int × Bool := if sig l = true ∧ 1 ≤ st ∧ st ≤ 4096 then (fixM st l 0, true) else ([], false)
def decM (fixed : Bool) : List Int → Int → Int → Int → List (Int × Int)
  | [], _, _, _ => []
  | b :: t, v, st, last => (v + tkS st last fixed b * b, tkS st last fixed b) :: decM fixed t (v + tkS st last fixed b * b) (tkS st last fixed b) b
theorem decM_length (fixed : Bool) : ∀ (l : List Int) (v st last : Int), (decM fixed l v st last).length = l.length
  | [], _, _, _ => rfl
  | x :: t, v, st, last => by simp [decM, decM_length fixed t]
def gapM : List Int → List Int → List Int
  | x :: t, y :: u => (x - y) :: gapM t u
  | _, _ => []
theorem gapM_length : ∀ (l m : List Int), l.length = m.length → (gapM l m).length = l.length
  | [], m, _ => by cases m <;> simp [gapM]
  | x :: t, [], h => by simp at h
  | x :: t, y :: u, h => by
    simp at h
    simp [gapM, gapM_length t u h]
theorem codeM_val (fixed : Bool) : ∀ (l : List Int) (v st last : Int) (n : Int), 1 ≤ st → st ≤ 4096 → -4096 * n ≤ v → v ≤ 4096 * n → ∀ y ∈ (codeM fixed l v st last).map (·.2.1), -4096 * (n + l.length) ≤ y ∧ y ≤ 4096 * (n + l.length)
  | [], _, _, _, _, _, _, _, _, y, hy => by simp [codeM] at hy
  | x :: t, v, st, last, n, h0, h1, hv0, hv1, y, hy => by
    have hb := bitM_cases x v
    have hk := tkS_bd (last := last) (fixed := fixed) (bit := bitM x v) h0 h1
    have hm := mul_bit (st := tkS st last fixed (bitM x v)) hb
    simp only [codeM, List.map_cons, List.mem_cons] at hy
    rcases hy with rfl | hy
    · simp; omega
    · have := codeM_val fixed t _ _ _ (n + 1) hk.1 hk.2 (by omega) (by omega) y hy
      simp; omega
def stepOk (st : Int) : Bool := decide (1 ≤ st) && decide (st ≤ 4096)
theorem stepOk_iff {st : Int} : stepOk st = true ↔ 1 ≤ st ∧ st ≤ 4096 := by simp [stepOk]
def stepBits (l : List Int) (st : Int) : List Int × Bool := if sig l = true then (if stepOk st = true then ((codeM false l 0 st 0).map (·.1), true) else ([], false)) else ([], false)
def stepValues (l : List Int) (st : Int) : List Int × Bool := if isBits l = true then (if stepOk st = true then toldM ((decM false l 0 st 0).map (·.1)) else ([], false)) else ([], false)
def stepsOfBits (l : List Int) (st : Int) : List Int × Bool := if isBits l = true then (if stepOk st = true then toldM ((decM false l 0 st 0).map (·.2)) else ([], false)) else ([], false)
def fixedValues (l : List Int) (st : Int) : List Int × Bool := if isBits l = true then (if stepOk st = true then toldM ((decM true l 0 st 0).map (·.1)) else ([], false)) else ([], false)
def stepGaps (l : List Int) (st : Int) : List Int × Bool := if sig l = true then (if stepOk st = true then toldM (gapM l ((codeM false l 0 st 0).map (·.2.1))) else ([], false)) else ([], false)
def wts (l : List Int) : Bool := decide (1 ≤ l.length) && decide (l.length ≤ 9) && l.all fun x => decide (-1000 ≤ x) && decide (x ≤ 1000)
theorem wts_len {l : List Int} (h : wts l = true) : 1 ≤ l.length ∧ l.length ≤ 9 := by
  simp [wts] at h
  exact ⟨h.1.1, h.1.2⟩
theorem wts_mem {l : List Int} (h : wts l = true) : ∀ x ∈ l, -1000 ≤ x ∧ x ≤ 1000 := by
  simp [wts] at h
  exact h.2
def ratio (p q : Int) : Bool := (decide (1 ≤ p) && decide (p ≤ 8)) && (decide (1 ≤ q) && decide (q ≤ 8))
theorem ratio_iff {p q : Int} : ratio p q = true ↔ (1 ≤ p ∧ p ≤ 8) ∧ (1 ≤ q ∧ q ≤ 8) := by simp [ratio]
def rsOk (h l : List Int) (p q : Int) : Bool := wts h && ((sig l && ratio p q) && decide ((l.length : Int) * p ≤ 64))
def peakM : List Int → Nat → Nat
  | [], m => m
  | x :: t, m => peakM t (max m x.natAbs)

def cv : List Int → List Int → Nat → Int
  | [], _, _ => 0
  | w :: _, s, 0 => w * s.getD 0 0
  | w :: h, s, n + 1 => w * s.getD (n + 1) 0 + cv h s n
def Lf (f : Nat → Int) (N : Nat) : List Int := (List.range N).map f
theorem Lf_length (f : Nat → Int) (N : Nat) : (Lf f N).length = N := by simp [Lf]
theorem rd_Lf (f : Nat → Int) (N i : Nat) (h : i < N) : rd (Lf f N) (i : Int) = f i := by
  simp [rd, Lf, h]
theorem set_Lf (f : Nat → Int) (N i : Nat) (v : Int) : (Lf f N).set i v = Lf (fun n => if n = i then v else f n) N := by
  apply List.ext_getElem
  · simp [Lf]
  · intro n h1 h2
    simp [Lf, List.getElem_set]
    by_cases c : i = n
    · simp [c]
    · rw [if_neg c, if_neg (fun h => c h.symm)]
theorem Lf_congr {f g : Nat → Int} {N : Nat} (h : ∀ n, n < N → f n = g n) : Lf f N = Lf g N := by
  apply List.ext_getElem
  · simp [Lf]
  · intro n h1 h2
    simp [Lf] at h1 ⊢
    exact h n h1
theorem cv_snoc (s : List Int) (w : Int) : ∀ (p : List Int) (n : Nat), cv (p ++ [w]) s n = cv p s n + (if p.length ≤ n then w * s.getD (n - p.length) 0 else 0)
  | [], 0 => by simp [cv]
  | [], n + 1 => by simp [cv]
  | a :: p, 0 => by simp [cv]
  | a :: p, n + 1 => by
    simp only [List.cons_append, cv, cv_snoc s w p n, List.length_cons, Nat.add_le_add_iff_right, Nat.add_sub_add_right]
    omega
theorem getD_bd {s : List Int} {a M : Int} (hM : 0 ≤ M) (h : ∀ x ∈ s, -M ≤ a * x ∧ a * x ≤ M) (n : Nat) : -M ≤ a * s.getD n 0 ∧ a * s.getD n 0 ≤ M := by
  rw [List.getD_eq_getElem?_getD]
  by_cases c : n < s.length
  · rw [List.getElem?_eq_getElem c]
    exact h _ (List.getElem_mem c)
  · rw [List.getElem?_eq_none (by omega)]
    simp
    omega
theorem cv_bd {s : List Int} {M : Int} (hM : 0 ≤ M) : ∀ (h : List Int) (n : Nat), (∀ a ∈ h, ∀ x ∈ s, -M ≤ a * x ∧ a * x ≤ M) → -(h.length * M) ≤ cv h s n ∧ cv h s n ≤ h.length * M
  | [], n, hb => by simp [cv]
  | a :: h, 0, hb => by
    have h1 := getD_bd hM (hb a (by simp)) 0
    have h2 : 0 ≤ (h.length : Int) * M := Int.mul_nonneg (by omega) hM
    simp only [cv, List.length_cons, Int.natCast_add, Int.add_mul]
    omega
  | a :: h, n + 1, hb => by
    have h1 := getD_bd hM (hb a (by simp)) (n + 1)
    have h2 := cv_bd hM h n (fun b hbm => hb b (by simp [hbm]))
    simp only [cv, List.length_cons, Int.natCast_add, Int.add_mul]
    omega
def conv (h s : List Int) : List Int := if s = [] then [] else Lf (cv h s) (h.length + s.length - 1)
theorem conv_length (h s : List Int) (hs : s ≠ []) : (conv h s).length = h.length + s.length - 1 := by
  rw [conv, if_neg hs, Lf_length]
/-- what stands in the list when the weights p are done, and of the weight w the samples q -/
def cvi (p q s : List Int) (w : Int) (n : Nat) : Int := cv p s n + (if p.length ≤ n ∧ n - p.length < q.length then w * s.getD (n - p.length) 0 else 0)
theorem cvi_nil (p s : List Int) (w : Int) : cvi p [] s w = cv p s := by
  funext n
  simp [cvi]
theorem cvi_all (p s : List Int) (w : Int) (n : Nat) : cvi p s s w n = cv (p ++ [w]) s n := by
  rw [cv_snoc, cvi]
  by_cases c : p.length ≤ n
  · by_cases d : n - p.length < s.length
    · rw [if_pos ⟨c, d⟩, if_pos c]
    · rw [if_neg (fun h => d h.2), if_pos c, List.getD_eq_getElem?_getD, List.getElem?_eq_none (by omega)]
      simp
  · rw [if_neg (fun h => c h.1), if_neg c]
theorem getD_mid (q t : List Int) (x : Int) : (q ++ x :: t).getD q.length 0 = x := by simp
theorem cvi_step (p q t : List Int) (w x : Int) (n : Nat) : (if n = p.length + q.length then cvi p q (q ++ x :: t) w n + w * x else cvi p q (q ++ x :: t) w n) = cvi p (q ++ [x]) (q ++ x :: t) w n := by
  unfold cvi
  by_cases c : n = p.length + q.length
  · subst c
    have e : p.length + q.length - p.length = q.length := by omega
    rw [if_pos rfl, e, getD_mid, if_neg (by omega), if_pos ⟨by omega, by simp⟩]
    omega
  · rw [if_neg c]
    by_cases d : p.length ≤ n ∧ n - p.length < q.length
    · rw [if_pos d, if_pos ⟨d.1, by simp; omega⟩]
    · rw [if_neg d, if_neg (fun h => d ⟨h.1, by have := h.2; simp at this; omega⟩)]
theorem Lf_succ (f : Nat → Int) (n : Nat) : Lf f (n + 1) = Lf f n ++ [f n] := by simp [Lf, List.range_succ]
def dropN (len rate first : Nat) : Nat := (len - first + rate - 1) / rate
theorem dropN_lt {len rate first j : Nat} (hr : 1 ≤ rate) : j < dropN len rate first ↔ first + j * rate < len := by
  unfold dropN
  rw [Nat.lt_iff_add_one_le, Nat.le_div_iff_mul_le (by omega), Nat.add_mul]
  omega
def dropM (l : List Int) (rate first : Nat) : List Int := Lf (fun j => l.getD (first + j * rate) 0) (dropN l.length rate first)
theorem dropM_length (l : List Int) (rate first : Nat) : (dropM l rate first).length = dropN l.length rate first := Lf_length _ _
theorem dropN_le {len rate first : Nat} (hr : 1 ≤ rate) : dropN len rate first ≤ len := by
  apply Nat.le_of_not_lt
  intro h
  have := (dropN_lt hr).1 h
  have h2 : len * 1 ≤ len * rate := Nat.mul_le_mul_left len hr
  omega
def stuffM (p : Nat) : List Int → List Int
  | [] => []
  | x :: t => (x :: List.replicate (p - 1) 0) ++ stuffM p t
theorem stuffM_length (p : Nat) (hp : 1 ≤ p) : ∀ l : List Int, (stuffM p l).length = l.length * p
  | [] => by simp [stuffM]
  | x :: t => by
    simp only [stuffM, List.length_append, List.length_cons, List.length_replicate, stuffM_length p hp t, Nat.add_mul]
    omega
theorem stuffM_snoc (p : Nat) (x : Int) : ∀ l : List Int, stuffM p (l ++ [x]) = stuffM p l ++ (x :: List.replicate (p - 1) 0)
  | [] => by simp [stuffM]
  | y :: t => by simp [stuffM, stuffM_snoc p x t]
theorem rd_getD (l : List Int) (i : Nat) : rd l (i : Int) = l.getD i 0 := by simp [rd]
theorem stuffM_sig (p : Nat) : ∀ l : List Int, (∀ x ∈ l, -100000 ≤ x ∧ x ≤ 100000) → ∀ x ∈ stuffM p l, -100000 ≤ x ∧ x ≤ 100000
  | [], _, x, h => by simp [stuffM] at h
  | y :: t, hl, x, h => by
    simp only [stuffM, List.mem_append, List.mem_cons, List.mem_replicate] at h
    rcases h with (rfl | ⟨_, rfl⟩) | h
    · exact hl _ (by simp)
    · omega
    · exact stuffM_sig p t (fun z hz => hl z (by simp [hz])) x h
theorem sig_iff {l : List Int} : sig l = true ↔ l.length ≤ 64 ∧ ∀ x ∈ l, -100000 ≤ x ∧ x ≤ 100000 := by simp [sig]
theorem ediv_bd {x b : Int} (hb : 0 < b) (hx : -4611686018427387904 ≤ x ∧ x ≤ 4611686018427387904) : -4611686018427387905 ≤ x / b ∧ x / b ≤ 4611686018427387905 := by
  have h0 := Int.emod_nonneg x (show b ≠ 0 by omega)
  have h1 := Int.emod_lt_of_pos x hb
  have h2 := Int.emod_add_mul_ediv x b
  constructor
  · apply Int.not_lt.1
    intro h
    have : b * (x / b) ≤ 1 * (x / b) := Int.mul_le_mul_of_nonpos_right (by omega) (by omega)
    have h3 : b * (x / b) ≤ b * (-4611686018427387906) := Int.mul_le_mul_of_nonneg_left (by omega) (by omega)
    omega
  · apply Int.not_lt.1
    intro h
    have h3 : 1 * (x / b) ≤ b * (x / b) := Int.mul_le_mul_of_nonneg_right (by omega) (by omega)
    omega
def atM (s : List Int) (i : Int) : Int := if 0 ≤ i then s.getD i.toNat 0 else 0
theorem getD_all {l : List Int} {M : Int} (hM : 0 ≤ M) (h : ∀ x ∈ l, -M ≤ x ∧ x ≤ M) (n : Nat) : -M ≤ l.getD n 0 ∧ l.getD n 0 ≤ M := by
  rw [List.getD_eq_getElem?_getD]
  by_cases c : n < l.length
  · rw [List.getElem?_eq_getElem c]
    exact h _ (List.getElem_mem c)
  · rw [List.getElem?_eq_none (by omega)]
    simp
    omega

theorem spec_l1In_eq (a b c : Int) : spec_l1In.f a b c = some (decide (b ≤ a) && decide (a ≤ c)) := by
  unfold spec_l1In.f
  by_cases h : b ≤ a <;> simp [h]

theorem impl_in_eq (a b c : Int) : impl_in.f a b c = some (decide (b ≤ a) && decide (a ≤ c)) := by
  unfold impl_in.f
  by_cases h : b ≤ a <;> simp [h]

theorem spec_l1All_l0 (lo hi : Int) (l : List Int) (hl : l.length ≤ 140737488351232) : ∀ (t p : List Int), l = p ++ t → Ev (fun k => spec_l1All.l0 k lo hi l (l.length : Int) (p.length : Int)) (t.all fun x => decide (lo ≤ x) && decide (x ≤ hi))
  | [], p, h => by
    apply Ev.step (f := fun _ => some _)
    · intro k
      subst h
      simp [spec_l1All.l0]; rfl
    · exact Ev.now _
  | x :: t, p, h => by
    have e1 : (p.length : Int) < (l.length : Int) := by rw [h]; exact lt_mid p t x
    have e2 : rd l (p.length : Int) = x := by rw [h]; exact rd_mid p t x
    have e3 : wrap64 ((p.length : Int) + 1) = ((p ++ [x]).length : Int) := nx_mid p t x (h ▸ hl)
    by_cases c : (decide (lo ≤ x) && decide (x ≤ hi)) = true
    · refine Ev.to (Ev.step (fun k => ?_) (spec_l1All_l0 lo hi l hl t (p ++ [x]) (by simp [h]))) (by rw [List.all_cons, c, Bool.true_and])
      simp only [spec_l1All.l0, if_pos e1, if_pos (Int.natCast_nonneg _), e2, e3, spec_l1In_eq, Option.bind_some, if_pos c]
    · refine Ev.to (Ev.step (fun k => ?_) (Ev.now false)) (by rw [List.all_cons, Bool.eq_false_iff.mpr c, Bool.false_and])
      simp only [spec_l1All.l0, if_pos e1, if_pos (Int.natCast_nonneg _), e2, e3, spec_l1In_eq, Option.bind_some, if_neg c]
theorem spec_l1All_ev (l : List Int) (lo hi : Int) (hl : l.length ≤ 140737488351232) : Ev (fun k => spec_l1All.f k l lo hi) (l.all fun x => decide (lo ≤ x) && decide (x ≤ hi)) := by
  simpa [spec_l1All.f] using spec_l1All_l0 lo hi l hl l [] rfl

theorem spec_wdSignal_ev (l : List Int) (hl : l.length ≤ 140737488351232) : Ev (fun k => spec_wdSignal.f k l) (sig l) := by
  simp only [spec_wdSignal.f]
  by_cases c : (l.length : Int) ≤ 64
  · refine Ev.tt c (Ev.bind (spec_l1All_ev l (-100000) 100000 hl) (Ev.to (Ev.now _) ?_))
    simp [sig]; omega
  · refine Ev.ff c (Ev.to (Ev.now _) ?_)
    simp [sig]; omega

theorem impl_isSignal_c1_eq (x : Int) : impl_isSignal_c1.f x = some (!(decide (-100000 ≤ x) && decide (x ≤ 100000))) := by
  unfold impl_isSignal_c1.f
  rw [impl_in_eq]
  rfl
theorem indexSignal_l0 (l : List Int) (hl : l.length ≤ 140737488351232) : ∀ (t p : List Int), l = p ++ t → ∃ r, Ev (fun k => slices_IndexFunc_int_int_impl_isSignal_c1.l0 k l (l.length : Int) (p.length : Int)) r ∧ (decide (r ≥ 0) = !(t.all fun x => decide (-100000 ≤ x) && decide (x ≤ 100000)))
  | [], p, h => by
    refine ⟨-1, Ev.step (f := fun _ => some (-1)) ?_ (Ev.now _), by simp⟩
    intro k
    subst h
    simp [slices_IndexFunc_int_int_impl_isSignal_c1.l0]
  | x :: t, p, h => by
    have e1 : (p.length : Int) < (l.length : Int) := by rw [h]; exact lt_mid p t x
    have e2 : rd l (p.length : Int) = x := by rw [h]; exact rd_mid p t x
    have e3 : wrap64 ((p.length : Int) + 1) = ((p ++ [x]).length : Int) := nx_mid p t x (h ▸ hl)
    by_cases c : (decide (-100000 ≤ x) && decide (x ≤ 100000)) = true
    · obtain ⟨r, h1, h2⟩ := indexSignal_l0 l hl t (p ++ [x]) (by simp [h])
      refine ⟨r, Ev.step (fun k => ?_) h1, by rw [h2, List.all_cons, c, Bool.true_and]⟩
      simp only [slices_IndexFunc_int_int_impl_isSignal_c1.l0, if_pos e1, if_pos (Int.natCast_nonneg _), e2, e3, impl_isSignal_c1_eq, c, Option.bind_some, Bool.not_true]
      rfl
    · have c := Bool.eq_false_iff.mpr c
      refine ⟨(p.length : Int), Ev.step (fun k => ?_) (Ev.now _), by rw [List.all_cons, c]; simp⟩
      simp only [slices_IndexFunc_int_int_impl_isSignal_c1.l0, if_pos e1, if_pos (Int.natCast_nonneg _), e2, e3, impl_isSignal_c1_eq, c, Option.bind_some, Bool.not_false]
      rfl
theorem impl_isSignal_ev (l : List Int) (hl : l.length ≤ 140737488351232) : Ev (fun k => impl_isSignal.f k l) (sig l) := by
  simp only [impl_isSignal.f]
  by_cases c : (l.length : Int) ≤ 64
  · obtain ⟨r, h1, h2⟩ := indexSignal_l0 l hl l [] rfl
    refine Ev.tt c (Ev.bind (a := decide (r ≥ 0)) ?_ (Ev.to (Ev.now _) ?_))
    · simp only [slices_ContainsFunc_int_int_impl_isSignal_c1.f, slices_IndexFunc_int_int_impl_isSignal_c1.f]
      exact Ev.bind h1 (Ev.now _)
    · rw [h2]; simp [sig]; omega
  · refine Ev.ff c (Ev.to (Ev.now _) ?_)
    simp [sig]; omega

theorem spec_tnBits_l0 (l : List Int) (hl : l.length ≤ 140737488351232) : ∀ (t p : List Int), l = p ++ t → Ev (fun k => spec_tnBits.l0 k l (l.length : Int) (p.length : Int)) (t.all fun x => decide (x = 1 ∨ x = -1))
  | [], p, h => by
    refine Ev.to (Ev.step (f := fun _ => some true) (fun k => ?_) (Ev.now _)) (by simp)
    subst h
    simp [spec_tnBits.l0]
  | x :: t, p, h => by
    have e1 : (p.length : Int) < (l.length : Int) := by rw [h]; exact lt_mid p t x
    have e2 : rd l (p.length : Int) = x := by rw [h]; exact rd_mid p t x
    have e3 : wrap64 ((p.length : Int) + 1) = ((p ++ [x]).length : Int) := nx_mid p t x (h ▸ hl)
    by_cases c1 : x = 1
    · refine Ev.to (Ev.step (fun k => ?_) (spec_tnBits_l0 l hl t (p ++ [x]) (by simp [h]))) (by simp [c1])
      simp only [spec_tnBits.l0, if_pos e1, if_pos (Int.natCast_nonneg _), e2, e3, if_pos c1]
    · by_cases c2 : x = -1
      · refine Ev.to (Ev.step (fun k => ?_) (spec_tnBits_l0 l hl t (p ++ [x]) (by simp [h]))) (by simp [c2])
        simp only [spec_tnBits.l0, if_pos e1, if_pos (Int.natCast_nonneg _), e2, e3, if_neg c1, if_pos c2]
      · refine Ev.to (Ev.step (fun k => ?_) (Ev.now false)) (by simp [c1, c2])
        simp only [spec_tnBits.l0, if_pos e1, if_pos (Int.natCast_nonneg _), e2, e3, if_neg c1, if_neg c2]
theorem spec_tnBits_ev (l : List Int) (hl : l.length ≤ 140737488351232) : Ev (fun k => spec_tnBits.f k l) (isBits l) := by
  simp only [spec_tnBits.f]
  by_cases c : (l.length : Int) > 200
  · exact Ev.tt c (Ev.to (Ev.now _) (by simp [isBits]; omega))
  · exact Ev.ff c (Ev.to (spec_tnBits_l0 l hl l [] rfl) (by have : l.length ≤ 200 := by omega
                                                            simp [isBits, this]))

theorem impl_areBits_c1_eq (x : Int) : impl_areBits_c1.f x = some (!decide (x = 1 ∨ x = -1)) := by
  unfold impl_areBits_c1.f
  by_cases c1 : x = 1
  · simp [c1]
  · by_cases c2 : x = -1 <;> simp [c1, c2]
theorem indexBits_l0 (l : List Int) (hl : l.length ≤ 140737488351232) : ∀ (t p : List Int), l = p ++ t → ∃ r, Ev (fun k => slices_IndexFunc_int_int_impl_areBits_c1.l0 k l (l.length : Int) (p.length : Int)) r ∧ (decide (r ≥ 0) = !(t.all fun x => decide (x = 1 ∨ x = -1)))
  | [], p, h => by
    refine ⟨-1, Ev.step (f := fun _ => some (-1)) ?_ (Ev.now _), by simp⟩
    intro k
    subst h
    simp [slices_IndexFunc_int_int_impl_areBits_c1.l0]
  | x :: t, p, h => by
    have e1 : (p.length : Int) < (l.length : Int) := by rw [h]; exact lt_mid p t x
    have e2 : rd l (p.length : Int) = x := by rw [h]; exact rd_mid p t x
    have e3 : wrap64 ((p.length : Int) + 1) = ((p ++ [x]).length : Int) := nx_mid p t x (h ▸ hl)
    by_cases c : decide (x = 1 ∨ x = -1) = true
    · obtain ⟨r, h1, h2⟩ := indexBits_l0 l hl t (p ++ [x]) (by simp [h])
      refine ⟨r, Ev.step (fun k => ?_) h1, by rw [h2, List.all_cons, c, Bool.true_and]⟩
      simp only [slices_IndexFunc_int_int_impl_areBits_c1.l0, if_pos e1, if_pos (Int.natCast_nonneg _), e2, e3, impl_areBits_c1_eq, c, Option.bind_some, Bool.not_true]
      rfl
    · have c := Bool.eq_false_iff.mpr c
      refine ⟨(p.length : Int), Ev.step (fun k => ?_) (Ev.now _), by rw [List.all_cons, c]; simp⟩
      simp only [slices_IndexFunc_int_int_impl_areBits_c1.l0, if_pos e1, if_pos (Int.natCast_nonneg _), e2, e3, impl_areBits_c1_eq, c, Option.bind_some, Bool.not_false]
      rfl
theorem impl_areBits_ev (l : List Int) (hl : l.length ≤ 140737488351232) : Ev (fun k => impl_areBits.f k l) (isBits l) := by
  simp only [impl_areBits.f]
  by_cases c : (l.length : Int) ≤ 200
  · obtain ⟨r, h1, h2⟩ := indexBits_l0 l hl l [] rfl
    refine Ev.tt c (Ev.bind (a := decide (r ≥ 0)) ?_ (Ev.to (Ev.now _) ?_))
    · simp only [slices_ContainsFunc_int_int_impl_areBits_c1.f, slices_IndexFunc_int_int_impl_areBits_c1.f]
      exact Ev.bind h1 (Ev.now _)
    · have : l.length ≤ 200 := by omega
      rw [h2]; simp [isBits, this]
  · refine Ev.ff c (Ev.to (Ev.now _) ?_)
    simp [isBits]; omega

theorem spec_wdIf_ev (l : List Int) (hl : l.length ≤ 140737488351232) : Ev (fun k => spec_wdIf.f k l) (toldM l) := by
  simp only [spec_wdIf.f, toldM]
  refine Ev.bind (spec_wdSignal_ev l hl) ?_
  by_cases c : sig l = true
  · exact Ev.tt c (Ev.to (Ev.now _) (by rw [if_pos c]))
  · exact Ev.ff c (Ev.to (Ev.now _) (by rw [if_neg c]))

theorem impl_told_ev (l : List Int) (hl : l.length ≤ 140737488351232) : Ev (fun k => impl_told.f k l) (toldM l) := by
  simp only [impl_told.f, toldM]
  refine Ev.bind (impl_isSignal_ev l hl) ?_
  by_cases c : sig l = true
  · exact Ev.tt c (Ev.to (Ev.now _) (by rw [if_pos c]))
  · exact Ev.ff c (Ev.to (Ev.now _) (by rw [if_neg c]))

theorem spec_tnStep_eq (n : Int) : spec_tnStep.f n = some (decide (1 ≤ n) && decide (n ≤ 4096)) := by
  unfold spec_tnStep.f
  rw [spec_l1In_eq]
  rfl

theorem impl_isStep_eq (n : Int) : impl_isStep.f n = some (decide (1 ≤ n) && decide (n ≤ 4096)) := by
  unfold impl_isStep.f
  rw [impl_in_eq]
  rfl

theorem spec_tnBit_eq (x v : Int) : spec_tnBit.f x v = some (bitM x v) := by
  unfold spec_tnBit.f bitM
  split <;> rfl

theorem impl_bitOf_eq (x : Int) : impl_bitOf.f x = some (if x ≥ 0 then 1 else -1) := by
  unfold impl_bitOf.f
  split <;> rfl

theorem impl_stepper_take_eq {v st last : Int} {fixed : Bool} {bit : Int} (hv0 : -1000000000 ≤ v) (hv1 : v ≤ 1000000000) (h0 : 1 ≤ st) (h1 : st ≤ 4096) (hb : bit = 1 ∨ bit = -1) :
    impl_stepper_take.f v st last fixed bit = some (v + tkS st last fixed bit * bit, tkS st last fixed bit, bit, fixed) := by
  have hd : Int.tdiv st 2 = st / 2 := Int.tdiv_eq_ediv_of_nonneg (by omega)
  have key : ∀ s : Int, 1 ≤ s → s ≤ 4096 → wrap64 (v + wrap64 (s * bit)) = v + s * bit := by
    intro s hs0 hs1
    have hm := mul_bit (st := s) hb
    have e1 : wrap64 (s * bit) = s * bit := w64 (by omega) (by omega)
    rw [e1]
    exact w64 (by omega) (by omega)
  have w2 : wrap64 (2 * st) = 2 * st := w64 (by omega) (by omega)
  have w3 : wrap64 (st / 2) = st / 2 := w64 (by omega) (by omega)
  have k1 := key 1 (by omega) (by omega)
  rw [Int.one_mul] at k1
  unfold impl_stepper_take.f tkS
  rw [hd, w2, w3]
  by_cases c1 : fixed = true
  · simp only [if_pos c1]
    rw [key st h0 h1]
  · simp only [if_neg c1]
    by_cases c2 : last = 0
    · simp only [if_pos c2]
      rw [key st h0 h1]
    · simp only [if_neg c2]
      by_cases c3 : bit = last
      · simp only [if_pos c3]
        by_cases c4 : 4096 < 2 * st
        · rw [if_pos c4, if_neg (by omega), key 4096 (by omega) (by omega)]
        · rw [if_neg c4, if_pos (by omega), key (2 * st) (by omega) (by omega)]
      · simp only [if_neg c3]
        by_cases c4 : st / 2 < 1
        · rw [if_pos c4, if_neg (by omega), k1, Int.one_mul]
        · rw [if_neg c4, if_pos (by omega), key (st / 2) (by omega) (by omega)]

theorem impl_coded_l0 (fixed : Bool) (l : List Int) (hl : l.length ≤ 64) (hs : ∀ x ∈ l, -100000 ≤ x ∧ x ≤ 100000) : ∀ (t p B V : List Int) (v st last : Int), l = p ++ t → B.length = p.length → V.length = p.length →
    -4096 * (p.length : Int) ≤ v → v ≤ 4096 * (p.length : Int) → 1 ≤ st → st ≤ 4096 →
    ∃ z, Ev (fun k => impl_coded.l0 k B V l (l.length : Int) (p.length : Int) v st last fixed) (B ++ (codeM fixed t v st last).map (·.1), V ++ (codeM fixed t v st last).map (·.2.1), z)
  | [], p, B, V, v, st, last, h, hB, hV, hv0, hv1, h0, h1 => by
    refine ⟨(v, st, last, fixed), Ev.to (Ev.step (f := fun _ => some (B, V, v, st, last, fixed)) (fun k => ?_) (Ev.now _)) (by simp [codeM])⟩
    subst h
    simp [impl_coded.l0]
  | x :: t, p, B, V, v, st, last, h, hB, hV, hv0, hv1, h0, h1 => by
    have e1 : (p.length : Int) < (l.length : Int) := by rw [h]; exact lt_mid p t x
    have e2 : rd l (p.length : Int) = x := by rw [h]; exact rd_mid p t x
    have e3 : wrap64 ((p.length : Int) + 1) = ((p ++ [x]).length : Int) := nx_mid p t x (by rw [← h]; omega)
    have hx := hs x (by rw [h]; simp)
    have ew : wrap64 (x - v) = x - v := w64 (by omega) (by omega)
    have eb : (if x - v ≥ 0 then (1 : Int) else -1) = bitM x v := by
      unfold bitM
      by_cases c : x ≥ v
      · rw [if_pos c, if_pos (by omega)]
      · rw [if_neg c, if_neg (by omega)]
    have hb := bitM_cases x v
    have hk := tkS_bd (last := last) (fixed := fixed) (bit := bitM x v) h0 h1
    obtain ⟨z, ih⟩ := impl_coded_l0 fixed l hl hs t (p ++ [x]) (B ++ [bitM x v]) (V ++ [v + tkS st last fixed (bitM x v) * bitM x v]) (v + tkS st last fixed (bitM x v) * bitM x v) (tkS st last fixed (bitM x v)) (bitM x v) (by simp [h]) (by simp [hB]) (by simp [hV])
      (by simp; rcases mul_bit (st := tkS st last fixed (bitM x v)) hb with e | e <;> rw [e] <;> omega)
      (by simp; rcases mul_bit (st := tkS st last fixed (bitM x v)) hb with e | e <;> rw [e] <;> omega) hk.1 hk.2
    refine ⟨z, Ev.to (Ev.step (fun k => ?_) ih) (by simp [codeM])⟩
    simp only [impl_coded.l0, if_pos e1, if_pos (Int.natCast_nonneg _), e2, e3, ew, impl_bitOf_eq, eb, Option.bind_some, impl_stepper_take_eq (v := v) (st := st) (last := last) (fixed := fixed) (bit := bitM x v) (by omega) (by omega) h0 h1 hb]
    rw [if_pos (by simp; omega), if_pos (by simp; omega)]
theorem impl_coded_ev (fixed : Bool) (l : List Int) (first : Int) (hs : sig l = true) (h0 : 1 ≤ first) (h1 : first ≤ 4096) :
    ∃ z, Ev (fun k => impl_coded.f k l 0 first 0 fixed) ((codeM fixed l 0 first 0).map (·.1), (codeM fixed l 0 first 0).map (·.2.1), z) := by
  obtain ⟨z, h⟩ := impl_coded_l0 fixed l (sig_len hs) (sig_mem hs) l [] [] [] 0 first 0 rfl rfl rfl (by simp) (by simp) h0 h1
  exact ⟨z, by simpa [impl_coded.f] using h⟩

theorem spec_FixedBits_l0 (st : Int) (h0 : 1 ≤ st) (h1 : st ≤ 4096) (l : List Int) (hl : l.length ≤ 64) : ∀ (t p B : List Int) (v : Int), l = p ++ t → B.length = p.length → -4096 * (p.length : Int) ≤ v → v ≤ 4096 * (p.length : Int) →
    Ev (fun k => spec_FixedBits.l0 k st B v l (l.length : Int) (p.length : Int)) (B ++ fixM st t v, true)
  | [], p, B, v, h, hB, hv0, hv1 => by
    refine Ev.to (Ev.step (f := fun _ => some (B, true)) (fun k => ?_) (Ev.now _)) (by simp [fixM])
    subst h
    simp [spec_FixedBits.l0]
  | x :: t, p, B, v, h, hB, hv0, hv1 => by
    have e1 : (p.length : Int) < (l.length : Int) := by rw [h]; exact lt_mid p t x
    have e2 : rd l (p.length : Int) = x := by rw [h]; exact rd_mid p t x
    have e3 : wrap64 ((p.length : Int) + 1) = ((p ++ [x]).length : Int) := nx_mid p t x (by rw [← h]; omega)
    have hb := bitM_cases x v
    have e4 : wrap64 (v + wrap64 (bitM x v * st)) = v + bitM x v * st := by
      rw [Int.mul_comm (bitM x v)]
      have hm := mul_bit (st := st) hb
      have e1 : wrap64 (st * bitM x v) = st * bitM x v := w64 (by omega) (by omega)
      rw [e1]
      exact w64 (by omega) (by omega)
    refine Ev.to (Ev.step (fun k => ?_) (spec_FixedBits_l0 st h0 h1 l hl t (p ++ [x]) (B ++ [bitM x v]) (v + bitM x v * st) (by simp [h]) (by simp [hB]) ?_ ?_)) (by simp [fixM])
    · simp only [spec_FixedBits.l0, if_pos e1, if_pos (Int.natCast_nonneg _), e2, e3, spec_tnBit_eq, Option.bind_some, e4]
      rw [if_pos (by omega)]
    · rw [Int.mul_comm (bitM x v)]
      simp
      rcases mul_bit (st := st) hb with e | e <;> rw [e] <;> omega
    · rw [Int.mul_comm (bitM x v)]
      simp
      rcases mul_bit (st := st) hb with e | e <;> rw [e] <;> omega
theorem spec_FixedBits_ev (l : List Int) (st : Int) (hl : l.length ≤ 140737488351232) : Ev (fun k => spec_FixedBits.f k l st) (fixedBits l st) := by
  simp only [spec_FixedBits.f, fixedBits]
  refine Ev.bind (spec_wdSignal_ev l hl) ?_
  by_cases c : sig l = true
  · refine Ev.tt c (Ev.dbind (spec_tnStep_eq st) ?_)
    by_cases d : 1 ≤ st ∧ st ≤ 4096
    · rw [if_pos ⟨c, d⟩]
      refine Ev.step (fun k => by simp [spec_FixedBits.j0, d.1, d.2]) (spec_FixedBits_l0 st d.1 d.2 l (sig_len c) l [] [] 0 rfl rfl (by simp) (by simp))
    · rw [if_neg (fun h => d h.2)]
      refine Ev.step (f := fun _ => some ([], false)) (fun k => ?_) (Ev.now _)
      have d' : (decide (1 ≤ st) && decide (st ≤ 4096)) = false := by simp; omega
      rw [d']
      simp [spec_FixedBits.j0]
  · rw [if_neg (fun h => c h.1)]
    exact Ev.ff c (Ev.step (fun k => by simp only [spec_FixedBits.j0]; rfl) (Ev.now _))

theorem codeM_fix (st : Int) : ∀ (l : List Int) (v last : Int), (codeM true l v st last).map (·.1) = fixM st l v
  | [], _, _ => rfl
  | x :: t, v, last => by simp [codeM, fixM, tkS, codeM_fix st t, Int.mul_comm]
theorem impl_FixedBits_ev (l : List Int) (st : Int) (hl : l.length ≤ 140737488351232) : Ev (fun k => impl_FixedBits.f k l st) (fixedBits l st) := by
  simp only [impl_FixedBits.f, fixedBits]
  refine Ev.bind (impl_isSignal_ev l hl) ?_
  by_cases c : sig l = true
  · refine Ev.tt c (Ev.dbind (impl_isStep_eq st) ?_)
    by_cases d : 1 ≤ st ∧ st ≤ 4096
    · rw [if_pos ⟨c, d⟩]
      obtain ⟨z, h⟩ := impl_coded_ev true l st c d.1 d.2
      refine Ev.tt (by simp [d.1, d.2]) (Ev.bind h (Ev.to (Ev.now _) (by simp [codeM_fix])))
    · rw [if_neg (fun h => d h.2)]
      exact Ev.ff (by simp; omega) (Ev.now _)
  · rw [if_neg (fun h => c h.1)]
    exact Ev.ff c (Ev.now _)
theorem FixedBits_agree (l : List Int) (st : Int) (hl : l.length ≤ 1048576) : ∃ r, Ev (fun k => spec_FixedBits.f k l st) r ∧ Ev (fun k => impl_FixedBits.f k l st) r ∧ r.1.length ≤ 1000000 := by
  refine ⟨_, spec_FixedBits_ev l st (by omega), impl_FixedBits_ev l st (by omega), ?_⟩
  unfold fixedBits
  split
  · rename_i h
    have := sig_len h.1
    simp [fixM_length]; omega
  · simp

theorem impl_decoded_l0 (fixed : Bool) (l : List Int) (hl : l.length ≤ 200) (hs : ∀ x ∈ l, x = 1 ∨ x = -1) : ∀ (t p S V : List Int) (v st last : Int), l = p ++ t → S.length = p.length → V.length = p.length →
    -4096 * (p.length : Int) ≤ v → v ≤ 4096 * (p.length : Int) → 1 ≤ st → st ≤ 4096 →
    ∃ z, Ev (fun k => impl_decoded.l0 k S V l (l.length : Int) (p.length : Int) v st last fixed) (S ++ (decM fixed t v st last).map (·.2), V ++ (decM fixed t v st last).map (·.1), z)
  | [], p, B, V, v, st, last, h, hB, hV, hv0, hv1, h0, h1 => by
    refine ⟨(v, st, last, fixed), Ev.to (Ev.step (f := fun _ => some (B, V, v, st, last, fixed)) (fun k => ?_) (Ev.now _)) (by simp [decM])⟩
    subst h
    simp [impl_decoded.l0]
  | x :: t, p, B, V, v, st, last, h, hB, hV, hv0, hv1, h0, h1 => by
    have e1 : (p.length : Int) < (l.length : Int) := by rw [h]; exact lt_mid p t x
    have e2 : rd l (p.length : Int) = x := by rw [h]; exact rd_mid p t x
    have e3 : wrap64 ((p.length : Int) + 1) = ((p ++ [x]).length : Int) := nx_mid p t x (by rw [← h]; omega)
    have hb := hs x (by rw [h]; simp)
    have hk := tkS_bd (last := last) (fixed := fixed) (bit := x) h0 h1
    have hm := mul_bit (st := tkS st last fixed x) hb
    obtain ⟨z, ih⟩ := impl_decoded_l0 fixed l hl hs t (p ++ [x]) (B ++ [tkS st last fixed x]) (V ++ [v + tkS st last fixed x * x]) (v + tkS st last fixed x * x) (tkS st last fixed x) x (by simp [h]) (by simp [hB]) (by simp [hV])
      (by simp; omega) (by simp; omega) hk.1 hk.2
    refine ⟨z, Ev.to (Ev.step (fun k => ?_) ih) (by simp [decM])⟩
    simp only [impl_decoded.l0, if_pos e1, if_pos (Int.natCast_nonneg _), e2, e3, Option.bind_some, impl_stepper_take_eq (v := v) (st := st) (last := last) (fixed := fixed) (bit := x) (by omega) (by omega) h0 h1 hb]
    rw [if_pos (by simp; omega), if_pos (by simp; omega)]
theorem impl_decoded_ev (fixed : Bool) (l : List Int) (first : Int) (hs : isBits l = true) (h0 : 1 ≤ first) (h1 : first ≤ 4096) :
    ∃ z, Ev (fun k => impl_decoded.f k l 0 first 0 fixed) ((decM fixed l 0 first 0).map (·.2), (decM fixed l 0 first 0).map (·.1), z) := by
  obtain ⟨z, h⟩ := impl_decoded_l0 fixed l (isBits_len hs) (isBits_mem hs) l [] [] [] 0 first 0 rfl rfl rfl (by simp) (by simp) h0 h1
  exact ⟨z, by simpa [impl_decoded.f] using h⟩

theorem spec_tnStepper_take_eq {v st last : Int} {bit : Int} (hv0 : -1000000000 ≤ v) (hv1 : v ≤ 1000000000) (h0 : 1 ≤ st) (h1 : st ≤ 4096) (hb : bit = 1 ∨ bit = -1) :
    spec_tnStepper_take.f v st last bit = some (v + tkS st last false bit * bit, tkS st last false bit, bit) := by
  have hd : Int.tdiv st 2 = st / 2 := Int.tdiv_eq_ediv_of_nonneg (by omega)
  have key : ∀ s : Int, 1 ≤ s → s ≤ 4096 → wrap64 (v + wrap64 (bit * s)) = v + s * bit := by
    intro s hs0 hs1
    have hm := mul_bit (st := s) hb
    rw [Int.mul_comm bit s]
    have e1 : wrap64 (s * bit) = s * bit := w64 (by omega) (by omega)
    rw [e1]
    exact w64 (by omega) (by omega)
  have w2 : wrap64 (2 * st) = 2 * st := w64 (by omega) (by omega)
  have w3 : wrap64 (st / 2) = st / 2 := w64 (by omega) (by omega)
  unfold spec_tnStepper_take.f
  rw [hd, w2, w3]
  simp only [tkS, Bool.false_eq_true, if_false]
  by_cases c2 : last = 0
  · simp only [if_pos c2]
    rw [key st h0 h1]
  · simp only [if_neg c2]
    by_cases c3 : bit = last
    · simp only [if_pos c3, spec_l1Least.f]
      by_cases c4 : 2 * st < 4096
      · rw [if_pos c4, if_pos (by omega), Option.bind_some, key (2 * st) (by omega) (by omega)]
      · rw [if_neg c4, Option.bind_some, key 4096 (by omega) (by omega)]
        split
        · rw [show 2 * st = 4096 by omega]
        · rfl
    · simp only [if_neg c3, spec_l1Most.f]
      by_cases c4 : st / 2 > 1
      · rw [if_pos c4, if_pos (by omega), Option.bind_some, key (st / 2) (by omega) (by omega)]
      · rw [if_neg c4, Option.bind_some, key 1 (by omega) (by omega)]
        split
        · rw [show st / 2 = 1 by omega]
        · rfl

theorem spec_tnCode_l0 (l : List Int) (hl : l.length ≤ 64) (hs : ∀ x ∈ l, -100000 ≤ x ∧ x ≤ 100000) : ∀ (t p B V : List Int) (v st last : Int), l = p ++ t → B.length = p.length → V.length = p.length →
    -4096 * (p.length : Int) ≤ v → v ≤ 4096 * (p.length : Int) → 1 ≤ st → st ≤ 4096 →
    Ev (fun k => spec_tnCode.l0 k B V l (l.length : Int) (p.length : Int) v st last) (B ++ (codeM false t v st last).map (·.1), V ++ (codeM false t v st last).map (·.2.1))
  | [], p, B, V, v, st, last, h, hB, hV, hv0, hv1, h0, h1 => by
    refine Ev.to (Ev.step (f := fun _ => some (B, V)) (fun k => ?_) (Ev.now _)) (by simp [codeM])
    subst h
    simp [spec_tnCode.l0]
  | x :: t, p, B, V, v, st, last, h, hB, hV, hv0, hv1, h0, h1 => by
    have e1 : (p.length : Int) < (l.length : Int) := by rw [h]; exact lt_mid p t x
    have e2 : rd l (p.length : Int) = x := by rw [h]; exact rd_mid p t x
    have e3 : wrap64 ((p.length : Int) + 1) = ((p ++ [x]).length : Int) := nx_mid p t x (by rw [← h]; omega)
    have hx := hs x (by rw [h]; simp)
    have hb := bitM_cases x v
    have hk := tkS_bd (last := last) (fixed := false) (bit := bitM x v) h0 h1
    have hm := mul_bit (st := tkS st last false (bitM x v)) hb
    refine Ev.to (Ev.step (fun k => ?_) (spec_tnCode_l0 l hl hs t (p ++ [x]) (B ++ [bitM x v]) (V ++ [v + tkS st last false (bitM x v) * bitM x v]) (v + tkS st last false (bitM x v) * bitM x v) (tkS st last false (bitM x v)) (bitM x v) (by simp [h]) (by simp [hB]) (by simp [hV])
      (by simp; omega) (by simp; omega) hk.1 hk.2)) (by simp [codeM])
    simp only [spec_tnCode.l0, if_pos e1, if_pos (Int.natCast_nonneg _), e2, e3, spec_tnBit_eq, Option.bind_some, spec_tnStepper_take_eq (v := v) (st := st) (last := last) (bit := bitM x v) (by omega) (by omega) h0 h1 hb]
    rw [if_pos (by omega), if_pos (by omega)]
theorem spec_tnCode_ev (l : List Int) (first : Int) (hs : sig l = true) (h0 : 1 ≤ first) (h1 : first ≤ 4096) :
    Ev (fun k => spec_tnCode.f k l first) ((codeM false l 0 first 0).map (·.1), (codeM false l 0 first 0).map (·.2.1)) := by
  have h := spec_tnCode_l0 l (sig_len hs) (sig_mem hs) l [] [] [] 0 first 0 rfl rfl rfl (by simp) (by simp) h0 h1
  simpa [spec_tnCode.f] using h

theorem spec_tnDecode_l0 (l : List Int) (hl : l.length ≤ 200) (hs : ∀ x ∈ l, x = 1 ∨ x = -1) : ∀ (t p B V : List Int) (v st last : Int), l = p ++ t → B.length = p.length → V.length = p.length →
    -4096 * (p.length : Int) ≤ v → v ≤ 4096 * (p.length : Int) → 1 ≤ st → st ≤ 4096 →
    Ev (fun k => spec_tnDecode.l0 k B V l (l.length : Int) (p.length : Int) v st last) (B ++ (decM false t v st last).map (·.2), V ++ (decM false t v st last).map (·.1))
  | [], p, B, V, v, st, last, h, hB, hV, hv0, hv1, h0, h1 => by
    refine Ev.to (Ev.step (f := fun _ => some (B, V)) (fun k => ?_) (Ev.now _)) (by simp [decM])
    subst h
    simp [spec_tnDecode.l0]
  | x :: t, p, B, V, v, st, last, h, hB, hV, hv0, hv1, h0, h1 => by
    have e1 : (p.length : Int) < (l.length : Int) := by rw [h]; exact lt_mid p t x
    have e2 : rd l (p.length : Int) = x := by rw [h]; exact rd_mid p t x
    have e3 : wrap64 ((p.length : Int) + 1) = ((p ++ [x]).length : Int) := nx_mid p t x (by rw [← h]; omega)
    have hb := hs x (by rw [h]; simp)
    have hk := tkS_bd (last := last) (fixed := false) (bit := x) h0 h1
    have hm := mul_bit (st := tkS st last false x) hb
    refine Ev.to (Ev.step (fun k => ?_) (spec_tnDecode_l0 l hl hs t (p ++ [x]) (B ++ [tkS st last false x]) (V ++ [v + tkS st last false x * x]) (v + tkS st last false x * x) (tkS st last false x) x (by simp [h]) (by simp [hB]) (by simp [hV])
      (by simp; omega) (by simp; omega) hk.1 hk.2)) (by simp [decM])
    simp only [spec_tnDecode.l0, if_pos e1, if_pos (Int.natCast_nonneg _), e2, e3, Option.bind_some, spec_tnStepper_take_eq (v := v) (st := st) (last := last) (bit := x) (by omega) (by omega) h0 h1 hb]
    rw [if_pos (by omega), if_pos (by omega)]
theorem spec_tnDecode_ev (l : List Int) (first : Int) (hs : isBits l = true) (h0 : 1 ≤ first) (h1 : first ≤ 4096) :
    Ev (fun k => spec_tnDecode.f k l first) ((decM false l 0 first 0).map (·.2), (decM false l 0 first 0).map (·.1)) := by
  have h := spec_tnDecode_l0 l (isBits_len hs) (isBits_mem hs) l [] [] [] 0 first 0 rfl rfl rfl (by simp) (by simp) h0 h1
  simpa [spec_tnDecode.f] using h

theorem spec_StepBits_ev (l : List Int) (st : Int) (hl : l.length ≤ 140737488351232) : Ev (fun k => spec_StepBits.f k l st) (stepBits l st) := by
  simp only [spec_StepBits.f, stepBits]
  refine Ev.bind (spec_wdSignal_ev l hl) ?_
  by_cases c : sig l = true
  · rw [if_pos c]
    refine Ev.tt c (Ev.dbind (a := stepOk st) (spec_tnStep_eq st) ?_)
    by_cases d : stepOk st = true
    · rw [if_pos d]
      exact Ev.tt d (Ev.bind (spec_tnCode_ev l st c (stepOk_iff.1 d).1 (stepOk_iff.1 d).2) (Ev.now _))
    · rw [if_neg d]
      exact Ev.ff d (Ev.now _)
  · rw [if_neg c]
    exact Ev.ff c (Ev.now _)

theorem impl_StepBits_ev (l : List Int) (st : Int) (hl : l.length ≤ 140737488351232) : Ev (fun k => impl_StepBits.f k l st) (stepBits l st) := by
  simp only [impl_StepBits.f, stepBits]
  refine Ev.bind (impl_isSignal_ev l hl) ?_
  by_cases c : sig l = true
  · rw [if_pos c]
    refine Ev.tt c (Ev.dbind (a := stepOk st) (impl_isStep_eq st) ?_)
    by_cases d : stepOk st = true
    · rw [if_pos d]
      obtain ⟨z, h⟩ := impl_coded_ev false l st c (stepOk_iff.1 d).1 (stepOk_iff.1 d).2
      exact Ev.tt d (Ev.bind h (Ev.now _))
    · rw [if_neg d]
      exact Ev.ff d (Ev.now _)
  · rw [if_neg c]
    exact Ev.ff c (Ev.now _)
theorem stepBits_len (l : List Int) (st : Int) : (stepBits l st).1.length ≤ 64 := by
  unfold stepBits
  split
  · split
    · simpa [codeM_length] using sig_len ‹_›
    · simp
  · simp

theorem StepBits_agree (l : List Int) (st : Int) (hl : l.length ≤ 1048576) : ∃ r, Ev (fun k => spec_StepBits.f k l st) r ∧ Ev (fun k => impl_StepBits.f k l st) r ∧ r.1.length ≤ 1000000 :=
  ⟨_, spec_StepBits_ev l st (by omega), impl_StepBits_ev l st (by omega), by have := stepBits_len l st; omega⟩

theorem spec_StepValues_ev (l : List Int) (st : Int) (hl : l.length ≤ 140737488351232) : Ev (fun k => spec_StepValues.f k l st) (stepValues l st) := by
  simp only [spec_StepValues.f, stepValues]
  refine Ev.bind (spec_tnBits_ev l hl) ?_
  by_cases c : isBits l = true
  · rw [if_pos c]
    refine Ev.tt c (Ev.dbind (a := stepOk st) (spec_tnStep_eq st) ?_)
    by_cases d : stepOk st = true
    · rw [if_pos d, d]
      refine Ev.step (fun k => by simp only [spec_StepValues.j0]; rfl) (Ev.ff (by decide) (Ev.bind (spec_tnDecode_ev l st c (stepOk_iff.1 d).1 (stepOk_iff.1 d).2) (Ev.bind (spec_wdIf_ev _ ?_) (Ev.now _))))
      have := isBits_len c
      simp [decM_length]; omega
    · rw [if_neg d, Bool.eq_false_iff.mpr d]
      exact Ev.step (f := fun _ => some ([], false)) (fun k => by simp [spec_StepValues.j0]) (Ev.now _)
  · rw [if_neg c]
    exact Ev.ff c (Ev.step (f := fun _ => some ([], false)) (fun k => by simp [spec_StepValues.j0]) (Ev.now _))

theorem impl_StepValues_ev (l : List Int) (st : Int) (hl : l.length ≤ 140737488351232) : Ev (fun k => impl_StepValues.f k l st) (stepValues l st) := by
  simp only [impl_StepValues.f, stepValues]
  refine Ev.bind (impl_areBits_ev l hl) ?_
  by_cases c : isBits l = true
  · rw [if_pos c]
    refine Ev.tt c (Ev.dbind (a := stepOk st) (impl_isStep_eq st) ?_)
    by_cases d : stepOk st = true
    · rw [if_pos d, d]
      obtain ⟨z, h⟩ := impl_decoded_ev false l st c (stepOk_iff.1 d).1 (stepOk_iff.1 d).2
      refine Ev.step (fun k => by simp only [impl_StepValues.j0]; rfl) (Ev.ff (by decide) (Ev.bind h (Ev.bind (impl_told_ev _ ?_) (Ev.now _))))
      have := isBits_len c
      simp [decM_length]; omega
    · rw [if_neg d, Bool.eq_false_iff.mpr d]
      exact Ev.step (f := fun _ => some ([], false)) (fun k => by simp [impl_StepValues.j0]) (Ev.now _)
  · rw [if_neg c]
    exact Ev.ff c (Ev.step (f := fun _ => some ([], false)) (fun k => by simp [impl_StepValues.j0]) (Ev.now _))
theorem stepValues_len (l : List Int) (st : Int) : (stepValues l st).1.length ≤ 64 := by
  unfold stepValues
  split
  · split
    · exact toldM_len _
    · simp
  · simp

theorem StepValues_agree (l : List Int) (st : Int) (hl : l.length ≤ 1048576) : ∃ r, Ev (fun k => spec_StepValues.f k l st) r ∧ Ev (fun k => impl_StepValues.f k l st) r ∧ r.1.length ≤ 1000000 :=
  ⟨_, spec_StepValues_ev l st (by omega), impl_StepValues_ev l st (by omega), by have := stepValues_len l st; omega⟩

theorem spec_StepsOfBits_ev (l : List Int) (st : Int) (hl : l.length ≤ 140737488351232) : Ev (fun k => spec_StepsOfBits.f k l st) (stepsOfBits l st) := by
  simp only [spec_StepsOfBits.f, stepsOfBits]
  refine Ev.bind (spec_tnBits_ev l hl) ?_
  by_cases c : isBits l = true
  · rw [if_pos c]
    refine Ev.tt c (Ev.dbind (a := stepOk st) (spec_tnStep_eq st) ?_)
    by_cases d : stepOk st = true
    · rw [if_pos d, d]
      refine Ev.step (fun k => by simp only [spec_StepsOfBits.j0]; rfl) (Ev.ff (by decide) (Ev.bind (spec_tnDecode_ev l st c (stepOk_iff.1 d).1 (stepOk_iff.1 d).2) (Ev.bind (spec_wdIf_ev _ ?_) (Ev.now _))))
      have := isBits_len c
      simp [decM_length]; omega
    · rw [if_neg d, Bool.eq_false_iff.mpr d]
      exact Ev.step (f := fun _ => some ([], false)) (fun k => by simp [spec_StepsOfBits.j0]) (Ev.now _)
  · rw [if_neg c]
    exact Ev.ff c (Ev.step (f := fun _ => some ([], false)) (fun k => by simp [spec_StepsOfBits.j0]) (Ev.now _))

theorem impl_StepsOfBits_ev (l : List Int) (st : Int) (hl : l.length ≤ 140737488351232) : Ev (fun k => impl_StepsOfBits.f k l st) (stepsOfBits l st) := by
  simp only [impl_StepsOfBits.f, stepsOfBits]
  refine Ev.bind (impl_areBits_ev l hl) ?_
  by_cases c : isBits l = true
  · rw [if_pos c]
    refine Ev.tt c (Ev.dbind (a := stepOk st) (impl_isStep_eq st) ?_)
    by_cases d : stepOk st = true
    · rw [if_pos d, d]
      obtain ⟨z, h⟩ := impl_decoded_ev false l st c (stepOk_iff.1 d).1 (stepOk_iff.1 d).2
      refine Ev.step (fun k => by simp only [impl_StepsOfBits.j0]; rfl) (Ev.ff (by decide) (Ev.bind h (Ev.bind (impl_told_ev _ ?_) (Ev.now _))))
      have := isBits_len c
      simp [decM_length]; omega
    · rw [if_neg d, Bool.eq_false_iff.mpr d]
      exact Ev.step (f := fun _ => some ([], false)) (fun k => by simp [impl_StepsOfBits.j0]) (Ev.now _)
  · rw [if_neg c]
    exact Ev.ff c (Ev.step (f := fun _ => some ([], false)) (fun k => by simp [impl_StepsOfBits.j0]) (Ev.now _))
theorem stepsOfBits_len (l : List Int) (st : Int) : (stepsOfBits l st).1.length ≤ 64 := by
  unfold stepsOfBits
  split
  · split
    · exact toldM_len _
    · simp
  · simp

theorem StepsOfBits_agree (l : List Int) (st : Int) (hl : l.length ≤ 1048576) : ∃ r, Ev (fun k => spec_StepsOfBits.f k l st) r ∧ Ev (fun k => impl_StepsOfBits.f k l st) r ∧ r.1.length ≤ 1000000 :=
  ⟨_, spec_StepsOfBits_ev l st (by omega), impl_StepsOfBits_ev l st (by omega), by have := stepsOfBits_len l st; omega⟩

theorem spec_tnGaps_l0 (l m : List Int) (hl : l.length ≤ 64) (hs : ∀ x ∈ l, -100000 ≤ x ∧ x ≤ 100000) (hm : ∀ y ∈ m, -1000000 ≤ y ∧ y ≤ 1000000) : ∀ (t p u q G : List Int), l = p ++ t → m = q ++ u → p.length = q.length → t.length = u.length → G.length = p.length →
    Ev (fun k => spec_tnGaps.l0 k m G l (l.length : Int) (p.length : Int)) (G ++ gapM t u)
  | [], p, [], q, G, h, h', e, e', hG => by
    refine Ev.to (Ev.step (f := fun _ => some G) (fun k => ?_) (Ev.now _)) (by simp [gapM])
    subst h
    simp [spec_tnGaps.l0]
  | x :: t, p, y :: u, q, G, h, h', e, e', hG => by
    have e1 : (p.length : Int) < (l.length : Int) := by rw [h]; exact lt_mid p t x
    have e2 : rd l (p.length : Int) = x := by rw [h]; exact rd_mid p t x
    have e3 : wrap64 ((p.length : Int) + 1) = ((p ++ [x]).length : Int) := nx_mid p t x (by rw [← h]; omega)
    have e4 : (p.length : Int) < (m.length : Int) := by rw [h', e]; exact lt_mid q u y
    have e5 : rd m (p.length : Int) = y := by rw [h', e]; exact rd_mid q u y
    have hx := hs x (by rw [h]; simp)
    have hy := hm y (by rw [h']; simp)
    have ew : wrap64 (x - y) = x - y := w64 (by omega) (by omega)
    refine Ev.to (Ev.step (fun k => ?_) (spec_tnGaps_l0 l m hl hs hm t (p ++ [x]) u (q ++ [y]) (G ++ [x - y]) (by simp [h]) (by simp [h']) (by simp [e]) (by simpa using e') (by simp [hG]))) (by simp [gapM])
    simp only [spec_tnGaps.l0, if_pos e1, if_pos (Int.natCast_nonneg _), if_pos e4, e2, e3, e5, ew]
    rw [if_pos (by omega)]
theorem spec_tnGaps_ev (l : List Int) (first : Int) (hs : sig l = true) (h0 : 1 ≤ first) (h1 : first ≤ 4096) :
    Ev (fun k => spec_tnGaps.f k l first) (gapM l ((codeM false l 0 first 0).map (·.2.1))) := by
  have hl := sig_len hs
  simp only [spec_tnGaps.f]
  refine Ev.bind (spec_tnCode_ev l first hs h0 h1) ?_
  have hv := codeM_val false l 0 first 0 0 h0 h1 (by omega) (by omega)
  have h := spec_tnGaps_l0 l ((codeM false l 0 first 0).map (·.2.1)) hl (sig_mem hs) (fun y hy => by have := hv y hy; omega) l [] ((codeM false l 0 first 0).map (·.2.1)) [] [] rfl rfl rfl (by simp [codeM_length]) rfl
  simpa using h

theorem impl_gaps_l0 (l m : List Int) (hl : l.length ≤ 64) (hs : ∀ x ∈ l, -100000 ≤ x ∧ x ≤ 100000) (hm : ∀ y ∈ m, -1000000 ≤ y ∧ y ≤ 1000000) : ∀ (t p u q G : List Int), l = p ++ t → m = q ++ u → p.length = q.length → t.length = u.length → G.length = p.length →
    Ev (fun k => impl_gaps.l0 k m G l (l.length : Int) (p.length : Int)) (G ++ gapM t u)
  | [], p, [], q, G, h, h', e, e', hG => by
    refine Ev.to (Ev.step (f := fun _ => some G) (fun k => ?_) (Ev.now _)) (by simp [gapM])
    subst h
    simp [impl_gaps.l0]
  | x :: t, p, y :: u, q, G, h, h', e, e', hG => by
    have e1 : (p.length : Int) < (l.length : Int) := by rw [h]; exact lt_mid p t x
    have e2 : rd l (p.length : Int) = x := by rw [h]; exact rd_mid p t x
    have e3 : wrap64 ((p.length : Int) + 1) = ((p ++ [x]).length : Int) := nx_mid p t x (by rw [← h]; omega)
    have e4 : (p.length : Int) < (m.length : Int) := by rw [h', e]; exact lt_mid q u y
    have e5 : rd m (p.length : Int) = y := by rw [h', e]; exact rd_mid q u y
    have hx := hs x (by rw [h]; simp)
    have hy := hm y (by rw [h']; simp)
    have ew : wrap64 (x - y) = x - y := w64 (by omega) (by omega)
    refine Ev.to (Ev.step (fun k => ?_) (impl_gaps_l0 l m hl hs hm t (p ++ [x]) u (q ++ [y]) (G ++ [x - y]) (by simp [h]) (by simp [h']) (by simp [e]) (by simpa using e') (by simp [hG]))) (by simp [gapM])
    simp only [impl_gaps.l0, if_pos e1, if_pos (Int.natCast_nonneg _), if_pos e4, e2, e3, e5, ew]
    rw [if_pos (by omega)]
theorem impl_gaps_ev (l : List Int) (first : Int) (hs : sig l = true) (h0 : 1 ≤ first) (h1 : first ≤ 4096) :
    Ev (fun k => impl_gaps.f k l first) (gapM l ((codeM false l 0 first 0).map (·.2.1))) := by
  have hl := sig_len hs
  simp only [impl_gaps.f]
  obtain ⟨z, hc⟩ := impl_coded_ev false l first hs h0 h1
  refine Ev.bind hc ?_
  have hv := codeM_val false l 0 first 0 0 h0 h1 (by omega) (by omega)
  have h := impl_gaps_l0 l ((codeM false l 0 first 0).map (·.2.1)) hl (sig_mem hs) (fun y hy => by have := hv y hy; omega) l [] ((codeM false l 0 first 0).map (·.2.1)) [] [] rfl rfl rfl (by simp [codeM_length]) rfl
  simpa using h

theorem spec_StepGaps_ev (l : List Int) (st : Int) (hl : l.length ≤ 140737488351232) : Ev (fun k => spec_StepGaps.f k l st) (stepGaps l st) := by
  simp only [spec_StepGaps.f, stepGaps]
  refine Ev.bind (spec_wdSignal_ev l hl) ?_
  by_cases c : sig l = true
  · rw [if_pos c]
    refine Ev.tt c (Ev.dbind (a := stepOk st) (spec_tnStep_eq st) ?_)
    by_cases d : stepOk st = true
    · rw [if_pos d, d]
      refine Ev.step (fun k => by simp only [spec_StepGaps.j0]; rfl) (Ev.ff (by decide) (Ev.bind (spec_tnGaps_ev l st c (stepOk_iff.1 d).1 (stepOk_iff.1 d).2) (Ev.bind (spec_wdIf_ev _ ?_) (Ev.now _))))
      have := sig_len c
      rw [gapM_length _ _ (by simp [codeM_length])]
      omega
    · rw [if_neg d, Bool.eq_false_iff.mpr d]
      exact Ev.step (f := fun _ => some ([], false)) (fun k => by simp [spec_StepGaps.j0]) (Ev.now _)
  · rw [if_neg c]
    exact Ev.ff c (Ev.step (f := fun _ => some ([], false)) (fun k => by simp [spec_StepGaps.j0]) (Ev.now _))

theorem impl_StepGaps_ev (l : List Int) (st : Int) (hl : l.length ≤ 140737488351232) : Ev (fun k => impl_StepGaps.f k l st) (stepGaps l st) := by
  simp only [impl_StepGaps.f, stepGaps]
  refine Ev.bind (impl_isSignal_ev l hl) ?_
  by_cases c : sig l = true
  · rw [if_pos c]
    refine Ev.tt c (Ev.dbind (a := stepOk st) (impl_isStep_eq st) ?_)
    by_cases d : stepOk st = true
    · rw [if_pos d, d]
      refine Ev.step (fun k => by simp only [impl_StepGaps.j0]; rfl) (Ev.ff (by decide) (Ev.bind (impl_gaps_ev l st c (stepOk_iff.1 d).1 (stepOk_iff.1 d).2) (Ev.bind (impl_told_ev _ ?_) (Ev.now _))))
      have := sig_len c
      rw [gapM_length _ _ (by simp [codeM_length])]
      omega
    · rw [if_neg d, Bool.eq_false_iff.mpr d]
      exact Ev.step (f := fun _ => some ([], false)) (fun k => by simp [impl_StepGaps.j0]) (Ev.now _)
  · rw [if_neg c]
    exact Ev.ff c (Ev.step (f := fun _ => some ([], false)) (fun k => by simp [impl_StepGaps.j0]) (Ev.now _))

theorem stepGaps_len (l : List Int) (st : Int) : (stepGaps l st).1.length ≤ 64 := by
  unfold stepGaps
  split
  · split
    · exact toldM_len _
    · simp
  · simp
theorem StepGaps_agree (l : List Int) (st : Int) (hl : l.length ≤ 1048576) : ∃ r, Ev (fun k => spec_StepGaps.f k l st) r ∧ Ev (fun k => impl_StepGaps.f k l st) r ∧ r.1.length ≤ 1000000 :=
  ⟨_, spec_StepGaps_ev l st (by omega), impl_StepGaps_ev l st (by omega), by have := stepGaps_len l st; omega⟩

theorem dec_fixed (st : Int) : ∀ (l : List Int) (v last : Int), (decM true l v st last).map (·.1) = (decM true l v st 0).map (·.1)
  | [], _, _ => rfl
  | b :: t, v, last => by simp [decM, tkS]
theorem spec_FixedValues_l0 (st : Int) (h0 : 1 ≤ st) (h1 : st ≤ 4096) (l : List Int) (hl : l.length ≤ 200) (hs : ∀ x ∈ l, x = 1 ∨ x = -1) : ∀ (t p V : List Int) (v : Int), l = p ++ t → V.length = p.length → -4096 * (p.length : Int) ≤ v → v ≤ 4096 * (p.length : Int) →
    Ev (fun k => spec_FixedValues.l0 k st V v l (l.length : Int) (p.length : Int)) (toldM (V ++ (decM true t v st 0).map (·.1)))
  | [], p, V, v, h, hV, hv0, hv1 => by
    have hh := spec_wdIf_ev V (by rw [hV]; have : p.length = l.length := by rw [h]; simp
                                  omega)
    refine Ev.to (Ev.step (f := fun k => (spec_wdIf.f k V).bind fun bt122 => (some (bt122.1, bt122.2))) (fun k => ?_) (Ev.bind hh (Ev.now _))) (by simp [decM])
    subst h
    simp [spec_FixedValues.l0]
  | x :: t, p, V, v, h, hV, hv0, hv1 => by
    have e1 : (p.length : Int) < (l.length : Int) := by rw [h]; exact lt_mid p t x
    have e2 : rd l (p.length : Int) = x := by rw [h]; exact rd_mid p t x
    have e3 : wrap64 ((p.length : Int) + 1) = ((p ++ [x]).length : Int) := nx_mid p t x (by rw [← h]; omega)
    have hb := hs x (by rw [h]; simp)
    have hm := mul_bit (st := st) hb
    have e4 : wrap64 (v + wrap64 (x * st)) = v + st * x := by
      rw [Int.mul_comm x]
      have e1 : wrap64 (st * x) = st * x := w64 (by omega) (by omega)
      rw [e1]
      exact w64 (by omega) (by omega)
    refine Ev.to (Ev.step (fun k => ?_) (spec_FixedValues_l0 st h0 h1 l hl hs t (p ++ [x]) (V ++ [v + st * x]) (v + st * x) (by simp [h]) (by simp [hV]) (by simp; omega) (by simp; omega))) ?_
    · simp only [spec_FixedValues.l0, if_pos e1, if_pos (Int.natCast_nonneg _), e2, e3, e4]
      rw [if_pos (by omega)]
    · simp [decM, tkS]
      rw [dec_fixed st t _ x]
theorem spec_FixedValues_ev (l : List Int) (st : Int) (hl : l.length ≤ 140737488351232) : Ev (fun k => spec_FixedValues.f k l st) (fixedValues l st) := by
  simp only [spec_FixedValues.f, fixedValues]
  refine Ev.bind (spec_tnBits_ev l hl) ?_
  by_cases c : isBits l = true
  · rw [if_pos c]
    refine Ev.tt c (Ev.dbind (a := stepOk st) (spec_tnStep_eq st) ?_)
    by_cases d : stepOk st = true
    · rw [if_pos d, d]
      refine Ev.step (fun k => by simp only [spec_FixedValues.j0]; rfl) (Ev.ff (by decide) ?_)
      exact spec_FixedValues_l0 st (stepOk_iff.1 d).1 (stepOk_iff.1 d).2 l (isBits_len c) (isBits_mem c) l [] [] 0 rfl rfl (by simp) (by simp)
    · rw [if_neg d, Bool.eq_false_iff.mpr d]
      exact Ev.step (f := fun _ => some ([], false)) (fun k => by simp [spec_FixedValues.j0]) (Ev.now _)
  · rw [if_neg c]
    exact Ev.ff c (Ev.step (f := fun _ => some ([], false)) (fun k => by simp [spec_FixedValues.j0]) (Ev.now _))

theorem impl_FixedValues_ev (l : List Int) (st : Int) (hl : l.length ≤ 140737488351232) : Ev (fun k => impl_FixedValues.f k l st) (fixedValues l st) := by
  simp only [impl_FixedValues.f, fixedValues]
  refine Ev.bind (impl_areBits_ev l hl) ?_
  by_cases c : isBits l = true
  · rw [if_pos c]
    refine Ev.tt c (Ev.dbind (a := stepOk st) (impl_isStep_eq st) ?_)
    by_cases d : stepOk st = true
    · rw [if_pos d, d]
      obtain ⟨z, h⟩ := impl_decoded_ev true l st c (stepOk_iff.1 d).1 (stepOk_iff.1 d).2
      refine Ev.step (fun k => by simp only [impl_FixedValues.j0]; rfl) (Ev.ff (by decide) (Ev.bind h (Ev.bind (impl_told_ev _ ?_) (Ev.now _))))
      have := isBits_len c
      simp [decM_length]; omega
    · rw [if_neg d, Bool.eq_false_iff.mpr d]
      exact Ev.step (f := fun _ => some ([], false)) (fun k => by simp [impl_FixedValues.j0]) (Ev.now _)
  · rw [if_neg c]
    exact Ev.ff c (Ev.step (f := fun _ => some ([], false)) (fun k => by simp [impl_FixedValues.j0]) (Ev.now _))
theorem fixedValues_len (l : List Int) (st : Int) : (fixedValues l st).1.length ≤ 64 := by
  unfold fixedValues
  split
  · split
    · exact toldM_len _
    · simp
  · simp

theorem FixedValues_agree (l : List Int) (st : Int) (hl : l.length ≤ 1048576) : ∃ r, Ev (fun k => spec_FixedValues.f k l st) r ∧ Ev (fun k => impl_FixedValues.f k l st) r ∧ r.1.length ≤ 1000000 :=
  ⟨_, spec_FixedValues_ev l st (by omega), impl_FixedValues_ev l st (by omega), by have := fixedValues_len l st; omega⟩

theorem spec_l1Abs_eq (x : Int) (h : -1000000000000000000 ≤ x ∧ x ≤ 1000000000000000000) : spec_l1Abs.f x = some (x.natAbs : Int) := by
  unfold spec_l1Abs.f spec_l1Most.f
  rw [w64 (n := -x) (by omega) (by omega)]
  by_cases c : x > -x
  · rw [if_pos c]; simp; omega
  · rw [if_neg c]; simp; omega
theorem spec_wdPeak_l0 (l : List Int) (hl : l.length ≤ 140737488351232) (hs : ∀ x ∈ l, -1000000000000000000 ≤ x ∧ x ≤ 1000000000000000000) : ∀ (t p : List Int) (m : Nat), l = p ++ t → Ev (fun k => spec_wdPeak.l0 k (m : Int) l (l.length : Int) (p.length : Int)) ((peakM t m : Nat) : Int)
  | [], p, m, h => by
    refine Ev.step (f := fun _ => some (m : Int)) (fun k => ?_) (Ev.now _)
    subst h
    simp [spec_wdPeak.l0]
  | x :: t, p, m, h => by
    have e1 : (p.length : Int) < (l.length : Int) := by rw [h]; exact lt_mid p t x
    have e2 : rd l (p.length : Int) = x := by rw [h]; exact rd_mid p t x
    have e3 : wrap64 ((p.length : Int) + 1) = ((p ++ [x]).length : Int) := nx_mid p t x (h ▸ hl)
    have hx := hs x (by rw [h]; simp)
    have e4 : spec_l1Most.f (m : Int) (x.natAbs : Int) = some ((max m x.natAbs : Nat) : Int) := by
      unfold spec_l1Most.f
      by_cases c : (m : Int) > (x.natAbs : Int)
      · rw [if_pos c, Nat.max_eq_left (by omega)]
      · rw [if_neg c, Nat.max_eq_right (by omega)]
    refine Ev.step (fun k => ?_) (spec_wdPeak_l0 l hl hs t (p ++ [x]) (max m x.natAbs) (by simp [h]))
    simp only [spec_wdPeak.l0, if_pos e1, if_pos (Int.natCast_nonneg _), e2, e3, spec_l1Abs_eq x hx, Option.bind_some, e4]
theorem spec_wdPeak_ev (l : List Int) (hl : l.length ≤ 140737488351232) (hs : ∀ x ∈ l, -1000000000000000000 ≤ x ∧ x ≤ 1000000000000000000) : Ev (fun k => spec_wdPeak.f k l) ((peakM l 0 : Nat) : Int) := by
  have h := spec_wdPeak_l0 l hl hs l [] 0 rfl
  simpa [spec_wdPeak.f] using h

theorem impl_size_eq (x : Int) (h : -1000000000000000000 ≤ x ∧ x ≤ 1000000000000000000) : impl_size.f x = some (x.natAbs : Int) := by
  unfold impl_size.f mx
  rw [w64 (n := -x) (by omega) (by omega)]
  by_cases c : x < -x
  · rw [if_pos c]; simp; omega
  · rw [if_neg c]; simp; omega
theorem impl_peak_l0 (l : List Int) (hl : l.length ≤ 140737488351232) (hs : ∀ x ∈ l, -1000000000000000000 ≤ x ∧ x ≤ 1000000000000000000) : ∀ (t p : List Int) (m : Nat), l = p ++ t → Ev (fun k => impl_peak.l0 k (m : Int) l (l.length : Int) (p.length : Int)) ((peakM t m : Nat) : Int)
  | [], p, m, h => by
    refine Ev.step (f := fun _ => some (m : Int)) (fun k => ?_) (Ev.now _)
    subst h
    simp [impl_peak.l0]
  | x :: t, p, m, h => by
    have e1 : (p.length : Int) < (l.length : Int) := by rw [h]; exact lt_mid p t x
    have e2 : rd l (p.length : Int) = x := by rw [h]; exact rd_mid p t x
    have e3 : wrap64 ((p.length : Int) + 1) = ((p ++ [x]).length : Int) := nx_mid p t x (h ▸ hl)
    have hx := hs x (by rw [h]; simp)
    have e4 : mx (m : Int) (x.natAbs : Int) = ((max m x.natAbs : Nat) : Int) := by
      unfold mx
      by_cases c : (m : Int) < (x.natAbs : Int)
      · rw [if_pos c, Nat.max_eq_right (by omega)]
      · rw [if_neg c, Nat.max_eq_left (by omega)]
    refine Ev.step (fun k => ?_) (impl_peak_l0 l hl hs t (p ++ [x]) (max m x.natAbs) (by simp [h]))
    simp only [impl_peak.l0, if_pos e1, if_pos (Int.natCast_nonneg _), e2, e3, impl_size_eq x hx, Option.bind_some, e4]
theorem impl_peak_ev (l : List Int) (hl : l.length ≤ 140737488351232) (hs : ∀ x ∈ l, -1000000000000000000 ≤ x ∧ x ≤ 1000000000000000000) : Ev (fun k => impl_peak.f k l) ((peakM l 0 : Nat) : Int) := by
  have h := impl_peak_l0 l hl hs l [] 0 rfl
  simpa [impl_peak.f] using h

theorem stepGaps_sig (l : List Int) (st : Int) : ∀ x ∈ (stepGaps l st).1, -1000000000000000000 ≤ x ∧ x ≤ 1000000000000000000 := by
  have key : ∀ m : List Int, ∀ x ∈ (toldM m).1, -1000000000000000000 ≤ x ∧ x ≤ 1000000000000000000 := by
    intro m x hx
    unfold toldM at hx
    split at hx
    · have := sig_mem ‹_› x hx
      omega
    · simp at hx
  unfold stepGaps
  split
  · split
    · exact key _
    · simp
  · simp
theorem GreatestGap_agree (l : List Int) (st : Int) (hl : l.length ≤ 1048576) : ∃ r, Ev (fun k => spec_GreatestGap.f k l st) r ∧ Ev (fun k => impl_GreatestGap.f k l st) r ∧ True := by
  have h1 := stepGaps_len l st
  have h2 := stepGaps_sig l st
  refine ⟨(((peakM (stepGaps l st).1 0 : Nat) : Int), (stepGaps l st).2), ?_, ?_, trivial⟩
  · simp only [spec_GreatestGap.f]
    refine Ev.bind (spec_StepGaps_ev l st (by omega)) ?_
    by_cases c : (stepGaps l st).2 = true
    · rw [c]
      exact Ev.tt rfl (Ev.bind (spec_wdPeak_ev _ (by omega) h2) (Ev.now _))
    · have e : (stepGaps l st).1 = [] := by
        revert c
        unfold stepGaps toldM
        repeat' split
        all_goals simp
      rw [Bool.eq_false_iff.mpr c, e]
      exact Ev.ff (by decide) (Ev.now _)
  · simp only [impl_GreatestGap.f]
    exact Ev.bind (impl_StepGaps_ev l st (by omega)) (Ev.bind (impl_peak_ev _ (by omega) h2) (Ev.now _))

/-- What a cursor gives: a value with P, and at most c steps further. -/
def Dr {α : Type} (P : α → Prop) (c : Int) (a : Int) (g : Option (α × Int × Int)) : Prop := ∃ v a' sd, g = some (v, a', sd) ∧ a ≤ a' ∧ a' ≤ a + c ∧ P v
theorem u64_bd (n : Int) : 0 ≤ IntKind.u64.wrap n ∧ IntKind.u64.wrap n < 18446744073709551616 := by
  simp only [IntKind.wrap, IntKind.bits, IntKind.signed]
  simp
  omega
theorem u64_and255 (x : Int) (h0 : 0 ≤ x) (h1 : x < 18446744073709551616) : Go.bits .and .u64 x 255 = x % 256 :=
  bits_mask .u64 64 (by decide) (fun n h0 h1 => by
    simp only [IntKind.wrap, IntKind.bits, IntKind.signed]
    simp
    omega) 8 (by decide) x h0 h1
def Bytes (l : List Int) : Prop := l.length ≤ 1048576 ∧ ∀ x ∈ l, 0 ≤ x ∧ x ≤ 255
theorem next_ok {l : List Int} (hl : Bytes l) (a sd : Int) (h0 : 0 ≤ a) (h1 : a ≤ 1000000000000000) : Dr (fun v => 0 ≤ v ∧ v ≤ 255) 1 a (spec_l1Cur_next.f l a sd) := by
  have hw : wrap64 (a + 1) = a + 1 := w64 (by omega) (by omega)
  have hm : ∀ y : Int, 0 ≤ wrap64 (Go.bits .and .u64 (IntKind.u64.wrap y / 1099511627776) 255) ∧ wrap64 (Go.bits .and .u64 (IntKind.u64.wrap y / 1099511627776) 255) ≤ 255 := by
    intro y
    have hy := u64_bd y
    rw [u64_and255 _ (by omega) (by omega), w64 (n := IntKind.u64.wrap y / 1099511627776 % 256) (by omega) (by omega)]
    omega
  unfold spec_l1Cur_next.f
  by_cases c : a < (l.length : Int)
  · have hr : 0 ≤ rd l a ∧ rd l a ≤ 255 := by
      obtain ⟨n, rfl⟩ : ∃ n : Nat, a = (n : Int) := ⟨a.toNat, by omega⟩
      have hn : n < l.length := by omega
      rw [rd_getD, List.getD_eq_getElem?_getD, List.getElem?_eq_getElem hn]
      exact hl.2 _ (List.getElem_mem hn)
    rw [if_pos c, if_pos h0, hw, if_pos (by omega), w64 (n := rd l a) (by omega) (by omega)]
    exact ⟨_, _, _, rfl, by omega, by omega, hr⟩
  · rw [if_neg c, hw]
    by_cases d : a + 1 ≤ (l.length : Int)
    · omega
    · rw [if_neg d]
      exact ⟨_, _, _, rfl, by omega, by omega, hm _⟩

theorem pick_ok {l : List Int} (hl : Bytes l) (a sd n : Int) (h0 : 0 ≤ a) (h1 : a ≤ 100000000000000) (hn : n ≤ 1000000) : Dr (fun v => 0 ≤ v ∧ (v < n ∨ v = 0)) 2 a (spec_l1Cur_pick.f l a sd n) := by
  unfold spec_l1Cur_pick.f
  by_cases c : n ≤ 1
  · rw [if_pos c]
    exact ⟨_, _, _, rfl, by omega, by omega, by omega, .inr rfl⟩
  · rw [if_neg c]
    obtain ⟨v, a', sd', e, ha, hb, hv⟩ := next_ok hl a sd h0 (by omega)
    rw [e]
    simp only [Option.bind_some]
    have hn0 : ¬ n = 0 := by omega
    by_cases d : n > 200
    · rw [if_pos d]
      obtain ⟨v2, a2, sd2, e2, ha2, hb2, hv2⟩ := next_ok hl a' sd' (by omega) (by omega)
      rw [e2]
      simp only [Option.bind_some]
      rw [if_neg hn0, w64 (n := v * 256) (by omega) (by omega), w64 (n := v * 256 + v2) (by omega) (by omega), Int.tmod_eq_emod_of_nonneg (by omega)]
      have := Int.emod_nonneg (v * 256 + v2) hn0
      have := Int.emod_lt_of_pos (v * 256 + v2) (show 0 < n by omega)
      exact ⟨_, _, _, rfl, by omega, by omega, by omega, .inl (by omega)⟩
    · rw [if_neg d, if_neg hn0, Int.tmod_eq_emod_of_nonneg (by omega)]
      have := Int.emod_nonneg v hn0
      have := Int.emod_lt_of_pos v (show 0 < n by omega)
      exact ⟨_, _, _, rfl, by omega, by omega, by omega, .inl (by omega)⟩

theorem among_ok {l : List Int} (hl : Bytes l) (a sd : Int) (m : List Int) (h0 : 0 ≤ a) (h1 : a ≤ 100000000000000) (hm : 1 ≤ m.length) (hm2 : m.length ≤ 1000) : Dr (fun v => v ∈ m) 2 a (spec_l1Cur_among.f l a sd m) := by
  unfold spec_l1Cur_among.f
  obtain ⟨v, a', sd', e, ha, hb, hv, hv2⟩ := pick_ok hl a sd (m.length : Int) h0 h1 (by omega)
  rw [e]
  simp only [Option.bind_some]
  rw [if_pos hv, if_pos (by omega)]
  refine ⟨_, _, _, rfl, ha, hb, ?_⟩
  obtain ⟨n, rfl⟩ : ∃ n : Nat, v = (n : Int) := ⟨v.toNat, by omega⟩
  have hn : n < m.length := by omega
  rw [rd_getD, List.getD_eq_getElem?_getD, List.getElem?_eq_getElem hn]
  exact List.getElem_mem hn

theorem one_ok {l : List Int} (hl : Bytes l) (a sd n : Int) (h0 : 0 ≤ a) (h1 : a ≤ 100000000000000) (hn : n ≤ 1000000) : Dr (fun _ => True) 2 a (spec_l1Cur_one.f l a sd n) := by
  unfold spec_l1Cur_one.f
  obtain ⟨v, a', sd', e, ha, hb, hv, hv2⟩ := pick_ok hl a sd n h0 h1 hn
  rw [e]
  simp only [Option.bind_some]
  exact ⟨_, _, _, rfl, ha, hb, trivial⟩

theorem laws_big_eq (l m : List Int) (hl : l.length ≤ 140737488355328) (hm : m.length ≤ 140737488355328) : laws_big.f l m = some (decide (1048576 < l.length + m.length)) := by
  unfold laws_big.f
  by_cases c : (l.length : Int) > 1048576
  · rw [if_pos c]
    simp; omega
  · rw [if_neg c, w64 (n := 1048576 - (l.length : Int)) (by omega) (by omega)]
    simp; omega
theorem bytes_of {l : List Int} (h : l.length ≤ 1048576) (hx : ∀ x ∈ l, (Lit.int .u8 x).wf = true) : Bytes l := by
  refine ⟨h, fun x hxl => ?_⟩
  have := hx x hxl
  simp [Lit.wf, IntKind.min, IntKind.max, IntKind.signed, IntKind.bits] at this
  omega

/-- A number shifted: down, to the nearest one, towards 0. -/
def shM (x b mode : Int) : Int := if mode = 1 ∧ b ≤ 2 * (x % b) ∧ 0 < x % b then x / b + 1 else if mode = 2 ∧ x < 0 ∧ 0 < x % b then x / b + 1 else x / b
theorem div_uniq {x b q r : Int} (h : x = q * b + r) (h0 : 0 ≤ r) (h1 : r < b) : x / b = q := by
  have hb : 0 < b := by omega
  exact ((Int.ediv_emod_unique hb).2 ⟨by rw [h, Int.mul_comm]; omega, h0, h1⟩).1
theorem pow2_pos (s : Nat) : (0 : Int) < 2 ^ s := Int.pow_pos (by decide)
theorem pow2_le {s : Nat} (h : s ≤ 20) : (2 : Int) ^ s ≤ 1048576 := by
  have h1 : (2 : Nat) ^ s ≤ 2 ^ 20 := Nat.pow_le_pow_right (by decide) h
  have h3 : (2 : Int) ^ s = (((2 : Nat) ^ s : Nat) : Int) := by simp
  rw [h3]
  have h2 : (2 : Nat) ^ 20 = 1048576 := by decide
  omega
theorem shl_one {s : Nat} (h : s ≤ 20) : shl .i64 1 (s : Int) = 2 ^ s := by
  unfold shl
  have h1 : min ((s : Int)).toNat IntKind.i64.bits = s := by
    simp [IntKind.bits]; omega
  rw [h1, Int.one_mul, IntKind.wrap_i64]
  have := pow2_pos s
  have := pow2_le h
  omega
theorem shl_mul {s : Nat} (h : s ≤ 20) (y : Int) (h1 : -9223372036854775808 ≤ y * 2 ^ s) (h2 : y * 2 ^ s ≤ 9223372036854775807) : shl .i64 y (s : Int) = y * 2 ^ s := by
  unfold shl
  have e : min ((s : Int)).toNat IntKind.i64.bits = s := by
    simp [IntKind.bits]; omega
  rw [e, IntKind.wrap_i64]
  omega
theorem shr_div {s : Nat} (h : s ≤ 20) (y : Int) : shr .i64 y (s : Int) = y / 2 ^ s := by
  unfold shr
  have e : min ((s : Int)).toNat IntKind.i64.bits = s := by
    simp [IntKind.bits]; omega
  rw [e]
theorem mod_eq (x b : Int) : x = (x / b) * b + x % b := by
  have := Int.emod_add_mul_ediv x b
  rw [Int.mul_comm] at this
  omega

def numOk (x : Int) : Bool := decide (-1000000000000 ≤ x) && decide (x ≤ 1000000000000)
def modeOk (s mode : Int) : Bool := (decide (0 ≤ s) && decide (s ≤ 20)) && (decide (0 ≤ mode) && decide (mode ≤ 2))
theorem numOk_iff {x : Int} : numOk x = true ↔ -1000000000000 ≤ x ∧ x ≤ 1000000000000 := by simp [numOk]
theorem modeOk_iff {s m : Int} : modeOk s m = true ↔ (0 ≤ s ∧ s ≤ 20) ∧ (0 ≤ m ∧ m ≤ 2) := by simp [modeOk]

theorem signal_l0 {l : List Int} (hl : Bytes l) (sz : Int) (hs : 1 ≤ sz ∧ sz ≤ 100000) : ∀ (n : Nat) (q : List Int) (a sd : Int), q.length + n ≤ 100000 → 0 ≤ a → a + 10 * n ≤ 100000000000 → ∃ s a' sd', Ev (fun k => spec_l1Cur_signal.l0 k sz q (n : Int) l a sd) (s, a', sd') ∧ s.length ≤ 100001 ∧ a ≤ a' ∧ a' ≤ a + 10 * n + 10
  | 0, q, a, sd, hq, h0, h1 => by
    obtain ⟨u, a1, sd1, e1, ha1, hb1, -⟩ := pick_ok hl a sd 16 h0 (by omega) (by omega)
    by_cases c : u = 0
    · obtain ⟨v, a2, sd2, e2, ha2, hb2, -⟩ := among_ok hl a1 sd1 [100000, (-100000), 100001, 4611686018427387904] (by omega) (by omega) (by simp) (by simp)
      refine ⟨q ++ [v], a2, sd2, Ev.step (f := fun _ => some (q ++ [v], a2, sd2)) (fun k => ?_) (Ev.now _), by simp; omega, by omega, by omega⟩
      simp only [spec_l1Cur_signal.l0, e1, e2, Option.bind_some, if_pos c]
      rw [if_neg (by omega), if_pos (by omega)]
    · by_cases d : u = 1
      · obtain ⟨v, a2, sd2, e2, ha2, hb2, hv, hv2⟩ := pick_ok hl a1 sd1 2 (by omega) (by omega) (by omega)
        have e3 : wrap64 (64 + v) = 64 + v := w64 (by omega) (by omega)
        refine ⟨List.replicate (64 + v).toNat 0, a2, sd2, Ev.step (f := fun _ => some (List.replicate (64 + v).toNat 0, a2, sd2)) (fun k => ?_) (Ev.now _), by simp; omega, by omega, by omega⟩
        simp only [spec_l1Cur_signal.l0, e1, e2, Option.bind_some, if_neg c, if_pos d, e3]
        rw [if_neg (by omega), if_pos (by omega), if_pos (by omega)]
      · refine ⟨q, a1, sd1, Ev.step (f := fun _ => some (q, a1, sd1)) (fun k => ?_) (Ev.now _), by omega, by omega, by omega⟩
        simp only [spec_l1Cur_signal.l0, e1, Option.bind_some, if_neg c, if_neg d]
        rw [if_neg (by omega)]
  | n + 1, q, a, sd, hq, h0, h1 => by
    obtain ⟨u, a1, sd1, e1, ha1, hb1, -⟩ := one_ok hl a sd 4 h0 (by omega) (by omega)
    have e3 : wrap64 (((n + 1 : Nat) : Int) - 1) = (n : Int) := by
      rw [w64 (n := ((n + 1 : Nat) : Int) - 1) (by omega) (by omega)]
      omega
    have hn : ((n + 1 : Nat) : Int) > 0 := by omega
    have hql : q.length < 17592186044416 := by omega
    by_cases c : u = true
    · obtain ⟨s, a', sd', h, hs1, ha, hb⟩ := signal_l0 hl sz hs n (q ++ [0]) a1 sd1 (by simp; omega) (by omega) (by omega)
      refine ⟨s, a', sd', Ev.step (fun k => ?_) h, hs1, by omega, by omega⟩
      simp only [spec_l1Cur_signal.l0, e1, Option.bind_some, if_pos c, if_pos hn, if_pos hql, e3]
    · have e4 : wrap64 (wrap64 (2 * sz) + 1) = 2 * sz + 1 := by
        rw [w64 (n := 2 * sz) (by omega) (by omega), w64 (n := 2 * sz + 1) (by omega) (by omega)]
      obtain ⟨v, a2, sd2, e2, ha2, hb2, -⟩ := pick_ok hl a1 sd1 (2 * sz + 1) (by omega) (by omega) (by omega)
      obtain ⟨s, a', sd', h, hs1, ha, hb⟩ := signal_l0 hl sz hs n (q ++ [wrap64 (v - sz)]) a2 sd2 (by simp; omega) (by omega) (by omega)
      refine ⟨s, a', sd', Ev.step (fun k => ?_) h, hs1, by omega, by omega⟩
      simp only [spec_l1Cur_signal.l0, e1, Option.bind_some, if_neg c, if_pos hn, e4, e2, if_pos hql, e3]
theorem signal_ok {l : List Int} (hl : Bytes l) (a sd most sz : Int) (h0 : 0 ≤ a) (h1 : a ≤ 1000000000) (hm : 0 ≤ most ∧ most ≤ 10000) (hs : 1 ≤ sz ∧ sz ≤ 100000) : ∃ s a' sd', Ev (fun k => spec_l1Cur_signal.f k l a sd most sz) (s, a', sd') ∧ s.length ≤ 100001 ∧ a ≤ a' ∧ a' ≤ a + 1000000 := by
  obtain ⟨u, a1, sd1, e1, ha1, hb1, hu, hu2⟩ := pick_ok hl a sd (most + 1) h0 (by omega) (by omega)
  obtain ⟨n, rfl⟩ : ∃ n : Nat, u = (n : Int) := ⟨u.toNat, by omega⟩
  obtain ⟨s, a', sd', h, hs1, ha, hb⟩ := signal_l0 hl sz hs n [] a1 sd1 (by simp; omega) (by omega) (by omega)
  refine ⟨s, a', sd', ?_, hs1, by omega, by omega⟩
  simp only [spec_l1Cur_signal.f]
  rw [w64 (n := most + 1) (by omega) (by omega)]
  exact Ev.dbind e1 h

theorem laws_uSame_l0 (l : List Int) (hl : l.length ≤ 140737488351232) : ∀ (t p : List Int), l = p ++ t → Ev (fun k => laws_uSame.l0 k l l (l.length : Int) (p.length : Int)) true
  | [], p, h => by
    refine Ev.step (f := fun _ => some true) (fun k => ?_) (Ev.now _)
    subst h
    simp [laws_uSame.l0]
  | x :: t, p, h => by
    have e1 : (p.length : Int) < (l.length : Int) := by rw [h]; exact lt_mid p t x
    have e3 : wrap64 ((p.length : Int) + 1) = ((p ++ [x]).length : Int) := nx_mid p t x (h ▸ hl)
    refine Ev.step (fun k => ?_) (laws_uSame_l0 l hl t (p ++ [x]) (by simp [h]))
    simp only [laws_uSame.l0, if_pos e1, if_pos (Int.natCast_nonneg _), e3]
    rw [if_pos trivial]
theorem laws_uSame_ev (l : List Int) (hl : l.length ≤ 140737488351232) : Ev (fun k => laws_uSame.f k l l) true := by
  simp only [laws_uSame.f]
  exact Ev.tt trivial (laws_uSame_l0 l hl l [] rfl)

theorem laws_uAbs_eq (x : Int) (hx : -4611686018427387904 ≤ x) : laws_uAbs.f x = some (x.natAbs : Int) := by
  simp only [laws_uAbs.f]
  by_cases c : x < 0
  · rw [if_pos c, w64 (n := -x) (by omega) (by omega)]
    congr 1
    omega
  · rw [if_neg c]
    congr 1
    omega

theorem drawStep_ok {l : List Int} (hl : Bytes l) (a sd : Int) (h0 : 0 ≤ a) (h1 : a ≤ 1000000000) : ∃ n a' sd', spec_l1Cur_step.f l a sd = some (n, a', sd') := by
  obtain ⟨v, a2, sd2, e2, ha2, hb2, -⟩ := pick_ok hl a sd 50 h0 (by omega) (by omega)
  obtain ⟨x, a3, sd3, e3, ha3, hb3, -⟩ := among_ok hl a2 sd2 [1, 2, 3, 8, 100, 4096, 4097, 0, (-1), wrap64 (1 + v)] (by omega) (by omega) (by simp) (by simp)
  refine ⟨x, a3, sd3, ?_⟩
  simp only [spec_l1Cur_step.f, e2, e3, Option.bind_some]

theorem bits9_l1 {l : List Int} (hl : Bytes l) : ∀ (n : Nat) (q : List Int) (a sd : Int), 66 ≤ q.length + n → q.length ≤ 100 → 0 ≤ a → a + 2 * n ≤ 1000000 → ∃ s a' sd', Ev (fun k => spec_l1Cur_bits9.l1 k q l a sd) (s, a', sd') ∧ s.length ≤ 100 ∧ a ≤ a' ∧ a' ≤ a + 2 * n + 2
  | 0, q, a, sd, hq, hq2, h0, h1 => by
    obtain ⟨v, a1, sd1, e1, ha1, hb1, hv, hv2⟩ := pick_ok hl a sd 3 h0 (by omega) (by omega)
    have e3 : wrap64 (wrap64 (64 + v) - 1) = 63 + v := by
      rw [w64 (n := 64 + v) (by omega) (by omega), w64 (n := 64 + v - 1) (by omega) (by omega)]
      omega
    refine ⟨q, a1, sd1, Ev.step (f := fun _ => some (q, a1, sd1)) (fun k => ?_) (Ev.now _), hq2, by omega, by omega⟩
    simp only [spec_l1Cur_bits9.l1, e1, Option.bind_some, e3]
    rw [if_neg (by omega)]
  | n + 1, q, a, sd, hq, hq2, h0, h1 => by
    obtain ⟨v, a1, sd1, e1, ha1, hb1, hv, hv2⟩ := pick_ok hl a sd 3 h0 (by omega) (by omega)
    have e3 : wrap64 (wrap64 (64 + v) - 1) = 63 + v := by
      rw [w64 (n := 64 + v) (by omega) (by omega), w64 (n := 64 + v - 1) (by omega) (by omega)]
      omega
    by_cases c : (q.length : Int) < 63 + v
    · obtain ⟨s, a', sd', h, hs, ha, hb⟩ := bits9_l1 hl n (q ++ [1]) a1 sd1 (by simp; omega) (by simp; omega) (by omega) (by omega)
      refine ⟨s, a', sd', Ev.step (fun k => ?_) h, hs, by omega, by omega⟩
      simp only [spec_l1Cur_bits9.l1, e1, Option.bind_some, e3]
      rw [if_pos c, if_pos (by omega)]
    · refine ⟨q, a1, sd1, Ev.step (f := fun _ => some (q, a1, sd1)) (fun k => ?_) (Ev.now _), hq2, by omega, by omega⟩
      simp only [spec_l1Cur_bits9.l1, e1, Option.bind_some, e3]
      rw [if_neg c]
theorem bits9_l0 {l : List Int} (hl : Bytes l) : ∀ (n : Nat) (q : List Int) (b a sd : Int), q.length + n ≤ 50 → 0 ≤ a → a + 2 * n ≤ 1000 → ∃ s a' sd', Ev (fun k => spec_l1Cur_bits9.l0 k q b (n : Int) l a sd) (s, a', sd') ∧ s.length ≤ 100 ∧ a ≤ a' ∧ a' ≤ a + 2 * n + 1000
  | 0, q, b, a, sd, hq, h0, h1 => by
    obtain ⟨u, a1, sd1, e1, ha1, hb1, -⟩ := pick_ok hl a sd 14 h0 (by omega) (by omega)
    by_cases c : u = 0
    · obtain ⟨v, a2, sd2, e2, ha2, hb2, -⟩ := among_ok hl a1 sd1 [0, 2, (-2), 4611686018427387904] (by omega) (by omega) (by simp) (by simp)
      refine ⟨q ++ [v], a2, sd2, Ev.step (f := fun _ => some (q ++ [v], a2, sd2)) (fun k => ?_) (Ev.now _), by simp; omega, by omega, by omega⟩
      simp only [spec_l1Cur_bits9.l0, e1, e2, Option.bind_some, if_pos c]
      rw [if_neg (by omega), if_pos (by omega)]
    · by_cases d : u = 1
      · obtain ⟨s, a2, sd2, h, hs, ha2, hb2⟩ := bits9_l1 hl 66 q a1 sd1 (by omega) (by omega) (by omega) (by omega)
        refine ⟨s, a2, sd2, Ev.step (fun k => ?_) h, hs, by omega, by omega⟩
        simp only [spec_l1Cur_bits9.l0, e1, Option.bind_some, if_neg c, if_pos d]
        rw [if_neg (by omega)]
      · refine ⟨q, a1, sd1, Ev.step (f := fun _ => some (q, a1, sd1)) (fun k => ?_) (Ev.now _), by omega, by omega, by omega⟩
        simp only [spec_l1Cur_bits9.l0, e1, Option.bind_some, if_neg c, if_neg d]
        rw [if_neg (by omega)]
  | n + 1, q, b, a, sd, hq, h0, h1 => by
    obtain ⟨u, a1, sd1, e1, ha1, hb1, -⟩ := one_ok hl a sd 2 h0 (by omega) (by omega)
    have e3 : wrap64 (((n + 1 : Nat) : Int) - 1) = (n : Int) := by
      rw [w64 (n := ((n + 1 : Nat) : Int) - 1) (by omega) (by omega)]
      omega
    have hn : ((n + 1 : Nat) : Int) > 0 := by omega
    have hql : q.length < 17592186044416 := by omega
    by_cases c : u = true
    · obtain ⟨s, a', sd', h, hs1, ha, hb⟩ := bits9_l0 hl n (q ++ [wrap64 (-b)]) (wrap64 (-b)) a1 sd1 (by simp; omega) (by omega) (by omega)
      refine ⟨s, a', sd', Ev.step (fun k => ?_) h, hs1, by omega, by omega⟩
      simp only [spec_l1Cur_bits9.l0, e1, Option.bind_some, if_pos c, if_pos hn, if_pos hql, e3]
    · obtain ⟨s, a', sd', h, hs1, ha, hb⟩ := bits9_l0 hl n (q ++ [b]) b a1 sd1 (by simp; omega) (by omega) (by omega)
      refine ⟨s, a', sd', Ev.step (fun k => ?_) h, hs1, by omega, by omega⟩
      simp only [spec_l1Cur_bits9.l0, e1, Option.bind_some, if_neg c, if_pos hn, if_pos hql, e3]
theorem bits9_ok {l : List Int} (hl : Bytes l) : ∃ s a' sd', Ev (fun k => spec_l1Cur_bits9.f k l 0 0) (s, a', sd') ∧ s.length ≤ 100 ∧ 0 ≤ a' ∧ a' ≤ 10000 := by
  obtain ⟨u, a1, sd1, e1, ha1, hb1, hu, hu2⟩ := pick_ok hl 0 0 16 (by omega) (by omega) (by omega)
  obtain ⟨n, rfl⟩ : ∃ n : Nat, u = (n : Int) := ⟨u.toNat, by omega⟩
  obtain ⟨s, a', sd', h, hs1, ha, hb⟩ := bits9_l0 hl n [] 1 a1 sd1 (by simp; omega) (by omega) (by omega)
  refine ⟨s, a', sd', ?_, hs1, by omega, by omega⟩
  simp only [spec_l1Cur_bits9.f]
  exact Ev.dbind e1 h

theorem drawStepBits_ok {l : List Int} (hl : Bytes l) : ∃ s n, Ev (fun k => spec_DrawStepBits.f k l) (s, n) ∧ s.length ≤ 100001 := by
  obtain ⟨s, a2, sd2, e2, hs, h3, h4⟩ := signal_ok hl 0 0 14 40 (by omega) (by omega) (by omega) (by omega)
  obtain ⟨n, a3, sd3, e3⟩ := drawStep_ok hl a2 sd2 (by omega) (by omega)
  refine ⟨s, n, ?_, hs⟩
  simp only [spec_DrawStepBits.f]
  exact Ev.bind e2 (Ev.dbind e3 (Ev.now _))
theorem drawStepsOf_ok {l : List Int} (hl : Bytes l) : ∃ s n, Ev (fun k => spec_DrawStepsOfBits.f k l) (s, n) ∧ s.length ≤ 100 := by
  obtain ⟨s, a2, sd2, e2, hs, h3, h4⟩ := bits9_ok hl
  obtain ⟨n, a3, sd3, e3⟩ := drawStep_ok hl a2 sd2 (by omega) (by omega)
  refine ⟨s, n, ?_, hs⟩
  simp only [spec_DrawStepsOfBits.f]
  exact Ev.bind e2 (Ev.dbind e3 (Ev.now _))
def gapMax (l : List Int) (st : Int) : Int × Bool := (((peakM (stepGaps l st).1 0 : Nat) : Int), (stepGaps l st).2)
theorem spec_gapMax_ev (l : List Int) (st : Int) (hl : l.length ≤ 1048576) : Ev (fun k => spec_GreatestGap.f k l st) (gapMax l st) := by
  have h1 := stepGaps_len l st
  have h2 := stepGaps_sig l st
  simp only [spec_GreatestGap.f, gapMax]
  refine Ev.bind (spec_StepGaps_ev l st (by omega)) ?_
  by_cases c : (stepGaps l st).2 = true
  · rw [c]
    exact Ev.tt rfl (Ev.bind (spec_wdPeak_ev _ (by omega) h2) (Ev.now _))
  · have e : (stepGaps l st).1 = [] := by
      revert c
      unfold stepGaps toldM
      repeat' split
      all_goals simp
    rw [Bool.eq_false_iff.mpr c, e]
    exact Ev.ff (by decide) (Ev.now _)
theorem impl_gapMax_ev (l : List Int) (st : Int) (hl : l.length ≤ 1048576) : Ev (fun k => impl_GreatestGap.f k l st) (gapMax l st) := by
  have h1 := stepGaps_len l st
  have h2 := stepGaps_sig l st
  simp only [impl_GreatestGap.f, gapMax]
  exact Ev.bind (impl_StepGaps_ev l st (by omega)) (Ev.bind (impl_peak_ev _ (by omega) h2) (Ev.now _))
theorem peak_all : ∀ (l : List Int) (m : Nat), m ≤ peakM l m ∧ ∀ x ∈ l, x.natAbs ≤ peakM l m
  | [], m => ⟨Nat.le_refl _, fun x h => by simp at h⟩
  | y :: t, m => by
    have h := peak_all t (max m y.natAbs)
    refine ⟨by rw [peakM]; omega, fun x hx => ?_⟩
    rw [peakM]
    rcases List.mem_cons.1 hx with rfl | hx
    · omega
    · exact h.2 x hx
theorem dec_code (fixed : Bool) : ∀ (l : List Int) (v st last : Int), (decM fixed ((codeM fixed l v st last).map (·.1)) v st last).map (·.1) = (codeM fixed l v st last).map (·.2.1)
  | [], _, _, _ => rfl
  | x :: t, v, st, last => by
    simp only [codeM, List.map_cons, decM]
    rw [dec_code fixed t]
theorem code_bits (fixed : Bool) : ∀ (l : List Int) (v st last : Int), ∀ b ∈ (codeM fixed l v st last).map (·.1), b = 1 ∨ b = -1
  | [], _, _, _, b, h => by simp [codeM] at h
  | x :: t, v, st, last, b, h => by
    simp only [codeM, List.map_cons, List.mem_cons] at h
    rcases h with rfl | h
    · exact bitM_cases x v
    · exact code_bits fixed t _ _ _ b h
theorem fix_bits (st : Int) : ∀ (l : List Int) (v : Int), ∀ b ∈ fixM st l v, b = 1 ∨ b = -1
  | [], _, b, h => by simp [fixM] at h
  | x :: t, v, b, h => by
    simp only [fixM, List.mem_cons] at h
    rcases h with rfl | h
    · exact bitM_cases x v
    · exact fix_bits st t _ b h
theorem bit_dec (x v : Int) : ((bitM x v == 1) != decide (x ≥ v)) = false := by
  unfold bitM
  by_cases c : x ≥ v
  · rw [if_pos c, decide_eq_true c]
    rfl
  · rw [if_neg c, decide_eq_false c]
    rfl
theorem law_l3 (b V S : List Int) (hb : ∀ x ∈ b, x = 1 ∨ x = -1) (hl : b.length ≤ 200) : ∀ (t p Q R : List Int) (v st last : Int), b = p ++ t → V = Q ++ (decM false t v st last).map (·.1) → S = R ++ (decM false t v st last).map (·.2) → Q.length = p.length → R.length = p.length → 1 ≤ st → st ≤ 4096 → -(4096 * p.length) ≤ v → v ≤ 4096 * p.length →
    Ev (fun k => laws_FnStepsAdapt.l3 k b V v S (S.length : Int) (p.length : Int)) true
  | [], p, Q, R, v, st, last, h, hV, hS, hQ, hR, h0, h1, h2, h3 => by
    have e : S.length = p.length := by rw [hS]; simp [decM, hR]
    refine Ev.step (f := fun _ => some true) (fun k => ?_) (Ev.now _)
    simp only [laws_FnStepsAdapt.l3]
    rw [if_neg (by omega)]
  | x :: t, p, Q, R, v, st, last, h, hV, hS, hQ, hR, h0, h1, h2, h3 => by
    have e1 : (p.length : Int) < (b.length : Int) := by rw [h]; exact lt_mid p t x
    have e2 : rd b (p.length : Int) = x := by rw [h]; exact rd_mid p t x
    have e3 : wrap64 ((p.length : Int) + 1) = ((p ++ [x]).length : Int) := nx_mid p t x (by rw [← h]; omega)
    have hx := hb x (by rw [h]; simp)
    have hl1 : ((p ++ [x]).length : Int) = (p.length : Int) + 1 := by simp
    have hpl : p.length ≤ 200 := by rw [h] at hl; simp at hl; omega
    have hk := tkS_bd (last := last) (fixed := false) (bit := x) h0 h1
    have hm := mul_bit (st := tkS st last false x) hx
    have eV : (p.length : Int) < (V.length : Int) := by rw [hV, ← hQ]; simp [decM]; omega
    have eS : (p.length : Int) < (S.length : Int) := by rw [hS, ← hR]; simp [decM]; omega
    have rV : rd V (p.length : Int) = v + tkS st last false x * x := by rw [hV, ← hQ]; simp only [decM, List.map_cons]; exact rd_mid _ _ _
    have rS : rd S (p.length : Int) = tkS st last false x := by rw [hS, ← hR]; simp only [decM, List.map_cons]; exact rd_mid _ _ _
    have f1 : wrap64 (tkS st last false x * x) = tkS st last false x * x := w64 (by omega) (by omega)
    have f2 : wrap64 (v + tkS st last false x * x) = v + tkS st last false x * x := w64 (by omega) (by omega)
    have next := law_l3 b V S hb hl t (p ++ [x]) (Q ++ [v + tkS st last false x * x]) (R ++ [tkS st last false x]) (v + tkS st last false x * x) (tkS st last false x) x (by simp [h]) (by rw [hV]; simp [decM]) (by rw [hS]; simp [decM]) (by simp [hQ]) (by simp [hR]) hk.1 hk.2 (by omega) (by omega)
    refine Ev.step (fun k => by simp only [laws_FnStepsAdapt.l3]; rfl) ?_
    rw [rV, rS, e2, f1, f2, e3]
    exact Ev.tt eS (Ev.tt (Int.natCast_nonneg _) (Ev.tt eS (Ev.tt e1 (Ev.tt eV (Ev.tt rfl next)))))
theorem law_l2 {g : Nat → Option Bool} (b : List Int) (first : Int) (S V : List Int) (oS oV : Bool) (hb : ∀ x ∈ b, x = 1 ∨ x = -1) (hl : b.length ≤ 200) (hj : Ev (fun k => laws_FnStepsAdapt.j8 k b S oS V oV) true) : ∀ (t p R : List Int) (v st last : Int), b = p ++ t → S = R ++ (decM false t v st last).map (·.2) → R.length = p.length → 1 ≤ st → st ≤ 4096 → (p = [] → last = 0 ∧ st = first) → (p ≠ [] → b[p.length - 1]? = some last ∧ R.getLast? = some st) →
    Ev (fun k => laws_FnStepsAdapt.l2 k b first S oS V oV S (S.length : Int) (p.length : Int)) true
  | [], p, R, v, st, last, h, hS, hR, h0, h1, hp0, hp1 => by
    have e : S.length = p.length := by rw [hS]; simp [decM, hR]
    refine Ev.step (fun k => by simp only [laws_FnStepsAdapt.l2]; rfl) ?_
    exact Ev.ff (by omega) hj
  | x :: t, p, R, v, st, last, h, hS, hR, h0, h1, hp0, hp1 => by
    have e1 : (p.length : Int) < (b.length : Int) := by rw [h]; exact lt_mid p t x
    have e2 : rd b (p.length : Int) = x := by rw [h]; exact rd_mid p t x
    have e3 : wrap64 ((p.length : Int) + 1) = ((p ++ [x]).length : Int) := nx_mid p t x (by rw [← h]; omega)
    have hx := hb x (by rw [h]; simp)
    have hl1 : ((p ++ [x]).length : Int) = (p.length : Int) + 1 := by simp
    have hpl : p.length ≤ 200 := by rw [h] at hl; simp at hl; omega
    have hk := tkS_bd (last := last) (fixed := false) (bit := x) h0 h1
    have eS : (p.length : Int) < (S.length : Int) := by rw [hS, ← hR]; simp [decM]; omega
    have rS : rd S (p.length : Int) = tkS st last false x := by rw [hS, ← hR]; simp only [decM, List.map_cons]; exact rd_mid _ _ _
    have next := law_l2 (g := g) b first S V oS oV hb hl hj t (p ++ [x]) (R ++ [tkS st last false x]) (v + tkS st last false x * x) (tkS st last false x) x (by simp [h]) (by rw [hS]; simp [decM]) (by simp [hR]) hk.1 hk.2 (fun e => by simp at e) (fun _ => ⟨by rw [h]; simp, by simp⟩)
    rw [← e3] at next
    refine Ev.step (fun k => by simp only [laws_FnStepsAdapt.l2]; rfl) ?_
    rw [rS]
    refine Ev.tt eS (Ev.tt (Int.natCast_nonneg _) (Ev.tt eS (Ev.ff (by omega) (Ev.ff (by omega) ?_))))
    by_cases c : p = []
    · have hp := hp0 c
      have hpz : (p.length : Int) = 0 := by rw [c]; rfl
      have et : tkS st last false x = first := by
        unfold tkS
        rw [if_neg (by decide), if_pos hp.1, hp.2]
      refine Ev.tt hpz ?_
      rw [et, bne_self_eq_false]
      refine Ev.step (fun k => by simp only [laws_FnStepsAdapt.j7]; rfl) ?_
      exact Ev.ff (by simp) (Ev.tt hpz next)
    · have hp := hp1 c
      have hpos : 1 ≤ p.length := by
        cases p with
        | nil => exact absurd rfl c
        | cons y u => simp
      have hpz : ¬ (p.length : Int) = 0 := by omega
      have w1 : wrap64 ((p.length : Int) - 1) = ((p.length - 1 : Nat) : Int) := by
        rw [w64 (n := (p.length : Int) - 1) (by omega) (by omega)]
        omega
      have rb : rd b ((p.length - 1 : Nat) : Int) = last := by
        rw [rd_getD, List.getD_eq_getElem?_getD, hp.1]
        rfl
      have rP : rd S ((p.length - 1 : Nat) : Int) = st := by
        rw [rd_getD, List.getD_eq_getElem?_getD, hS, List.getElem?_append_left (by omega), ← hR, ← List.getLast?_eq_getElem?, hp.2]
        rfl
      have hlast : last = 1 ∨ last = -1 := hb last (List.mem_of_getElem? hp.1)
      have f1 : wrap64 (2 * st) = 2 * st := w64 (by omega) (by omega)
      have f2 : wrap64 (Int.tdiv st 2) = st / 2 := by
        rw [Int.tdiv_eq_ediv_of_nonneg (by omega)]
        exact w64 (by omega) (by omega)
      refine Ev.ff hpz ?_
      refine Ev.step (fun k => by simp only [laws_FnStepsAdapt.j7]; rfl) ?_
      rw [w1, e2, rb, rP, f1, f2]
      refine Ev.ff (by simp) (Ev.ff hpz (Ev.tt (Int.natCast_nonneg _) (Ev.tt e1 (Ev.tt (Int.natCast_nonneg _) (Ev.tt (by omega) ?_)))))
      have hz : ¬ last = 0 := by omega
      by_cases d : x = last
      · have et : tkS st last false x = if 2 * st ≤ 4096 then 2 * st else 4096 := by
          unfold tkS
          rw [if_neg (by decide), if_neg hz, if_pos d]
        refine Ev.tt d (Ev.tt (by omega) ?_)
        rw [et]
        by_cases q : 2 * st ≤ 4096
        · rw [if_pos q]
          exact Ev.tt rfl next
        · rw [if_neg q]
          exact Ev.ff (by omega) (Ev.tt rfl next)
      · have et : tkS st last false x = if 1 ≤ st / 2 then st / 2 else 1 := by
          unfold tkS
          rw [if_neg (by decide), if_neg hz, if_neg d]
        refine Ev.ff d (Ev.tt (by omega) ?_)
        rw [et]
        by_cases q : 1 ≤ st / 2
        · rw [if_pos q]
          exact Ev.tt rfl next
        · rw [if_neg q]
          exact Ev.ff (by omega) (Ev.tt rfl next)
theorem law_j4 {l : List Int} (hl : Bytes l) : Ev (fun k => laws_FnStepsAdapt.j4 k l) true := by
  obtain ⟨b, n, d1, hb⟩ := drawStepsOf_ok hl
  have hd' : Ev (fun k => spec_DrawFixedValues.f k l) (b, n) := by
    simp only [spec_DrawFixedValues.f]
    exact Ev.bind d1 (Ev.now _)
  have h1 := stepsOfBits_len b n
  have h2 := stepValues_len b n
  have h3 := fixedValues_len b n
  refine Ev.step (fun k => by simp only [laws_FnStepsAdapt.j4]; rfl) ?_
  refine Ev.bind d1 (Ev.bind (impl_StepsOfBits_ev b n (by omega)) (Ev.bind (spec_StepsOfBits_ev b n (by omega)) (Ev.bind (impl_StepValues_ev b n (by omega)) (Ev.bind (spec_StepValues_ev b n (by omega)) (Ev.bind hd' (Ev.bind (impl_FixedValues_ev b n (by omega)) (Ev.bind (spec_FixedValues_ev b n (by omega)) ?_)))))))
  dsimp only
  refine Ev.ff (by simp) (Ev.bind (laws_uSame_ev _ (by omega)) (Ev.tt rfl (Ev.ff (by simp) (Ev.bind (laws_uSame_ev _ (by omega)) (Ev.tt rfl (Ev.ff (by simp) (Ev.bind (laws_uSame_ev _ (by omega)) ?_)))))))
  refine Ev.step (fun k => by simp only [laws_FnStepsAdapt.j5]; rfl) ?_
  refine Ev.ff (by simp) ?_
  by_cases c : isBits b = true ∧ stepOk n = true ∧ sig ((decM false b 0 n 0).map (·.2)) = true
  · have hn := stepOk_iff.1 c.2.1
    have hbl := isBits_len c.1
    have hbm := isBits_mem c.1
    have e1 : stepsOfBits b n = ((decM false b 0 n 0).map (·.2), true) := by rw [stepsOfBits, if_pos c.1, if_pos c.2.1, toldM, if_pos c.2.2]
    rw [e1]
    have j8 : Ev (fun k => laws_FnStepsAdapt.j8 k b ((decM false b 0 n 0).map (·.2)) true (stepValues b n).1 (stepValues b n).2) true := by
      refine Ev.step (fun k => by simp only [laws_FnStepsAdapt.j8]; rfl) (Ev.tt (by first | trivial | rfl) ?_)
      refine Ev.step (fun k => by simp only [laws_FnStepsAdapt.j9]; rfl) ?_
      by_cases d : sig ((decM false b 0 n 0).map (·.1)) = true
      · have e2 : stepValues b n = ((decM false b 0 n 0).map (·.1), true) := by rw [stepValues, if_pos c.1, if_pos c.2.1, toldM, if_pos d]
        rw [e2]
        exact Ev.tt (by first | trivial | rfl) (law_l3 b _ _ hbm hbl b [] [] [] 0 n 0 rfl rfl rfl rfl rfl hn.1 hn.2 (by simp) (by simp))
      · have e2 : stepValues b n = ([], false) := by rw [stepValues, if_pos c.1, if_pos c.2.1, toldM, if_neg d]
        rw [e2]
        exact Ev.ff (by simp) (Ev.now _)
    exact Ev.tt (by first | trivial | rfl) (law_l2 (g := fun _ => none) b n _ _ true _ hbm hbl j8 b [] [] 0 n 0 rfl rfl rfl hn.1 hn.2 (fun _ => ⟨rfl, rfl⟩) (fun h => absurd rfl h))
  · have e1 : stepsOfBits b n = ([], false) := by
      unfold stepsOfBits toldM
      by_cases c1 : isBits b = true
      · rw [if_pos c1]
        by_cases c2 : stepOk n = true
        · rw [if_pos c2, if_neg (fun h => c ⟨c1, c2, h⟩)]
        · rw [if_neg c2]
      · rw [if_neg c1]
    rw [e1]
    refine Ev.ff (by simp) (Ev.step (fun k => by simp only [laws_FnStepsAdapt.j8]; rfl) (Ev.ff (by simp) ?_))
    exact Ev.step (f := fun _ => some true) (fun k => by simp [laws_FnStepsAdapt.j9]) (Ev.now _)
theorem law_l1 {l : List Int} (hl : Bytes l) (s : List Int) (n : Int) (F W : List Int) (hn : 1 ≤ n ∧ n ≤ 4096) (hs : s.length ≤ 64) : ∀ (t p P Q : List Int) (v last : Int), s = p ++ t → F = P ++ fixM n t v → W = Q ++ (decM true (fixM n t v) v n last).map (·.1) → P.length = p.length → Q.length = p.length → -(4096 * p.length) ≤ v → v ≤ 4096 * p.length →
    Ev (fun k => laws_FnStepsAdapt.l1 k l n F W v s (s.length : Int) (p.length : Int)) true
  | [], p, P, Q, v, last, h, hF, hW, hP, hQ, h2, h3 => by
    have e : s.length = p.length := by rw [h]; simp
    refine Ev.step (fun k => by simp only [laws_FnStepsAdapt.l1]; rfl) ?_
    exact Ev.ff (by omega) (law_j4 hl)
  | x :: t, p, P, Q, v, last, h, hF, hW, hP, hQ, h2, h3 => by
    have e1 : (p.length : Int) < (s.length : Int) := by rw [h]; exact lt_mid p t x
    have e2 : rd s (p.length : Int) = x := by rw [h]; exact rd_mid p t x
    have e3 : wrap64 ((p.length : Int) + 1) = ((p ++ [x]).length : Int) := nx_mid p t x (by rw [← h]; omega)
    have hl1 : ((p ++ [x]).length : Int) = (p.length : Int) + 1 := by simp
    have hpl : p.length ≤ 64 := by rw [h] at hs; simp at hs; omega
    have hm := mul_bit (st := n) (bitM_cases x v)
    have ec : bitM x v * n = n * bitM x v := Int.mul_comm _ _
    have eF : (p.length : Int) < (F.length : Int) := by rw [hF, ← hP]; simp [fixM]; omega
    have eW : (p.length : Int) < (W.length : Int) := by rw [hW, ← hQ]; simp [fixM, decM]; omega
    have rF : rd F (p.length : Int) = bitM x v := by rw [hF, ← hP]; simp only [fixM]; exact rd_mid _ _ _
    have rW : rd W (p.length : Int) = v + n * bitM x v := by rw [hW, ← hQ]; simp only [fixM, decM, tkS, if_pos trivial, List.map_cons]; exact rd_mid _ _ _
    have f1 : wrap64 (v + n * bitM x v - v) = n * bitM x v := by rw [w64 (n := v + n * bitM x v - v) (by omega) (by omega)]; omega
    have f2 : wrap64 (bitM x v * n) = n * bitM x v := by rw [ec]; exact w64 (by omega) (by omega)
    have next := law_l1 hl s n F W hn hs t (p ++ [x]) (P ++ [bitM x v]) (Q ++ [v + n * bitM x v]) (v + n * bitM x v) (bitM x v) (by simp [h]) (by rw [hF]; simp [fixM, ec]) (by rw [hW]; simp [fixM, decM, tkS, ec]) (by simp [hP]) (by simp [hQ]) (by omega) (by omega)
    refine Ev.step (fun k => by simp only [laws_FnStepsAdapt.l1]; rfl) ?_
    rw [rF, rW, e2, f1, f2, bit_dec, e3]
    exact Ev.tt e1 (Ev.tt (Int.natCast_nonneg _) (Ev.tt e1 (Ev.tt eF (Ev.ff (by simp) (Ev.tt eW (Ev.tt rfl next))))))
theorem law_j2 {l : List Int} (hl : Bytes l) (s : List Int) (n : Int) (B : List Int) (hs : sig s = true) (hn : stepOk n = true) : Ev (fun k => laws_FnStepsAdapt.j2 k l s n (fixM n s 0)) true := by
  have hn' := stepOk_iff.1 hn
  have hsl := sig_len hs
  have hb : isBits (fixM n s 0) = true := by
    simp only [isBits, Bool.and_eq_true, decide_eq_true_eq, List.all_eq_true]
    exact ⟨by rw [fixM_length]; omega, fun b hb => fix_bits n s 0 b hb⟩
  refine Ev.step (fun k => by simp only [laws_FnStepsAdapt.j2]; rfl) ?_
  refine Ev.bind (impl_FixedValues_ev _ n (by rw [fixM_length]; omega)) ?_
  by_cases d : sig ((decM true (fixM n s 0) 0 n 0).map (·.1)) = true
  · have e : fixedValues (fixM n s 0) n = ((decM true (fixM n s 0) 0 n 0).map (·.1), true) := by rw [fixedValues, if_pos hb, if_pos hn, toldM, if_pos d]
    rw [e]
    exact Ev.tt (by first | trivial | rfl) (law_l1 hl s n _ _ hn' hsl s [] [] [] 0 0 rfl rfl rfl rfl rfl (by simp) (by simp))
  · have e : fixedValues (fixM n s 0) n = ([], false) := by rw [fixedValues, if_pos hb, if_pos hn, toldM, if_neg d]
    rw [e]
    exact Ev.ff (by simp) (law_j4 hl)
theorem law_l0 {l : List Int} (hl : Bytes l) (s : List Int) (n : Int) (B G V : List Int) (one : Bool) (most : Int) (F : List Int) (hs : sig s = true) (hone : one = true → ∀ g ∈ G, (g.natAbs : Int) ≤ most) (hj : Ev (fun k => laws_FnStepsAdapt.j2 k l s n F) true) : ∀ (t p P Q R : List Int) (v st last : Int), s = p ++ t → B = P ++ (codeM false t v st last).map (·.1) → V = Q ++ (codeM false t v st last).map (·.2.1) → (one = true → G = R ++ gapM t ((codeM false t v st last).map (·.2.1))) → P.length = p.length → Q.length = p.length → R.length = p.length → 1 ≤ st → st ≤ 4096 → -(4096 * p.length) ≤ v → v ≤ 4096 * p.length →
    Ev (fun k => laws_FnStepsAdapt.l0 k l s n B G one most F V v s (s.length : Int) (p.length : Int)) true
  | [], p, P, Q, R, v, st, last, h, hB, hV, hG, hP, hQ, hR, h0, h1, h2, h3 => by
    have e : s.length = p.length := by rw [h]; simp
    refine Ev.step (fun k => by simp only [laws_FnStepsAdapt.l0]; rfl) ?_
    exact Ev.ff (by omega) hj
  | x :: t, p, P, Q, R, v, st, last, h, hB, hV, hG, hP, hQ, hR, h0, h1, h2, h3 => by
    have hsl := sig_len hs
    have hsx := sig_mem hs x (by rw [h]; simp)
    have e1 : (p.length : Int) < (s.length : Int) := by rw [h]; exact lt_mid p t x
    have e2 : rd s (p.length : Int) = x := by rw [h]; exact rd_mid p t x
    have e3 : wrap64 ((p.length : Int) + 1) = ((p ++ [x]).length : Int) := nx_mid p t x (by rw [← h]; omega)
    have hl1 : ((p ++ [x]).length : Int) = (p.length : Int) + 1 := by simp
    have hpl : p.length ≤ 64 := by rw [h] at hsl; simp at hsl; omega
    have hk := tkS_bd (last := last) (fixed := false) (bit := bitM x v) h0 h1
    have hm := mul_bit (st := tkS st last false (bitM x v)) (bitM_cases x v)
    generalize hW : v + tkS st last false (bitM x v) * bitM x v = W at *
    have eB : (p.length : Int) < (B.length : Int) := by rw [hB, ← hP]; simp [codeM]; omega
    have eV : (p.length : Int) < (V.length : Int) := by rw [hV, ← hQ]; simp [codeM]; omega
    have rB : rd B (p.length : Int) = bitM x v := by rw [hB, ← hP]; simp only [codeM, List.map_cons]; exact rd_mid _ _ _
    have rV : rd V (p.length : Int) = W := by rw [hV, ← hQ]; simp only [codeM, List.map_cons, hW]; exact rd_mid _ _ _
    have next := law_l0 hl s n B G V one most F hs hone hj t (p ++ [x]) (P ++ [bitM x v]) (Q ++ [W]) (R ++ [x - W]) W (tkS st last false (bitM x v)) (bitM x v) (by simp [h]) (by rw [hB]; simp [codeM, hW]) (by rw [hV]; simp [codeM, hW]) (fun o => by rw [hG o]; simp [codeM, gapM, hW]) (by simp [hP]) (by simp [hQ]) (by simp [hR]) hk.1 hk.2 (by omega) (by omega)
    refine Ev.step (fun k => by simp only [laws_FnStepsAdapt.l0]; rfl) ?_
    rw [rB, rV, e2, bit_dec, e3]
    refine Ev.tt e1 (Ev.tt (Int.natCast_nonneg _) (Ev.tt e1 (Ev.tt eB (Ev.ff (by simp) ?_))))
    by_cases o : one = true
    · have hg := hG o
      have eG : (p.length : Int) < (G.length : Int) := by rw [hg, ← hR]; simp [codeM, gapM]; omega
      have rG : rd G (p.length : Int) = x - W := by rw [hg, ← hR]; simp only [codeM, gapM, List.map_cons, hW]; exact rd_mid _ _ _
      have hmost := hone o (x - W) (by rw [hg]; simp [codeM, gapM, hW])
      have f1 : wrap64 (x - W) = x - W := w64 (by omega) (by omega)
      rw [rG, f1]
      exact Ev.tt o (Ev.tt eG (Ev.tt eV (Ev.tt rfl (Ev.dbind (laws_uAbs_eq _ (by omega)) (Ev.ff (by omega) next)))))
    · exact Ev.ff o (Ev.tt eV next)
theorem FnStepsAdapt : laws_FnStepsAdapt.Pure := by
  intro l l2 h1 h2 h3 h4 h5 h6
  apply Ev.rounds
  simp only [laws_FnStepsAdapt.f]
  refine Ev.dbind (laws_big_eq l l2 (by omega) (by omega)) ?_
  by_cases big : 1048576 < l.length + l2.length
  · exact Ev.tt (by simpa using big) (Ev.now _)
  refine Ev.ff (by simpa using big) ?_
  have hl : Bytes l := bytes_of (by omega) h3
  have hl2 : Bytes l2 := bytes_of (by omega) h6
  obtain ⟨s, n, hd, hs⟩ := drawStepBits_ok hl
  have k1 := stepBits_len s n
  have k2 := stepGaps_len s n
  have k3 : (fixedBits s n).1.length ≤ 64 := by
    unfold fixedBits
    split
    · rename_i c
      rw [fixM_length]
      exact sig_len c.1
    · simp
  refine Ev.bind hd (Ev.bind (impl_StepBits_ev s n (by omega)) (Ev.bind (spec_StepBits_ev s n (by omega)) (Ev.bind (impl_StepGaps_ev s n (by omega)) (Ev.bind (spec_StepGaps_ev s n (by omega)) (Ev.bind (impl_gapMax_ev s n (by omega)) (Ev.bind (spec_gapMax_ev s n (by omega)) (Ev.bind (impl_FixedBits_ev s n (by omega)) (Ev.bind (spec_FixedBits_ev s n (by omega)) ?_))))))))
  dsimp only
  have e3 : (gapMax s n).2 = (stepGaps s n).2 := rfl
  have e4 : (fixedBits s n).2 = (stepBits s n).2 := by
    unfold fixedBits stepBits
    by_cases c : sig s = true
    · by_cases d : stepOk n = true
      · rw [if_pos ⟨c, stepOk_iff.1 d⟩, if_pos c, if_pos d]
      · rw [if_neg (fun h => d (stepOk_iff.2 h.2)), if_pos c, if_neg d]
    · rw [if_neg (fun h => c h.1), if_neg c]
  refine Ev.ff (by simp) (Ev.bind (laws_uSame_ev _ (by omega)) (Ev.tt rfl (Ev.ff (by simp) (Ev.bind (laws_uSame_ev _ (by omega)) (Ev.tt rfl (Ev.ff (by simp) (Ev.tt rfl (Ev.ff (by simp) (Ev.bind (laws_uSame_ev _ (by omega)) (Ev.tt rfl (Ev.ff (by rw [e3]; simp) (Ev.ff (by rw [e4]; simp) ?_))))))))))))
  by_cases c : sig s = true ∧ stepOk n = true
  · have hn := stepOk_iff.1 c.2
    have hsl := sig_len c.1
    have b1 : stepBits s n = ((codeM false s 0 n 0).map (·.1), true) := by rw [stepBits, if_pos c.1, if_pos c.2]
    have b2 : fixedBits s n = (fixM n s 0, true) := by rw [fixedBits, if_pos ⟨c.1, hn⟩]
    have b3 : stepGaps s n = toldM (gapM s ((codeM false s 0 n 0).map (·.2.1))) := by rw [stepGaps, if_pos c.1, if_pos c.2]
    have hB : isBits ((codeM false s 0 n 0).map (·.1)) = true := by
      simp only [isBits, Bool.and_eq_true, decide_eq_true_eq, List.all_eq_true]
      exact ⟨by rw [List.length_map, codeM_length]; omega, fun b hb => code_bits false s 0 n 0 b hb⟩
    have j2 := law_j2 hl2 s n [] c.1 c.2
    have key : ∀ (one : Bool) (G : List Int) (most : Int), (one = true → G = gapM s ((codeM false s 0 n 0).map (·.2.1))) → (one = true → ∀ g ∈ G, (g.natAbs : Int) ≤ most) → Ev (fun k => laws_FnStepsAdapt.j0 k l2 s n ((codeM false s 0 n 0).map (·.1)) true G one most (fixM n s 0) false) true := by
      intro one G most hG hm
      refine Ev.step (fun k => by simp only [laws_FnStepsAdapt.j0]; rfl) ?_
      refine Ev.ff (by simp) (Ev.tt (by first | trivial | rfl) (Ev.bind (impl_StepValues_ev _ n (by rw [List.length_map, codeM_length]; omega)) (Ev.tt (by rw [List.length_map, codeM_length]) ?_)))
      by_cases d : sig ((codeM false s 0 n 0).map (·.2.1)) = true
      · have e : stepValues ((codeM false s 0 n 0).map (·.1)) n = ((codeM false s 0 n 0).map (·.2.1), true) := by rw [stepValues, if_pos hB, if_pos c.2, dec_code, toldM, if_pos d]
        rw [e]
        exact Ev.tt (by first | trivial | rfl) (law_l0 hl2 s n _ G _ one most _ c.1 hm j2 s [] [] [] [] 0 n 0 rfl rfl rfl hG rfl rfl rfl hn.1 hn.2 (by simp) (by simp))
      · have e : stepValues ((codeM false s 0 n 0).map (·.1)) n = ([], false) := by rw [stepValues, if_pos hB, if_pos c.2, dec_code, toldM, if_neg d]
        rw [e]
        exact Ev.ff (by simp) j2
    rw [b1, b2]
    by_cases d : sig (gapM s ((codeM false s 0 n 0).map (·.2.1))) = true
    · have b4 : stepGaps s n = (gapM s ((codeM false s 0 n 0).map (·.2.1)), true) := by rw [b3, toldM, if_pos d]
      have hm : ∀ g ∈ (gapM s ((codeM false s 0 n 0).map (·.2.1))), (g.natAbs : Int) ≤ (gapMax s n).1 := by
        intro g hg
        have := (peak_all _ 0).2 g hg
        rw [gapMax, b4]
        exact Int.ofNat_le.2 this
      rw [b4]
      exact Ev.tt (by first | trivial | rfl) (key true _ _ (fun _ => rfl) (fun _ => hm))
    · have b4 : stepGaps s n = ([], false) := by rw [b3, toldM, if_neg d]
      rw [b4]
      exact Ev.ff (by simp) (key false _ _ (fun h => by simp at h) (fun h => by simp at h))
  · have b1 : stepBits s n = ([], false) := by
      unfold stepBits
      by_cases c1 : sig s = true
      · rw [if_pos c1, if_neg (fun h => c ⟨c1, h⟩)]
      · rw [if_neg c1]
    have b3 : stepGaps s n = ([], false) := by
      unfold stepGaps
      by_cases c1 : sig s = true
      · rw [if_pos c1, if_neg (fun h => c ⟨c1, h⟩)]
      · rw [if_neg c1]
    rw [b1, b3]
    refine Ev.ff (by simp) (Ev.step (fun k => by simp only [laws_FnStepsAdapt.j0]; rfl) (Ev.ff (by simp) (Ev.ff (by simp) (law_j4 hl2))))

end Go.Proofs.Ytjplcongellcmaa.Pure
