/- FnWeightsMultiply: the plain law behind the statement FnWeightsMultiply. No condition. -/
import Derived.Test.YtjplcongellcmaaPFnWeightsMultiplyx10
namespace Go.Proofs.Ytjplcongellcmaa.Pure
open Go.RowKit Go.Proofs.Ytjplcongellcmaa.PFnWeightsMultiply Go.Proofs.YtjplcongellcmaaW.PrintWords Go.Proofs.YtjplcongellcmaaW.PrintLast Go.Proofs.YtjplcongellcmaaW.PrintMore
set_option linter.unusedVariables false
set_option linter.unusedSimpArgs false

theorem w64 {n : Int} (h1 : -9223372036854775808 ≤ n) (h2 : n ≤ 9223372036854775807) : wrap64 n = n := by
  unfold wrap64
  omega
theorem Ev.to {α : Type} {g : Nat → Option α} {r r' : α} (h : Ev g r) (e : r = r') : Ev g r' := e ▸ h
theorem Ev.const {α : Type} {g : Option α} {r : α} (h : g = some r) : Ev (fun _ => g) r := ⟨0, fun _ _ => h⟩
theorem Ev.dbind {α β : Type} {g : Option α} {f : Nat → α → Option β} {a : α} {r : β} (h : g = some a) (k : Ev (fun n => f n a) r) : Ev (fun n => g.bind (f n)) r :=
  Ev.bind (g := fun _ => g) (Ev.const h) k
theorem Ev.tt {α : Type} {c : Prop} {_ : Decidable c} {g f : Nat → Option α} {r : α} (h : c) (k : Ev g r) : Ev (fun n => if c then g n else f n) r := by
  simpa only [if_pos h] using k
theorem Ev.ff {α : Type} {c : Prop} {_ : Decidable c} {g f : Nat → Option α} {r : α} (h : ¬ c) (k : Ev f r) : Ev (fun n => if c then g n else f n) r := by
  simpa only [if_neg h] using k
theorem rd_mid (p t : List Int) (x : Int) : rd (p ++ x :: t) (p.length : Int) = x := by
  simp [rd]
theorem lt_mid {α : Type} (p t : List α) (x : α) : (p.length : Int) < ((p ++ x :: t).length : Int) := by
  simp
  omega
theorem nx_mid {α : Type} (p t : List α) (x : α) (h : (p ++ x :: t).length ≤ 140737488351232) : wrap64 ((p.length : Int) + 1) = ((p ++ [x]).length : Int) := by
  simp at h ⊢
  exact w64 (by omega) (by omega)
theorem ap_mid {α : Type} (p t : List α) (x : α) : p ++ x :: t = (p ++ [x]) ++ t := by simp
theorem w64_nat (a b : Nat) (h : a + b ≤ 1000000000) : wrap64 ((a : Int) + (b : Int)) = ((a + b : Nat) : Int) := by
  rw [w64 (n := (a : Int) + (b : Int)) (by omega) (by omega)]
  omega
theorem w64_suc {α : Type} (q : List α) (x : α) (h : q.length ≤ 1000000000) : wrap64 ((q.length : Int) + 1) = ((q ++ [x]).length : Int) := by
  rw [w64 (n := (q.length : Int) + 1) (by omega) (by omega)]
  simp
theorem ar1 {a b c d : Nat} (h1 : a + 1 ≤ c) (h2 : b + 1 ≤ d) : ((a + b : Nat) : Int) < ((c + d - 1 : Nat) : Int) := by omega
theorem ar2 {a b c d : Nat} (h1 : a + 1 ≤ c) (h2 : b + 1 ≤ d) : a + b < c + d - 1 := by omega
theorem ar3 (a b : Nat) : ¬ (a ≤ a + b ∧ a + b - a < b) := by omega
theorem ar4 {v M : Int} (h : -M ≤ v ∧ v ≤ M) (hm : M ≤ 4000000000000000000) : wrap64 v = v := w64 (by omega) (by omega)
theorem ar5 {c v P M H : Int} (hc : -P ≤ c ∧ c ≤ P) (hv : -M ≤ v ∧ v ≤ M) (hp : P + M ≤ H) (hH : H ≤ 4000000000000000000) : wrap64 (c + v) = c + v := w64 (by omega) (by omega)
theorem ar6 {a b : Nat} {M : Int} (h : a + 1 ≤ b) (hM : 0 ≤ M) : (a : Int) * M + M ≤ (b : Int) * M := by
  have h1 : ((a : Int) + 1) * M ≤ (b : Int) * M := Int.mul_le_mul_of_nonneg_right (by omega) hM
  rw [Int.add_mul, Int.one_mul] at h1
  exact h1
theorem ar7 {a b c d : Nat} (h1 : a + 1 ≤ c) (h2 : b + 1 ≤ d) (h : c + d ≤ 100000000) : a + b ≤ 1000000000 := by omega
theorem ar8 {a c d : Nat} (h1 : a + 1 ≤ c) (h : c + d ≤ 100000000) : a ≤ 1000000000 := by omega
theorem tm (a b : Nat) : Int.tmod (a : Int) (b : Int) = ((a % b : Nat) : Int) := (Int.ofNat_tmod a b).symm
theorem td (a b : Nat) : Int.tdiv (a : Int) (b : Int) = ((a / b : Nat) : Int) := (Int.ofNat_tdiv a b).symm
theorem w64n {a : Nat} (h : a ≤ 1000000000) : wrap64 (a : Int) = (a : Int) := w64 (by omega) (by omega)

def backOf (n : Int) : Int × Bool := if n = 3 then (-1, true) else if n = 4 then (0, true) else if n = 6 then (1, true) else (0, false)
def tnF (c : Int) : List Int → Int → Int → Int × Int
  | [], y, z => (y, z)
  | x :: t, y, z => tnF c t (wrap64 ((wrap64 (x + (wrap64 (c * y)))) - z)) y
def sig (l : List Int) : Bool := decide (l.length ≤ 64) && l.all fun x => decide (-100000 ≤ x) && decide (x ≤ 100000)
def toneStates (l : List Int) (n : Int) : Int × Int × Bool := if (backOf n).2 = true then (if sig l = true then ((tnF (backOf n).1 l 0 0).1, (tnF (backOf n).1 l 0 0).2, true) else (0, 0, false)) else (0, 0, false)
theorem sig_len {l : List Int} (h : sig l = true) : l.length ≤ 64 := by
  simp [sig] at h
  exact h.1
theorem sig_mem {l : List Int} (h : sig l = true) : ∀ x ∈ l, -100000 ≤ x ∧ x ≤ 100000 := by
  simp [sig] at h
  exact h.2
def isBits (l : List Int) : Bool := decide (l.length ≤ 200) && l.all fun x => decide (x = 1 ∨ x = -1)
theorem isBits_len {l : List Int} (h : isBits l = true) : l.length ≤ 200 := by
  simp [isBits] at h
  exact h.1
theorem isBits_mem {l : List Int} (h : isBits l = true) : ∀ x ∈ l, x = 1 ∨ x = -1 := by
  simp [isBits] at h
  exact h.2
def toldM (l : List Int) : List Int × Bool := if sig l = true then (l, true) else ([], false)
theorem toldM_len (l : List Int) : (toldM l).1.length ≤ 64 := by
  unfold toldM
  split
  · exact sig_len ‹_›
  · simp
def bitM (x v : Int) : Int := if x ≥ v then 1 else -1
theorem bitM_cases (x v : Int) : bitM x v = 1 ∨ bitM x v = -1 := by
  unfold bitM
  split <;> simp
def tkS (st last : Int) (fixed : Bool) (bit : Int) : Int :=
  if fixed = true then st else if last = 0 then st else if bit = last then (if 2 * st ≤ 4096 then 2 * st else 4096) else (if 1 ≤ st / 2 then st / 2 else 1)
theorem tkS_bd {st last : Int} {fixed : Bool} {bit : Int} (h0 : 1 ≤ st) (h1 : st ≤ 4096) : 1 ≤ tkS st last fixed bit ∧ tkS st last fixed bit ≤ 4096 := by
  unfold tkS
  repeat' split
  all_goals omega
theorem mul_bit {st bit : Int} (hb : bit = 1 ∨ bit = -1) : st * bit = st ∨ st * bit = -st := by
  rcases hb with rfl | rfl
  · left; omega
  · right; omega
/-- bit, value and step behind each sample -/
def codeM (fixed : Bool) : List Int → Int → Int → Int → List (Int × Int × Int)
  | [], _, _, _ => []
  | x :: t, v, st, last =>
    let b := bitM x v
    let s := tkS st last fixed b
    (b, v + s * b, s) :: codeM fixed t (v + s * b) s b
theorem codeM_length (fixed : Bool) : ∀ (l : List Int) (v st last : Int), (codeM fixed l v st last).length = l.length
  | [], _, _, _ => rfl
  | x :: t, v, st, last => by simp [codeM, codeM_length fixed t]
def fixM (st : Int) : List Int → Int → List Int
  | [], _ => []
  | x :: t, v => bitM x v :: fixM st t (v + bitM x v * st)
theorem fixM_length (st : Int) : ∀ (l : List Int) (v : Int), (fixM st l v).length = l.length
  | [], _ => rfl
  | x :: t, v => by simp [fixM, fixM_length st t]
def fixedBits (l : List Int) (st : Int) : List Int × Bool := if sig l = true ∧ 1 ≤ st ∧ st ≤ 4096 then (fixM st l 0, true) else ([], false)
def decM (fixed : Bool) : List Int → Int → Int → Int → List (Int × Int)
  | [], _, _, _ => []
  | b :: t, v, st, last => (v + tkS st last fixed b * b, tkS st last fixed b) :: decM fixed t (v + tkS st last fixed b * b) (tkS st last fixed b) b
theorem decM_length (fixed : Bool) : ∀ (l : List Int) (v st last : Int), (decM fixed l v st last).length = l.length
  | [], _, _, _ => rfl
  | x :: t, v, st, last => by simp [decM, decM_length fixed t]
def gapM : List Int → List Int → List Int
  | x :: t, y :: u => (x - y) :: gapM t u
  | _, _ => []
theorem gapM_length : ∀ (l m : List Int), l.length = m.length → (gapM l m).length = l.length
  | [], m, _ => by cases m <;> simp [gapM]
  | x :: t, [], h => by simp at h
  | x :: t, y :: u, h => by
    simp at h
    simp [gapM, gapM_length t u h]
theorem codeM_val (fixed : Bool) : ∀ (l : List Int) (v st last : Int) (n : Int), 1 ≤ st → st ≤ 4096 → -4096 * n ≤ v → v ≤ 4096 * n → ∀ y ∈ (codeM fixed l v st last).map (·.2.1), -4096 * (n + l.length) ≤ y ∧ y ≤ 4096 * (n + l.length)
  | [], _, _, _, _, _, _, _, _, y, hy => by simp [codeM] at hy
  | x :: t, v, st, last, n, h0, h1, hv0, hv1, y, hy => by
    have hb := bitM_cases x v
    have hk := tkS_bd (last := last) (fixed := fixed) (bit := bitM x v) h0 h1
    have hm := mul_bit (st := tkS st last fixed (bitM x v)) hb
    simp only [codeM, List.map_cons, List.mem_cons] at hy
    rcases hy with rfl | hy
    · simp; omega
    · have := codeM_val fixed t _ _ _ (n + 1) hk.1 hk.2 (by omega) (by omega) y hy
      simp; omega
def stepOk (st : Int) : Bool := decide (1 ≤ st) && decide (st ≤ 4096)
theorem stepOk_iff {st : Int} : stepOk st = true ↔ 1 ≤ st ∧ st ≤ 4096 := by simp [stepOk]
def stepBits (l : List Int) (st : Int) : List Int × Bool := if sig l = true then (if stepOk st = true then ((codeM false l 0 st 0).map (·.1), true) else ([], false)) else ([], false)
def stepValues (l : List Int) (st : Int) : List Int × Bool := if isBits l = true then (if stepOk st = true then toldM ((decM false l 0 st 0).map (·.1)) else ([], false)) else ([], false)
def stepsOfBits (l : List Int) (st : Int) : List Int × Bool := if isBits l = true then (if stepOk st = true then toldM ((decM false l 0 st 0).map (·.2)) else ([], false)) else ([], false)
def fixedValues (l : List Int) (st : Int) : List Int × Bool := if isBits l = true then (if stepOk st = true then toldM ((decM true l 0 st 0).map (·.1)) else ([], false)) else ([], false)
def stepGaps (l : List Int) (st : Int) : List Int × Bool := if sig l = true then (if stepOk st = true then toldM (gapM l ((codeM false l 0 st 0).map (·.2.1))) else ([], false)) else ([], false)
def wts (l : List Int) : Bool := decide (1 ≤ l.length) && decide (l.length ≤ 9) && l.all fun x => decide (-1000 ≤ x) && decide (x ≤ 1000)
theorem wts_len {l : List Int} (h : wts l = true) : 1 ≤ l.length ∧ l.length ≤ 9 := by
  simp [wts] at h
  exact ⟨h.1.1, h.1.2⟩
theorem wts_mem {l : List Int} (h : wts l = true) : ∀ x ∈ l, -1000 ≤ x ∧ x ≤ 1000 := by
  simp [wts] at h
  exact h.2
def ratio (p q : Int) : Bool := (decide (1 ≤ p) && decide (p ≤ 8)) && (decide (1 ≤ q) && decide (q ≤ 8))
theorem ratio_iff {p q : Int} : ratio p q = true ↔ (1 ≤ p ∧ p ≤ 8) ∧ (1 ≤ q ∧ q ≤ 8) := by simp [ratio]
def rsOk (h l : List Int) (p q : Int) : Bool := wts h && ((sig l && ratio p q) && decide ((l.length : Int) * p ≤ 64))
def peakM : List Int → Nat → Nat
  | [], m => m
  | x :: t, m => peakM t (max m x.natAbs)

def cv : List Int → List Int → Nat → Int
  | [], _, _ => 0
  | w :: _, s, 0 => w * s.getD 0 0
  | w :: h, s, n + 1 => w * s.getD (n + 1) 0 + cv h s n
def Lf (f : Nat → Int) (N : Nat) : List Int := (List.range N).map f
theorem Lf_length (f : Nat → Int) (N : Nat) : (Lf f N).length = N := by simp [Lf]
theorem rd_Lf (f : Nat → Int) (N i : Nat) (h : i < N) : rd (Lf f N) (i : Int) = f i := by
  simp [rd, Lf, h]
theorem set_Lf (f : Nat → Int) (N i : Nat) (v : Int) : (Lf f N).set i v = Lf (fun n => if n = i then v else f n) N := by
  apply List.ext_getElem
  · simp [Lf]
  · intro n h1 h2
    simp [Lf, List.getElem_set]
    by_cases c : i = n
    · simp [c]
    · rw [if_neg c, if_neg (fun h => c h.symm)]
theorem Lf_congr {f g : Nat → Int} {N : Nat} (h : ∀ n, n < N → f n = g n) : Lf f N = Lf g N := by
  apply List.ext_getElem
  · simp [Lf]
  · intro n h1 h2
    simp [Lf] at h1 ⊢
    exact h n h1
theorem cv_snoc (s : List Int) (w : Int) : ∀ (p : List Int) (n : Nat), cv (p ++ [w]) s n = cv p s n + (if p.length ≤ n then w * s.getD (n - p.length) 0 else 0)
  | [], 0 => by simp [cv]
  | [], n + 1 => by simp [cv]
  | a :: p, 0 => by simp [cv]
  | a :: p, n + 1 => by
    simp only [List.cons_append, cv, cv_snoc s w p n, List.length_cons, Nat.add_le_add_iff_right, Nat.add_sub_add_right]
    omega
theorem getD_bd {s : List Int} {a M : Int} (hM : 0 ≤ M) (h : ∀ x ∈ s, -M ≤ a * x ∧ a * x ≤ M) (n : Nat) : -M ≤ a * s.getD n 0 ∧ a * s.getD n 0 ≤ M := by
  rw [List.getD_eq_getElem?_getD]
  by_cases c : n < s.length
  · rw [List.getElem?_eq_getElem c]
    exact h _ (List.getElem_mem c)
  · rw [List.getElem?_eq_none (by omega)]
    simp
    omega
theorem cv_bd {s : List Int} {M : Int} (hM : 0 ≤ M) : ∀ (h : List Int) (n : Nat), (∀ a ∈ h, ∀ x ∈ s, -M ≤ a * x ∧ a * x ≤ M) → -(h.length * M) ≤ cv h s n ∧ cv h s n ≤ h.length * M
  | [], n, hb => by simp [cv]
  | a :: h, 0, hb => by
    have h1 := getD_bd hM (hb a (by simp)) 0
    have h2 : 0 ≤ (h.length : Int) * M := Int.mul_nonneg (by omega) hM
    simp only [cv, List.length_cons, Int.natCast_add, Int.add_mul]
    omega
  | a :: h, n + 1, hb => by
    have h1 := getD_bd hM (hb a (by simp)) (n + 1)
    have h2 := cv_bd hM h n (fun b hbm => hb b (by simp [hbm]))
    simp only [cv, List.length_cons, Int.natCast_add, Int.add_mul]
    omega
def conv (h s : List Int) : List Int := if s = [] then [] else Lf (cv h s) (h.length + s.length - 1)
theorem conv_length (h s : List Int) (hs : s ≠ []) : (conv h s).length = h.length + s.length - 1 := by
  rw [conv, if_neg hs, Lf_length]
/-- what stands in the list when the weights p are done, and of the weight w the samples q -/
def cvi (p q s : List Int) (w : Int) (n : Nat) : Int := cv p s n + (if p.length ≤ n ∧ n - p.length < q.length then w * s.getD (n - p.length) 0 else 0)
theorem cvi_nil (p s : List Int) (w : Int) : cvi p [] s w = cv p s := by
  funext n
  simp [cvi]
theorem cvi_all (p s : List Int) (w : Int) (n : Nat) : cvi p s s w n = cv (p ++ [w]) s n := by
  rw [cv_snoc, cvi]
  by_cases c : p.length ≤ n
  · by_cases d : n - p.length < s.length
    · rw [if_pos ⟨c, d⟩, if_pos c]
    · rw [if_neg (fun h => d h.2), if_pos c, List.getD_eq_getElem?_getD, List.getElem?_eq_none (by omega)]
      simp
  · rw [if_neg (fun h => c h.1), if_neg c]
theorem getD_mid (q t : List Int) (x : Int) : (q ++ x :: t).getD q.length 0 = x := by simp
theorem cvi_step (p q t : List Int) (w x : Int) (n : Nat) : (if n = p.length + q.length then cvi p q (q ++ x :: t) w n + w * x else cvi p q (q ++ x :: t) w n) = cvi p (q ++ [x]) (q ++ x :: t) w n := by
  unfold cvi
  by_cases c : n = p.length + q.length
  · subst c
    have e : p.length + q.length - p.length = q.length := by omega
    rw [if_pos rfl, e, getD_mid, if_neg (by omega), if_pos ⟨by omega, by simp⟩]
    omega
  · rw [if_neg c]
    by_cases d : p.length ≤ n ∧ n - p.length < q.length
    · rw [if_pos d, if_pos ⟨d.1, by simp; omega⟩]
    · rw [if_neg d, if_neg (fun h => d ⟨h.1, by have := h.2; simp at this; omega⟩)]
theorem Lf_succ (f : Nat → Int) (n : Nat) : Lf f (n + 1) = Lf f n ++ [f n] := by simp [Lf, List.range_succ]
def dropN (len rate first : Nat) : Nat := (len - first + rate - 1) / rate
theorem dropN_lt {len rate first j : Nat} (hr : 1 ≤ rate) : j < dropN len rate first ↔ first + j * rate < len := by
  unfold dropN
  rw [Nat.lt_iff_add_one_le, Nat.le_div_iff_mul_le (by omega), Nat.add_mul]
  omega
def dropM (l : List Int) (rate first : Nat) : List Int := Lf (fun j => l.getD (first + j * rate) 0) (dropN l.length rate first)
theorem dropM_length (l : List Int) (rate first : Nat) : (dropM l rate first).length = dropN l.length rate first := Lf_length _ _
theorem dropN_le {len rate first : Nat} (hr : 1 ≤ rate) : dropN len rate first ≤ len := by
  apply Nat.le_of_not_lt
  intro h
  have := (dropN_lt hr).1 h
  have h2 : len * 1 ≤ len * rate := Nat.mul_le_mul_left len hr
  omega
def stuffM (p : Nat) : List Int → List Int
  | [] => []
  | x :: t => (x :: List.replicate (p - 1) 0) ++ stuffM p t
theorem stuffM_length (p : Nat) (hp : 1 ≤ p) : ∀ l : List Int, (stuffM p l).length = l.length * p
  | [] => by simp [stuffM]
  | x :: t => by
    simp only [stuffM, List.length_append, List.length_cons, List.length_replicate, stuffM_length p hp t, Nat.add_mul]
    omega
theorem stuffM_snoc (p : Nat) (x : Int) : ∀ l : List Int, stuffM p (l ++ [x]) = stuffM p l ++ (x :: List.replicate (p - 1) 0)
  | [] => by simp [stuffM]
  | y :: t => by simp [stuffM, stuffM_snoc p x t]
theorem rd_getD (l : List Int) (i : Nat) : rd l (i : Int) = l.getD i 0 := by simp [rd]
theorem stuffM_sig (p : Nat) : ∀ l : List Int, (∀ x ∈ l, -100000 ≤ x ∧ x ≤ 100000) → ∀ x ∈ stuffM p l, -100000 ≤ x ∧ x ≤ 100000
  | [], _, x, h => by simp [stuffM] at h
  | y :: t, hl, x, h => by
    simp only [stuffM, List.mem_append, List.mem_cons, List.mem_replicate] at h
    rcases h with (rfl | ⟨_, rfl⟩) | h
    · exact hl _ (by simp)
    · omega
    · exact stuffM_sig p t (fun z hz => hl z (by simp [hz])) x h
theorem sig_iff {l : List Int} : sig l = true ↔ l.length ≤ 64 ∧ ∀ x ∈ l, -100000 ≤ x ∧ x ≤ 100000 := by simp [sig]
theorem ediv_bd {x b : Int} (hb : 0 < b) (hx : -4611686018427387904 ≤ x ∧ x ≤ 4611686018427387904) : -4611686018427387905 ≤ x / b ∧ x / b ≤ 4611686018427387905 := by
  have h0 := Int.emod_nonneg x (show b ≠ 0 by omega)
  have h1 := Int.emod_lt_of_pos x hb
  have h2 := Int.emod_add_mul_ediv x b
  constructor
  · apply Int.not_lt.1
    intro h
    have : b * (x / b) ≤ 1 * (x / b) := Int.mul_le_mul_of_nonpos_right (by omega) (by omega)
    have h3 : b * (x / b) ≤ b * (-4611686018427387906) := Int.mul_le_mul_of_nonneg_left (by omega) (by omega)
    omega
  · apply Int.not_lt.1
    intro h
    have h3 : 1 * (x / b) ≤ b * (x / b) := Int.mul_le_mul_of_nonneg_right (by omega) (by omega)
    omega
def atM (s : List Int) (i : Int) : Int := if 0 ≤ i then s.getD i.toNat 0 else 0
theorem getD_all {l : List Int} {M : Int} (hM : 0 ≤ M) (h : ∀ x ∈ l, -M ≤ x ∧ x ≤ M) (n : Nat) : -M ≤ l.getD n 0 ∧ l.getD n 0 ≤ M := by
  rw [List.getD_eq_getElem?_getD]
  by_cases c : n < l.length
  · rw [List.getElem?_eq_getElem c]
    exact h _ (List.getElem_mem c)
  · rw [List.getElem?_eq_none (by omega)]
    simp
    omega

theorem spec_l1In_eq (a b c : Int) : spec_l1In.f a b c = some (decide (b ≤ a) && decide (a ≤ c)) := by
  unfold spec_l1In.f
  by_cases h : b ≤ a <;> simp [h]

theorem impl_in_eq (a b c : Int) : impl_in.f a b c = some (decide (b ≤ a) && decide (a ≤ c)) := by
  unfold impl_in.f
  by_cases h : b ≤ a <;> simp [h]

theorem spec_l1All_l0 (lo hi : Int) (l : List Int) (hl : l.length ≤ 140737488351232) : ∀ (t p : List Int), l = p ++ t → Ev (fun k => spec_l1All.l0 k lo hi l (l.length : Int) (p.length : Int)) (t.all fun x => decide (lo ≤ x) && decide (x ≤ hi))
  | [], p, h => by
    apply Ev.step (f := fun _ => some _)
    · intro k
      subst h
      simp [spec_l1All.l0]; rfl
    · exact Ev.now _
  | x :: t, p, h => by
    have e1 : (p.length : Int) < (l.length : Int) := by rw [h]; exact lt_mid p t x
    have e2 : rd l (p.length : Int) = x := by rw [h]; exact rd_mid p t x
    have e3 : wrap64 ((p.length : Int) + 1) = ((p ++ [x]).length : Int) := nx_mid p t x (h ▸ hl)
    by_cases c : (decide (lo ≤ x) && decide (x ≤ hi)) = true
    · refine Ev.to (Ev.step (fun k => ?_) (spec_l1All_l0 lo hi l hl t (p ++ [x]) (by simp [h]))) (by rw [List.all_cons, c, Bool.true_and])
      simp only [spec_l1All.l0, if_pos e1, if_pos (Int.natCast_nonneg _), e2, e3, spec_l1In_eq, Option.bind_some, if_pos c]
    · refine Ev.to (Ev.step (fun k => ?_) (Ev.now false)) (by rw [List.all_cons, Bool.eq_false_iff.mpr c, Bool.false_and])
      simp only [spec_l1All.l0, if_pos e1, if_pos (Int.natCast_nonneg _), e2, e3, spec_l1In_eq, Option.bind_some, if_neg c]
theorem spec_l1All_ev (l : List Int) (lo hi : Int) (hl : l.length ≤ 140737488351232) : Ev (fun k => spec_l1All.f k l lo hi) (l.all fun x => decide (lo ≤ x) && decide (x ≤ hi)) := by
  simpa [spec_l1All.f] using spec_l1All_l0 lo hi l hl l [] rfl

theorem spec_wdSignal_ev (l : List Int) (hl : l.length ≤ 140737488351232) : Ev (fun k => spec_wdSignal.f k l) (sig l) := by
  simp only [spec_wdSignal.f]
  by_cases c : (l.length : Int) ≤ 64
  · refine Ev.tt c (Ev.bind (spec_l1All_ev l (-100000) 100000 hl) (Ev.to (Ev.now _) ?_))
    simp [sig]; omega
  · refine Ev.ff c (Ev.to (Ev.now _) ?_)
    simp [sig]; omega

theorem impl_isSignal_c1_eq (x : Int) : impl_isSignal_c1.f x = some (!(decide (-100000 ≤ x) && decide (x ≤ 100000))) := by
  unfold impl_isSignal_c1.f
  rw [impl_in_eq]
  rfl
theorem indexSignal_l0 (l : List Int) (hl : l.length ≤ 140737488351232) : ∀ (t p : List Int), l = p ++ t → ∃ r, Ev (fun k => slices_IndexFunc_int_int_impl_isSignal_c1.l0 k l (l.length : Int) (p.length : Int)) r ∧ (decide (r ≥ 0) = !(t.all fun x => decide (-100000 ≤ x) && decide (x ≤ 100000)))
  | [], p, h => by
    refine ⟨-1, Ev.step (f := fun _ => some (-1)) ?_ (Ev.now _), by simp⟩
    intro k
    subst h
    simp [slices_IndexFunc_int_int_impl_isSignal_c1.l0]
  | x :: t, p, h => by
    have e1 : (p.length : Int) < (l.length : Int) := by rw [h]; exact lt_mid p t x
    have e2 : rd l (p.length : Int) = x := by rw [h]; exact rd_mid p t x
    have e3 : wrap64 ((p.length : Int) + 1) = ((p ++ [x]).length : Int) := nx_mid p t x (h ▸ hl)
    by_cases c : (decide (-100000 ≤ x) && decide (x ≤ 100000)) = true
    · obtain ⟨r, h1, h2⟩ := indexSignal_l0 l hl t (p ++ [x]) (by simp [h])
      refine ⟨r, Ev.step (fun k => ?_) h1, by rw [h2, List.all_cons, c, Bool.true_and]⟩
      simp only [slices_IndexFunc_int_int_impl_isSignal_c1.l0, if_pos e1, if_pos (Int.natCast_nonneg _), e2, e3, impl_isSignal_c1_eq, c, Option.bind_some, Bool.not_true]
      rfl
    · have c := Bool.eq_false_iff.mpr c
      refine ⟨(p.length : Int), Ev.step (fun k => ?_) (Ev.now _), by rw [List.all_cons, c]; simp⟩
      simp only [slices_IndexFunc_int_int_impl_isSignal_c1.l0, if_pos e1, if_pos (Int.natCast_nonneg _), e2, e3, impl_isSignal_c1_eq, c, Option.bind_some, Bool.not_false]
      rfl
theorem impl_isSignal_ev (l : List Int) (hl : l.length ≤ 140737488351232) : Ev (fun k => impl_isSignal.f k l) (sig l) := by
  simp only [impl_isSignal.f]
  by_cases c : (l.length : Int) ≤ 64
  · obtain ⟨r, h1, h2⟩ := indexSignal_l0 l hl l [] rfl
    refine Ev.tt c (Ev.bind (a := decide (r ≥ 0)) ?_ (Ev.to (Ev.now _) ?_))
    · simp only [slices_ContainsFunc_int_int_impl_isSignal_c1.f, slices_IndexFunc_int_int_impl_isSignal_c1.f]
      exact Ev.bind h1 (Ev.now _)
    · rw [h2]; simp [sig]; omega
  · refine Ev.ff c (Ev.to (Ev.now _) ?_)
    simp [sig]; omega

theorem spec_wdIf_ev (l : List Int) (hl : l.length ≤ 140737488351232) : Ev (fun k => spec_wdIf.f k l) (toldM l) := by
  simp only [spec_wdIf.f, toldM]
  refine Ev.bind (spec_wdSignal_ev l hl) ?_
  by_cases c : sig l = true
  · exact Ev.tt c (Ev.to (Ev.now _) (by rw [if_pos c]))
  · exact Ev.ff c (Ev.to (Ev.now _) (by rw [if_neg c]))

theorem impl_told_ev (l : List Int) (hl : l.length ≤ 140737488351232) : Ev (fun k => impl_told.f k l) (toldM l) := by
  simp only [impl_told.f, toldM]
  refine Ev.bind (impl_isSignal_ev l hl) ?_
  by_cases c : sig l = true
  · exact Ev.tt c (Ev.to (Ev.now _) (by rw [if_pos c]))
  · exact Ev.ff c (Ev.to (Ev.now _) (by rw [if_neg c]))

theorem spec_weGood_ev (l : List Int) (hl : l.length ≤ 140737488351232) : Ev (fun k => spec_weGood.f k l) (wts l) := by
  simp only [spec_weGood.f]
  refine Ev.dbind (spec_l1In_eq _ 1 9) ?_
  by_cases c : (decide (1 ≤ (l.length : Int)) && decide ((l.length : Int) ≤ 9)) = true
  · refine Ev.tt c (Ev.bind (spec_l1All_ev l (-1000) 1000 hl) (Ev.to (Ev.now _) ?_))
    simp at c
    simp [wts]; omega
  · refine Ev.ff c (Ev.to (Ev.now _) ?_)
    simp at c
    simp [wts]; omega

theorem impl_isWeights_c1_eq (x : Int) : impl_isWeights_c1.f x = some (!(decide (-1000 ≤ x) && decide (x ≤ 1000))) := by
  unfold impl_isWeights_c1.f
  rw [impl_in_eq]
  rfl
theorem indexWeights_l0 (l : List Int) (hl : l.length ≤ 140737488351232) : ∀ (t p : List Int), l = p ++ t → ∃ r, Ev (fun k => slices_IndexFunc_int_int_impl_isWeights_c1.l0 k l (l.length : Int) (p.length : Int)) r ∧ (decide (r ≥ 0) = !(t.all fun x => decide (-1000 ≤ x) && decide (x ≤ 1000)))
  | [], p, h => by
    refine ⟨-1, Ev.step (f := fun _ => some (-1)) ?_ (Ev.now _), by simp⟩
    intro k
    subst h
    simp [slices_IndexFunc_int_int_impl_isWeights_c1.l0]
  | x :: t, p, h => by
    have e1 : (p.length : Int) < (l.length : Int) := by rw [h]; exact lt_mid p t x
    have e2 : rd l (p.length : Int) = x := by rw [h]; exact rd_mid p t x
    have e3 : wrap64 ((p.length : Int) + 1) = ((p ++ [x]).length : Int) := nx_mid p t x (h ▸ hl)
    by_cases c : (decide (-1000 ≤ x) && decide (x ≤ 1000)) = true
    · obtain ⟨r, h1, h2⟩ := indexWeights_l0 l hl t (p ++ [x]) (by simp [h])
      refine ⟨r, Ev.step (fun k => ?_) h1, by rw [h2, List.all_cons, c, Bool.true_and]⟩
      simp only [slices_IndexFunc_int_int_impl_isWeights_c1.l0, if_pos e1, if_pos (Int.natCast_nonneg _), e2, e3, impl_isWeights_c1_eq, c, Option.bind_some, Bool.not_true]
      rfl
    · have c := Bool.eq_false_iff.mpr c
      refine ⟨(p.length : Int), Ev.step (fun k => ?_) (Ev.now _), by rw [List.all_cons, c]; simp⟩
      simp only [slices_IndexFunc_int_int_impl_isWeights_c1.l0, if_pos e1, if_pos (Int.natCast_nonneg _), e2, e3, impl_isWeights_c1_eq, c, Option.bind_some, Bool.not_false]
      rfl
theorem impl_isWeights_ev (l : List Int) (hl : l.length ≤ 140737488351232) : Ev (fun k => impl_isWeights.f k l) (wts l) := by
  simp only [impl_isWeights.f]
  refine Ev.dbind (impl_in_eq _ 1 9) ?_
  by_cases c : (decide (1 ≤ (l.length : Int)) && decide ((l.length : Int) ≤ 9)) = true
  · obtain ⟨r, h1, h2⟩ := indexWeights_l0 l hl l [] rfl
    refine Ev.tt c (Ev.bind (a := decide (r ≥ 0)) ?_ (Ev.to (Ev.now _) ?_))
    · simp only [slices_ContainsFunc_int_int_impl_isWeights_c1.f, slices_IndexFunc_int_int_impl_isWeights_c1.f]
      exact Ev.bind h1 (Ev.now _)
    · rw [h2]
      simp at c
      simp [wts]; omega
  · refine Ev.ff c (Ev.to (Ev.now _) ?_)
    simp at c
    simp [wts]; omega

theorem spec_weAnswer_l1 (h s : List Int) (M : Int) (hM : 0 ≤ M) (hM1 : (h.length : Int) * M ≤ 4000000000000000000) (hMM : M ≤ 4000000000000000000) (hb : ∀ a ∈ h, ∀ x ∈ s, -M ≤ a * x ∧ a * x ≤ M) (hN : h.length + s.length ≤ 100000000) (hs : s ≠ [])
    (p : List Int) (w : Int) (u : List Int) (hp : h = p ++ w :: u) (r : List Int) : ∀ (t q : List Int), s = q ++ t →
    Ev (fun k => spec_weAnswer.l0 k s (Lf (cv (p ++ [w]) s) (h.length + s.length - 1)) h (h.length : Int) (wrap64 ((p.length : Int) + 1))) r →
    Ev (fun k => spec_weAnswer.l1 k s (Lf (cvi p q s w) (h.length + s.length - 1)) (p.length : Int) w h (h.length : Int) (p.length : Int) s (s.length : Int) (q.length : Int)) r
  | [], q, hq, hr => by
    have e : q = s := by rw [hq]; simp
    subst e
    refine Ev.step (fun k => ?_) hr
    have e : Lf (cvi p q q w) (h.length + q.length - 1) = Lf (cv (p ++ [w]) q) (h.length + q.length - 1) := Lf_congr (fun n _ => cvi_all p q w n)
    rw [e]
    simp [spec_weAnswer.l1]
  | x :: t, q, hq, hr => by
    have hps : p.length + 1 ≤ h.length := by rw [hp]; simp
    have hqs : q.length + 1 ≤ s.length := by rw [hq]; simp
    have e1 : (q.length : Int) < (s.length : Int) := Int.ofNat_lt.2 hqs
    have e2 : rd s (q.length : Int) = x := by rw [hq]; exact rd_mid q t x
    have e3 : wrap64 ((q.length : Int) + 1) = ((q ++ [x]).length : Int) := w64_suc q x (ar8 (d := h.length) hqs (by rw [Nat.add_comm]; exact hN))
    have e4 : wrap64 ((p.length : Int) + (q.length : Int)) = ((p.length + q.length : Nat) : Int) := w64_nat _ _ (ar7 hps hqs hN)
    have e5 : ((p.length + q.length : Nat) : Int) < ((Lf (cvi p q s w) (h.length + s.length - 1)).length : Int) := by rw [Lf_length]; exact ar1 hps hqs
    have e6 : rd (Lf (cvi p q s w) (h.length + s.length - 1)) ((p.length + q.length : Nat) : Int) = cvi p q s w (p.length + q.length) := rd_Lf _ _ _ (ar2 hps hqs)
    have hwx := hb w (by rw [hp]; simp) x (by rw [hq]; simp)
    have e7 : wrap64 (w * x) = w * x := ar4 hwx hMM
    have e8 : cvi p q s w (p.length + q.length) = cv p s (p.length + q.length) := by
      unfold cvi
      rw [if_neg (ar3 _ _), Int.add_zero]
    have hcv := cv_bd hM p (p.length + q.length) (fun a ha => hb a (by rw [hp]; simp [ha]))
    have hpm := ar6 hps hM
    have e9 : wrap64 (cvi p q s w (p.length + q.length) + w * x) = cvi p q s w (p.length + q.length) + w * x := by
      rw [e8]
      exact ar5 hcv hwx hpm hM1
    have e10 : (Lf (cvi p q s w) (h.length + s.length - 1)).set (((p.length + q.length : Nat) : Int).toNat) (cvi p q s w (p.length + q.length) + w * x) = Lf (cvi p (q ++ [x]) s w) (h.length + s.length - 1) := by
      rw [Int.toNat_natCast, set_Lf]
      apply Lf_congr
      intro n _
      have := cvi_step p q t w x n
      rw [← hq] at this
      rw [← this]
      by_cases c : n = p.length + q.length
      · rw [if_pos c, if_pos c, c]
      · rw [if_neg c, if_neg c]
    refine Ev.step (fun k => ?_) (spec_weAnswer_l1 h s M hM hM1 hMM hb hN hs p w u hp r t (q ++ [x]) (by simp [hq]) hr)
    simp only [spec_weAnswer.l1, if_pos e1, if_pos (Int.natCast_nonneg _), e2, e3, e4, if_pos e5, e6, e7, e9, e10]
theorem spec_weAnswer_l0 (h s : List Int) (M : Int) (hM : 0 ≤ M) (hM1 : (h.length : Int) * M ≤ 4000000000000000000) (hMM : M ≤ 4000000000000000000) (hb : ∀ a ∈ h, ∀ x ∈ s, -M ≤ a * x ∧ a * x ≤ M) (hN : h.length + s.length ≤ 100000000) (hs : s ≠ []) :
    ∀ (u p : List Int), h = p ++ u → Ev (fun k => spec_weAnswer.l0 k s (Lf (cv p s) (h.length + s.length - 1)) h (h.length : Int) (p.length : Int)) (Lf (cv h s) (h.length + s.length - 1))
  | [], p, hp => by
    have e : p = h := by rw [hp]; simp
    subst e
    refine Ev.step (f := fun _ => some _) (fun k => ?_) (Ev.now _)
    simp [spec_weAnswer.l0]
  | w :: u, p, hp => by
    have hps : p.length + 1 ≤ h.length := by rw [hp]; simp
    have e1 : (p.length : Int) < (h.length : Int) := Int.ofNat_lt.2 hps
    have e2 : rd h (p.length : Int) = w := by rw [hp]; exact rd_mid p u w
    have e3 : wrap64 ((p.length : Int) + 1) = ((p ++ [w]).length : Int) := w64_suc p w (ar8 hps hN)
    have ih := spec_weAnswer_l0 h s M hM hM1 hMM hb hN hs u (p ++ [w]) (by simp [hp])
    rw [← e3] at ih
    have hh := spec_weAnswer_l1 h s M hM hM1 hMM hb hN hs p w u hp _ s [] rfl ih
    rw [cvi_nil] at hh
    refine Ev.step (fun k => ?_) hh
    simp only [spec_weAnswer.l0, if_pos e1, if_pos (Int.natCast_nonneg _), e2]
    rfl
theorem spec_weAnswer_ev (h s : List Int) (M : Int) (hM : 0 ≤ M) (hM1 : (h.length : Int) * M ≤ 4000000000000000000) (hMM : M ≤ 4000000000000000000) (hb : ∀ a ∈ h, ∀ x ∈ s, -M ≤ a * x ∧ a * x ≤ M) (hN : h.length + s.length ≤ 100000000) : Ev (fun k => spec_weAnswer.f k h s) (conv h s) := by
  simp only [spec_weAnswer.f, conv]
  by_cases c : s = []
  · subst c
    exact Ev.tt (by simp) (Ev.now _)
  · rw [if_neg c]
    have hs1 : 1 ≤ s.length := by
      cases s with
      | nil => exact absurd rfl c
      | cons a t => simp
    have e : wrap64 ((wrap64 ((h.length : Int) + (s.length : Int))) - 1) = ((h.length + s.length - 1 : Nat) : Int) := by
      rw [w64 (n := (h.length : Int) + (s.length : Int)) (by omega) (by omega), w64 (n := (h.length : Int) + (s.length : Int) - 1) (by omega) (by omega)]
      omega
    refine Ev.ff (by omega) ?_
    rw [e]
    refine Ev.tt (by omega) (Ev.tt (by omega) ?_)
    rw [Int.toNat_natCast]
    have e2 : List.replicate (h.length + s.length - 1) (0 : Int) = Lf (cv [] s) (h.length + s.length - 1) := by
      apply List.ext_getElem
      · simp [Lf]
      · intro n h1 h2
        simp [Lf, cv]
    rw [e2]
    exact spec_weAnswer_l0 h s M hM hM1 hMM hb hN c h [] rfl

theorem impl_answer_l1 (h s : List Int) (M : Int) (hM : 0 ≤ M) (hM1 : (h.length : Int) * M ≤ 4000000000000000000) (hMM : M ≤ 4000000000000000000) (hb : ∀ a ∈ h, ∀ x ∈ s, -M ≤ a * x ∧ a * x ≤ M) (hN : h.length + s.length ≤ 100000000) (hs : s ≠ [])
    (p : List Int) (w : Int) (u : List Int) (hp : h = p ++ w :: u) (r : List Int) : ∀ (t q : List Int), s = q ++ t →
    Ev (fun k => impl_answer.l0 k s (Lf (cv (p ++ [w]) s) (h.length + s.length - 1)) h (h.length : Int) (wrap64 ((p.length : Int) + 1))) r →
    Ev (fun k => impl_answer.l1 k s (Lf (cvi p q s w) (h.length + s.length - 1)) (p.length : Int) w h (h.length : Int) (p.length : Int) s (s.length : Int) (q.length : Int)) r
  | [], q, hq, hr => by
    have e : q = s := by rw [hq]; simp
    subst e
    refine Ev.step (fun k => ?_) hr
    have e : Lf (cvi p q q w) (h.length + q.length - 1) = Lf (cv (p ++ [w]) q) (h.length + q.length - 1) := Lf_congr (fun n _ => cvi_all p q w n)
    rw [e]
    simp [impl_answer.l1]
  | x :: t, q, hq, hr => by
    have hps : p.length + 1 ≤ h.length := by rw [hp]; simp
    have hqs : q.length + 1 ≤ s.length := by rw [hq]; simp
    have e1 : (q.length : Int) < (s.length : Int) := Int.ofNat_lt.2 hqs
    have e2 : rd s (q.length : Int) = x := by rw [hq]; exact rd_mid q t x
    have e3 : wrap64 ((q.length : Int) + 1) = ((q ++ [x]).length : Int) := w64_suc q x (ar8 (d := h.length) hqs (by rw [Nat.add_comm]; exact hN))
    have e4 : wrap64 ((q.length : Int) + (p.length : Int)) = ((p.length + q.length : Nat) : Int) := (w64_nat _ _ (ar7 hqs hps (by rw [Nat.add_comm]; exact hN))).trans (by rw [Nat.add_comm])
    have e5 : ((p.length + q.length : Nat) : Int) < ((Lf (cvi p q s w) (h.length + s.length - 1)).length : Int) := by rw [Lf_length]; exact ar1 hps hqs
    have e6 : rd (Lf (cvi p q s w) (h.length + s.length - 1)) ((p.length + q.length : Nat) : Int) = cvi p q s w (p.length + q.length) := rd_Lf _ _ _ (ar2 hps hqs)
    have hwx := hb w (by rw [hp]; simp) x (by rw [hq]; simp)
    have e7 : wrap64 (w * x) = w * x := ar4 hwx hMM
    have e8 : cvi p q s w (p.length + q.length) = cv p s (p.length + q.length) := by
      unfold cvi
      rw [if_neg (ar3 _ _), Int.add_zero]
    have hcv := cv_bd hM p (p.length + q.length) (fun a ha => hb a (by rw [hp]; simp [ha]))
    have hpm := ar6 hps hM
    have e9 : wrap64 (cvi p q s w (p.length + q.length) + w * x) = cvi p q s w (p.length + q.length) + w * x := by
      rw [e8]
      exact ar5 hcv hwx hpm hM1
    have e10 : (Lf (cvi p q s w) (h.length + s.length - 1)).set (((p.length + q.length : Nat) : Int).toNat) (cvi p q s w (p.length + q.length) + w * x) = Lf (cvi p (q ++ [x]) s w) (h.length + s.length - 1) := by
      rw [Int.toNat_natCast, set_Lf]
      apply Lf_congr
      intro n _
      have := cvi_step p q t w x n
      rw [← hq] at this
      rw [← this]
      by_cases c : n = p.length + q.length
      · rw [if_pos c, if_pos c, c]
      · rw [if_neg c, if_neg c]
    refine Ev.step (fun k => ?_) (impl_answer_l1 h s M hM hM1 hMM hb hN hs p w u hp r t (q ++ [x]) (by simp [hq]) hr)
    simp only [impl_answer.l1, if_pos e1, if_pos (Int.natCast_nonneg _), e2, e3, e4, if_pos e5, e6, e7, e9, e10]
theorem impl_answer_l0 (h s : List Int) (M : Int) (hM : 0 ≤ M) (hM1 : (h.length : Int) * M ≤ 4000000000000000000) (hMM : M ≤ 4000000000000000000) (hb : ∀ a ∈ h, ∀ x ∈ s, -M ≤ a * x ∧ a * x ≤ M) (hN : h.length + s.length ≤ 100000000) (hs : s ≠ []) :
    ∀ (u p : List Int), h = p ++ u → Ev (fun k => impl_answer.l0 k s (Lf (cv p s) (h.length + s.length - 1)) h (h.length : Int) (p.length : Int)) (Lf (cv h s) (h.length + s.length - 1))
  | [], p, hp => by
    have e : p = h := by rw [hp]; simp
    subst e
    refine Ev.step (f := fun _ => some _) (fun k => ?_) (Ev.now _)
    simp [impl_answer.l0]
  | w :: u, p, hp => by
    have hps : p.length + 1 ≤ h.length := by rw [hp]; simp
    have e1 : (p.length : Int) < (h.length : Int) := Int.ofNat_lt.2 hps
    have e2 : rd h (p.length : Int) = w := by rw [hp]; exact rd_mid p u w
    have e3 : wrap64 ((p.length : Int) + 1) = ((p ++ [w]).length : Int) := w64_suc p w (ar8 hps hN)
    have ih := impl_answer_l0 h s M hM hM1 hMM hb hN hs u (p ++ [w]) (by simp [hp])
    rw [← e3] at ih
    have hh := impl_answer_l1 h s M hM hM1 hMM hb hN hs p w u hp _ s [] rfl ih
    rw [cvi_nil] at hh
    refine Ev.step (fun k => ?_) hh
    simp only [impl_answer.l0, if_pos e1, if_pos (Int.natCast_nonneg _), e2]
    rfl
theorem impl_answer_ev (h s : List Int) (M : Int) (hM : 0 ≤ M) (hM1 : (h.length : Int) * M ≤ 4000000000000000000) (hMM : M ≤ 4000000000000000000) (hb : ∀ a ∈ h, ∀ x ∈ s, -M ≤ a * x ∧ a * x ≤ M) (hN : h.length + s.length ≤ 100000000) : Ev (fun k => impl_answer.f k h s) (conv h s) := by
  simp only [impl_answer.f, conv]
  by_cases c : s = []
  · subst c
    exact Ev.tt (by simp) (Ev.now _)
  · rw [if_neg c]
    have hs1 : 1 ≤ s.length := by
      cases s with
      | nil => exact absurd rfl c
      | cons a t => simp
    have e : wrap64 ((wrap64 ((h.length : Int) + (s.length : Int))) - 1) = ((h.length + s.length - 1 : Nat) : Int) := by
      rw [w64 (n := (h.length : Int) + (s.length : Int)) (by omega) (by omega), w64 (n := (h.length : Int) + (s.length : Int) - 1) (by omega) (by omega)]
      omega
    refine Ev.ff (by omega) ?_
    rw [e]
    refine Ev.tt (by omega) (Ev.tt (by omega) ?_)
    rw [Int.toNat_natCast]
    have e2 : List.replicate (h.length + s.length - 1) (0 : Int) = Lf (cv [] s) (h.length + s.length - 1) := by
      apply List.ext_getElem
      · simp [Lf]
      · intro n h1 h2
        simp [Lf, cv]
    rw [e2]
    exact impl_answer_l0 h s M hM hM1 hMM hb hN c h [] rfl

theorem spec_l1Abs_eq (x : Int) (h : -1000000000000000000 ≤ x ∧ x ≤ 1000000000000000000) : spec_l1Abs.f x = some (x.natAbs : Int) := by
  unfold spec_l1Abs.f spec_l1Most.f
  rw [w64 (n := -x) (by omega) (by omega)]
  by_cases c : x > -x
  · rw [if_pos c]; simp; omega
  · rw [if_neg c]; simp; omega
theorem spec_wdPeak_l0 (l : List Int) (hl : l.length ≤ 140737488351232) (hs : ∀ x ∈ l, -1000000000000000000 ≤ x ∧ x ≤ 1000000000000000000) : ∀ (t p : List Int) (m : Nat), l = p ++ t → Ev (fun k => spec_wdPeak.l0 k (m : Int) l (l.length : Int) (p.length : Int)) ((peakM t m : Nat) : Int)
  | [], p, m, h => by
    refine Ev.step (f := fun _ => some (m : Int)) (fun k => ?_) (Ev.now _)
    subst h
    simp [spec_wdPeak.l0]
  | x :: t, p, m, h => by
    have e1 : (p.length : Int) < (l.length : Int) := by rw [h]; exact lt_mid p t x
    have e2 : rd l (p.length : Int) = x := by rw [h]; exact rd_mid p t x
    have e3 : wrap64 ((p.length : Int) + 1) = ((p ++ [x]).length : Int) := nx_mid p t x (h ▸ hl)
    have hx := hs x (by rw [h]; simp)
    have e4 : spec_l1Most.f (m : Int) (x.natAbs : Int) = some ((max m x.natAbs : Nat) : Int) := by
      unfold spec_l1Most.f
      by_cases c : (m : Int) > (x.natAbs : Int)
      · rw [if_pos c, Nat.max_eq_left (by omega)]
      · rw [if_neg c, Nat.max_eq_right (by omega)]
    refine Ev.step (fun k => ?_) (spec_wdPeak_l0 l hl hs t (p ++ [x]) (max m x.natAbs) (by simp [h]))
    simp only [spec_wdPeak.l0, if_pos e1, if_pos (Int.natCast_nonneg _), e2, e3, spec_l1Abs_eq x hx, Option.bind_some, e4]
theorem spec_wdPeak_ev (l : List Int) (hl : l.length ≤ 140737488351232) (hs : ∀ x ∈ l, -1000000000000000000 ≤ x ∧ x ≤ 1000000000000000000) : Ev (fun k => spec_wdPeak.f k l) ((peakM l 0 : Nat) : Int) := by
  have h := spec_wdPeak_l0 l hl hs l [] 0 rfl
  simpa [spec_wdPeak.f] using h

theorem impl_size_eq (x : Int) (h : -1000000000000000000 ≤ x ∧ x ≤ 1000000000000000000) : impl_size.f x = some (x.natAbs : Int) := by
  unfold impl_size.f mx
  rw [w64 (n := -x) (by omega) (by omega)]
  by_cases c : x < -x
  · rw [if_pos c]; simp; omega
  · rw [if_neg c]; simp; omega
theorem impl_peak_l0 (l : List Int) (hl : l.length ≤ 140737488351232) (hs : ∀ x ∈ l, -1000000000000000000 ≤ x ∧ x ≤ 1000000000000000000) : ∀ (t p : List Int) (m : Nat), l = p ++ t → Ev (fun k => impl_peak.l0 k (m : Int) l (l.length : Int) (p.length : Int)) ((peakM t m : Nat) : Int)
  | [], p, m, h => by
    refine Ev.step (f := fun _ => some (m : Int)) (fun k => ?_) (Ev.now _)
    subst h
    simp [impl_peak.l0]
  | x :: t, p, m, h => by
    have e1 : (p.length : Int) < (l.length : Int) := by rw [h]; exact lt_mid p t x
    have e2 : rd l (p.length : Int) = x := by rw [h]; exact rd_mid p t x
    have e3 : wrap64 ((p.length : Int) + 1) = ((p ++ [x]).length : Int) := nx_mid p t x (h ▸ hl)
    have hx := hs x (by rw [h]; simp)
    have e4 : mx (m : Int) (x.natAbs : Int) = ((max m x.natAbs : Nat) : Int) := by
      unfold mx
      by_cases c : (m : Int) < (x.natAbs : Int)
      · rw [if_pos c, Nat.max_eq_right (by omega)]
      · rw [if_neg c, Nat.max_eq_left (by omega)]
    refine Ev.step (fun k => ?_) (impl_peak_l0 l hl hs t (p ++ [x]) (max m x.natAbs) (by simp [h]))
    simp only [impl_peak.l0, if_pos e1, if_pos (Int.natCast_nonneg _), e2, e3, impl_size_eq x hx, Option.bind_some, e4]
theorem impl_peak_ev (l : List Int) (hl : l.length ≤ 140737488351232) (hs : ∀ x ∈ l, -1000000000000000000 ≤ x ∧ x ≤ 1000000000000000000) : Ev (fun k => impl_peak.f k l) ((peakM l 0 : Nat) : Int) := by
  have h := impl_peak_l0 l hl hs l [] 0 rfl
  simpa [impl_peak.f] using h

/-- What a cursor gives: a value with P, and at most c steps further. -/
def Dr {α : Type} (P : α → Prop) (c : Int) (a : Int) (g : Option (α × Int × Int)) : Prop := ∃ v a' sd, g = some (v, a', sd) ∧ a ≤ a' ∧ a' ≤ a + c ∧ P v
theorem u64_bd (n : Int) : 0 ≤ IntKind.u64.wrap n ∧ IntKind.u64.wrap n < 18446744073709551616 := by
  simp only [IntKind.wrap, IntKind.bits, IntKind.signed]
  simp
  omega
theorem u64_and255 (x : Int) (h0 : 0 ≤ x) (h1 : x < 18446744073709551616) : Go.bits .and .u64 x 255 = x % 256 :=
  bits_mask .u64 64 (by decide) (fun n h0 h1 => by
    simp only [IntKind.wrap, IntKind.bits, IntKind.signed]
    simp
    omega) 8 (by decide) x h0 h1
def Bytes (l : List Int) : Prop := l.length ≤ 1048576 ∧ ∀ x ∈ l, 0 ≤ x ∧ x ≤ 255
theorem next_ok {l : List Int} (hl : Bytes l) (a sd : Int) (h0 : 0 ≤ a) (h1 : a ≤ 1000000000000000) : Dr (fun v => 0 ≤ v ∧ v ≤ 255) 1 a (spec_l1Cur_next.f l a sd) := by
  have hw : wrap64 (a + 1) = a + 1 := w64 (by omega) (by omega)
  have hm : ∀ y : Int, 0 ≤ wrap64 (Go.bits .and .u64 (IntKind.u64.wrap y / 1099511627776) 255) ∧ wrap64 (Go.bits .and .u64 (IntKind.u64.wrap y / 1099511627776) 255) ≤ 255 := by
    intro y
    have hy := u64_bd y
    rw [u64_and255 _ (by omega) (by omega), w64 (n := IntKind.u64.wrap y / 1099511627776 % 256) (by omega) (by omega)]
    omega
  unfold spec_l1Cur_next.f
  by_cases c : a < (l.length : Int)
  · have hr : 0 ≤ rd l a ∧ rd l a ≤ 255 := by
      obtain ⟨n, rfl⟩ : ∃ n : Nat, a = (n : Int) := ⟨a.toNat, by omega⟩
      have hn : n < l.length := by omega
      rw [rd_getD, List.getD_eq_getElem?_getD, List.getElem?_eq_getElem hn]
      exact hl.2 _ (List.getElem_mem hn)
    rw [if_pos c, if_pos h0, hw, if_pos (by omega), w64 (n := rd l a) (by omega) (by omega)]
    exact ⟨_, _, _, rfl, by omega, by omega, hr⟩
  · rw [if_neg c, hw]
    by_cases d : a + 1 ≤ (l.length : Int)
    · omega
    · rw [if_neg d]
      exact ⟨_, _, _, rfl, by omega, by omega, hm _⟩

theorem pick_ok {l : List Int} (hl : Bytes l) (a sd n : Int) (h0 : 0 ≤ a) (h1 : a ≤ 100000000000000) (hn : n ≤ 1000000) : Dr (fun v => 0 ≤ v ∧ (v < n ∨ v = 0)) 2 a (spec_l1Cur_pick.f l a sd n) := by
  unfold spec_l1Cur_pick.f
  by_cases c : n ≤ 1
  · rw [if_pos c]
    exact ⟨_, _, _, rfl, by omega, by omega, by omega, .inr rfl⟩
  · rw [if_neg c]
    obtain ⟨v, a', sd', e, ha, hb, hv⟩ := next_ok hl a sd h0 (by omega)
    rw [e]
    simp only [Option.bind_some]
    have hn0 : ¬ n = 0 := by omega
    by_cases d : n > 200
    · rw [if_pos d]
      obtain ⟨v2, a2, sd2, e2, ha2, hb2, hv2⟩ := next_ok hl a' sd' (by omega) (by omega)
      rw [e2]
      simp only [Option.bind_some]
      rw [if_neg hn0, w64 (n := v * 256) (by omega) (by omega), w64 (n := v * 256 + v2) (by omega) (by omega), Int.tmod_eq_emod_of_nonneg (by omega)]
      have := Int.emod_nonneg (v * 256 + v2) hn0
      have := Int.emod_lt_of_pos (v * 256 + v2) (show 0 < n by omega)
      exact ⟨_, _, _, rfl, by omega, by omega, by omega, .inl (by omega)⟩
    · rw [if_neg d, if_neg hn0, Int.tmod_eq_emod_of_nonneg (by omega)]
      have := Int.emod_nonneg v hn0
      have := Int.emod_lt_of_pos v (show 0 < n by omega)
      exact ⟨_, _, _, rfl, by omega, by omega, by omega, .inl (by omega)⟩

theorem among_ok {l : List Int} (hl : Bytes l) (a sd : Int) (m : List Int) (h0 : 0 ≤ a) (h1 : a ≤ 100000000000000) (hm : 1 ≤ m.length) (hm2 : m.length ≤ 1000) : Dr (fun v => v ∈ m) 2 a (spec_l1Cur_among.f l a sd m) := by
  unfold spec_l1Cur_among.f
  obtain ⟨v, a', sd', e, ha, hb, hv, hv2⟩ := pick_ok hl a sd (m.length : Int) h0 h1 (by omega)
  rw [e]
  simp only [Option.bind_some]
  rw [if_pos hv, if_pos (by omega)]
  refine ⟨_, _, _, rfl, ha, hb, ?_⟩
  obtain ⟨n, rfl⟩ : ∃ n : Nat, v = (n : Int) := ⟨v.toNat, by omega⟩
  have hn : n < m.length := by omega
  rw [rd_getD, List.getD_eq_getElem?_getD, List.getElem?_eq_getElem hn]
  exact List.getElem_mem hn

theorem one_ok {l : List Int} (hl : Bytes l) (a sd n : Int) (h0 : 0 ≤ a) (h1 : a ≤ 100000000000000) (hn : n ≤ 1000000) : Dr (fun _ => True) 2 a (spec_l1Cur_one.f l a sd n) := by
  unfold spec_l1Cur_one.f
  obtain ⟨v, a', sd', e, ha, hb, hv, hv2⟩ := pick_ok hl a sd n h0 h1 hn
  rw [e]
  simp only [Option.bind_some]
  exact ⟨_, _, _, rfl, ha, hb, trivial⟩

theorem laws_big_eq (l m : List Int) (hl : l.length ≤ 140737488355328) (hm : m.length ≤ 140737488355328) : laws_big.f l m = some (decide (1048576 < l.length + m.length)) := by
  unfold laws_big.f
  by_cases c : (l.length : Int) > 1048576
  · rw [if_pos c]
    simp; omega
  · rw [if_neg c, w64 (n := 1048576 - (l.length : Int)) (by omega) (by omega)]
    simp; omega
theorem bytes_of {l : List Int} (h : l.length ≤ 1048576) (hx : ∀ x ∈ l, (Lit.int .u8 x).wf = true) : Bytes l := by
  refine ⟨h, fun x hxl => ?_⟩
  have := hx x hxl
  simp [Lit.wf, IntKind.min, IntKind.max, IntKind.signed, IntKind.bits] at this
  omega

/-- A number shifted: down, to the nearest one, towards 0. -/
def shM (x b mode : Int) : Int := if mode = 1 ∧ b ≤ 2 * (x % b) ∧ 0 < x % b then x / b + 1 else if mode = 2 ∧ x < 0 ∧ 0 < x % b then x / b + 1 else x / b
theorem div_uniq {x b q r : Int} (h : x = q * b + r) (h0 : 0 ≤ r) (h1 : r < b) : x / b = q := by
  have hb : 0 < b := by omega
  exact ((Int.ediv_emod_unique hb).2 ⟨by rw [h, Int.mul_comm]; omega, h0, h1⟩).1
theorem pow2_pos (s : Nat) : (0 : Int) < 2 ^ s := Int.pow_pos (by decide)
theorem pow2_le {s : Nat} (h : s ≤ 20) : (2 : Int) ^ s ≤ 1048576 := by
  have h1 : (2 : Nat) ^ s ≤ 2 ^ 20 := Nat.pow_le_pow_right (by decide) h
  have h3 : (2 : Int) ^ s = (((2 : Nat) ^ s : Nat) : Int) := by simp
  rw [h3]
  have h2 : (2 : Nat) ^ 20 = 1048576 := by decide
  omega
theorem shl_one {s : Nat} (h : s ≤ 20) : shl .i64 1 (s : Int) = 2 ^ s := by
  unfold shl
  have h1 : min ((s : Int)).toNat IntKind.i64.bits = s := by
    simp [IntKind.bits]; omega
  rw [h1, Int.one_mul, IntKind.wrap_i64]
  have := pow2_pos s
  have := pow2_le h
  omega
theorem shl_mul {s : Nat} (h : s ≤ 20) (y : Int) (h1 : -9223372036854775808 ≤ y * 2 ^ s) (h2 : y * 2 ^ s ≤ 9223372036854775807) : shl .i64 y (s : Int) = y * 2 ^ s := by
  unfold shl
  have e : min ((s : Int)).toNat IntKind.i64.bits = s := by
    simp [IntKind.bits]; omega
  rw [e, IntKind.wrap_i64]
  omega
theorem shr_div {s : Nat} (h : s ≤ 20) (y : Int) : shr .i64 y (s : Int) = y / 2 ^ s := by
  unfold shr
  have e : min ((s : Int)).toNat IntKind.i64.bits = s := by
    simp [IntKind.bits]; omega
  rw [e]
theorem mod_eq (x b : Int) : x = (x / b) * b + x % b := by
  have := Int.emod_add_mul_ediv x b
  rw [Int.mul_comm] at this
  omega

def numOk (x : Int) : Bool := decide (-1000000000000 ≤ x) && decide (x ≤ 1000000000000)
def modeOk (s mode : Int) : Bool := (decide (0 ≤ s) && decide (s ≤ 20)) && (decide (0 ≤ mode) && decide (mode ≤ 2))
theorem numOk_iff {x : Int} : numOk x = true ↔ -1000000000000 ≤ x ∧ x ≤ 1000000000000 := by simp [numOk]
theorem modeOk_iff {s m : Int} : modeOk s m = true ↔ (0 ≤ s ∧ s ≤ 20) ∧ (0 ≤ m ∧ m ≤ 2) := by simp [modeOk]

theorem impl_at_eq (s : List Int) (i : Int) (hs : s.length ≤ 140737488351232) : impl_at.f s i = some (if 0 ≤ i then s.getD i.toNat 0 else 0) := by
  unfold impl_at.f
  rw [impl_in_eq, w64 (n := (s.length : Int) - 1) (by omega) (by omega)]
  simp only [Option.bind_some]
  by_cases c : 0 ≤ i
  · by_cases d : i ≤ (s.length : Int) - 1
    · rw [if_pos (by simp; omega), if_pos c, if_pos (by omega), if_pos c]
      rfl
    · rw [if_neg (by simp; omega), if_pos c, List.getD_eq_getElem?_getD, List.getElem?_eq_none (by omega)]
      rfl
  · rw [if_neg (by simp; omega), if_neg c]

def sm : List Int → Int
  | [] => 0
  | x :: t => x + sm t
theorem sm_app : ∀ (p t : List Int), sm (p ++ t) = sm p + sm t
  | [], t => by simp [sm]
  | x :: p, t => by
    rw [List.cons_append, sm, sm, sm_app p t]
    omega
theorem sm_bd (M : Int) (hM : 0 ≤ M) : ∀ l : List Int, (∀ x ∈ l, -M ≤ x ∧ x ≤ M) → -(l.length * M) ≤ sm l ∧ sm l ≤ l.length * M
  | [], _ => by simp [sm]
  | x :: t, h => by
    have h1 := h x (by simp)
    have h2 := sm_bd M hM t (fun y hy => h y (by simp [hy]))
    simp only [sm, List.length_cons, Int.natCast_add, Int.add_mul]
    omega

theorem impl_sum_l0 (l : List Int) (hl : l.length ≤ 1000000) (hb : ∀ x ∈ l, -1000000 ≤ x ∧ x ≤ 1000000) : ∀ (t p : List Int), l = p ++ t → Ev (fun k => impl_sum.l0 k (sm p) l (l.length : Int) (p.length : Int)) (sm l)
  | [], p, h => by
    refine Ev.to (Ev.step (f := fun _ => some (sm p)) (fun k => ?_) (Ev.now _)) (by rw [h]; simp)
    subst h
    simp [impl_sum.l0]
  | x :: t, p, h => by
    have e1 : (p.length : Int) < (l.length : Int) := by rw [h]; exact lt_mid p t x
    have e2 : rd l (p.length : Int) = x := by rw [h]; exact rd_mid p t x
    have e3 : wrap64 ((p.length : Int) + 1) = ((p ++ [x]).length : Int) := nx_mid p t x (by rw [← h]; omega)
    have hx := hb x (by rw [h]; simp)
    have hp := sm_bd 1000000 (by omega) p (fun y hy => hb y (by rw [h]; simp [hy]))
    have hpl : p.length ≤ 1000000 := by rw [h] at hl; simp at hl; omega
    have e4 : wrap64 (sm p + x) = sm (p ++ [x]) := by
      rw [w64 (n := sm p + x) (by omega) (by omega), sm_app]
      simp [sm]
    refine Ev.step (fun k => ?_) (impl_sum_l0 l hl hb t (p ++ [x]) (by simp [h]))
    simp only [impl_sum.l0, if_pos e1, if_pos (Int.natCast_nonneg _), e2, e3, e4]
theorem impl_sum_ev (l : List Int) (hl : l.length ≤ 1000000) (hb : ∀ x ∈ l, -1000000 ≤ x ∧ x ≤ 1000000) : Ev (fun k => impl_sum.f k l) (sm l) := by
  have h := impl_sum_l0 l hl hb l [] rfl
  simpa [impl_sum.f, sm] using h

theorem laws_iSum_l0 (l : List Int) (hl : l.length ≤ 1000000) (hb : ∀ x ∈ l, -1000000 ≤ x ∧ x ≤ 1000000) : ∀ (t p : List Int), l = p ++ t → Ev (fun k => laws_iSum.l0 k (sm p) l (l.length : Int) (p.length : Int)) (sm l)
  | [], p, h => by
    refine Ev.to (Ev.step (f := fun _ => some (sm p)) (fun k => ?_) (Ev.now _)) (by rw [h]; simp)
    subst h
    simp [laws_iSum.l0]
  | x :: t, p, h => by
    have e1 : (p.length : Int) < (l.length : Int) := by rw [h]; exact lt_mid p t x
    have e2 : rd l (p.length : Int) = x := by rw [h]; exact rd_mid p t x
    have e3 : wrap64 ((p.length : Int) + 1) = ((p ++ [x]).length : Int) := nx_mid p t x (by rw [← h]; omega)
    have hx := hb x (by rw [h]; simp)
    have hp := sm_bd 1000000 (by omega) p (fun y hy => hb y (by rw [h]; simp [hy]))
    have hpl : p.length ≤ 1000000 := by rw [h] at hl; simp at hl; omega
    have e4 : wrap64 (sm p + x) = sm (p ++ [x]) := by
      rw [w64 (n := sm p + x) (by omega) (by omega), sm_app]
      simp [sm]
    refine Ev.step (fun k => ?_) (laws_iSum_l0 l hl hb t (p ++ [x]) (by simp [h]))
    simp only [laws_iSum.l0, if_pos e1, if_pos (Int.natCast_nonneg _), e2, e3, e4]
theorem laws_iSum_ev (l : List Int) (hl : l.length ≤ 1000000) (hb : ∀ x ∈ l, -1000000 ≤ x ∧ x ≤ 1000000) : Ev (fun k => laws_iSum.f k l) (sm l) := by
  have h := laws_iSum_l0 l hl hb l [] rfl
  simpa [laws_iSum.f, sm] using h

theorem laws_iSame_l0 (l : List Int) (hl : l.length ≤ 140737488351232) : ∀ (t p : List Int), l = p ++ t → Ev (fun k => laws_iSame.l0 k l l (l.length : Int) (p.length : Int)) true
  | [], p, h => by
    refine Ev.step (f := fun _ => some true) (fun k => ?_) (Ev.now _)
    subst h
    simp [laws_iSame.l0]
  | x :: t, p, h => by
    have e1 : (p.length : Int) < (l.length : Int) := by rw [h]; exact lt_mid p t x
    have e3 : wrap64 ((p.length : Int) + 1) = ((p ++ [x]).length : Int) := nx_mid p t x (h ▸ hl)
    refine Ev.step (fun k => ?_) (laws_iSame_l0 l hl t (p ++ [x]) (by simp [h]))
    simp only [laws_iSame.l0, if_pos e1, if_pos (Int.natCast_nonneg _), e3]
    rw [if_pos trivial]
theorem laws_iSame_ev (l : List Int) (hl : l.length ≤ 140737488351232) : Ev (fun k => laws_iSame.f k l l) true := by
  simp only [laws_iSame.f]
  exact Ev.tt trivial (laws_iSame_l0 l hl l [] rfl)

theorem signal_l0 {l : List Int} (hl : Bytes l) (sz : Int) (hs : 1 ≤ sz ∧ sz ≤ 100000) : ∀ (n : Nat) (q : List Int) (a sd : Int), q.length + n ≤ 100000 → 0 ≤ a → a + 10 * n ≤ 100000000000 → ∃ s a' sd', Ev (fun k => spec_l1Cur_signal.l0 k sz q (n : Int) l a sd) (s, a', sd') ∧ s.length ≤ 100001 ∧ a ≤ a' ∧ a' ≤ a + 10 * n + 10
  | 0, q, a, sd, hq, h0, h1 => by
    obtain ⟨u, a1, sd1, e1, ha1, hb1, -⟩ := pick_ok hl a sd 16 h0 (by omega) (by omega)
    by_cases c : u = 0
    · obtain ⟨v, a2, sd2, e2, ha2, hb2, -⟩ := among_ok hl a1 sd1 [100000, (-100000), 100001, 4611686018427387904] (by omega) (by omega) (by simp) (by simp)
      refine ⟨q ++ [v], a2, sd2, Ev.step (f := fun _ => some (q ++ [v], a2, sd2)) (fun k => ?_) (Ev.now _), by simp; omega, by omega, by omega⟩
      simp only [spec_l1Cur_signal.l0, e1, e2, Option.bind_some, if_pos c]
      rw [if_neg (by omega), if_pos (by omega)]
    · by_cases d : u = 1
      · obtain ⟨v, a2, sd2, e2, ha2, hb2, hv, hv2⟩ := pick_ok hl a1 sd1 2 (by omega) (by omega) (by omega)
        have e3 : wrap64 (64 + v) = 64 + v := w64 (by omega) (by omega)
        refine ⟨List.replicate (64 + v).toNat 0, a2, sd2, Ev.step (f := fun _ => some (List.replicate (64 + v).toNat 0, a2, sd2)) (fun k => ?_) (Ev.now _), by simp; omega, by omega, by omega⟩
        simp only [spec_l1Cur_signal.l0, e1, e2, Option.bind_some, if_neg c, if_pos d, e3]
        rw [if_neg (by omega), if_pos (by omega), if_pos (by omega)]
      · refine ⟨q, a1, sd1, Ev.step (f := fun _ => some (q, a1, sd1)) (fun k => ?_) (Ev.now _), by omega, by omega, by omega⟩
        simp only [spec_l1Cur_signal.l0, e1, Option.bind_some, if_neg c, if_neg d]
        rw [if_neg (by omega)]
  | n + 1, q, a, sd, hq, h0, h1 => by
    obtain ⟨u, a1, sd1, e1, ha1, hb1, -⟩ := one_ok hl a sd 4 h0 (by omega) (by omega)
    have e3 : wrap64 (((n + 1 : Nat) : Int) - 1) = (n : Int) := by
      rw [w64 (n := ((n + 1 : Nat) : Int) - 1) (by omega) (by omega)]
      omega
    have hn : ((n + 1 : Nat) : Int) > 0 := by omega
    have hql : q.length < 17592186044416 := by omega
    by_cases c : u = true
    · obtain ⟨s, a', sd', h, hs1, ha, hb⟩ := signal_l0 hl sz hs n (q ++ [0]) a1 sd1 (by simp; omega) (by omega) (by omega)
      refine ⟨s, a', sd', Ev.step (fun k => ?_) h, hs1, by omega, by omega⟩
      simp only [spec_l1Cur_signal.l0, e1, Option.bind_some, if_pos c, if_pos hn, if_pos hql, e3]
    · have e4 : wrap64 (wrap64 (2 * sz) + 1) = 2 * sz + 1 := by
        rw [w64 (n := 2 * sz) (by omega) (by omega), w64 (n := 2 * sz + 1) (by omega) (by omega)]
      obtain ⟨v, a2, sd2, e2, ha2, hb2, -⟩ := pick_ok hl a1 sd1 (2 * sz + 1) (by omega) (by omega) (by omega)
      obtain ⟨s, a', sd', h, hs1, ha, hb⟩ := signal_l0 hl sz hs n (q ++ [wrap64 (v - sz)]) a2 sd2 (by simp; omega) (by omega) (by omega)
      refine ⟨s, a', sd', Ev.step (fun k => ?_) h, hs1, by omega, by omega⟩
      simp only [spec_l1Cur_signal.l0, e1, Option.bind_some, if_neg c, if_pos hn, e4, e2, if_pos hql, e3]
theorem signal_ok {l : List Int} (hl : Bytes l) (a sd most sz : Int) (h0 : 0 ≤ a) (h1 : a ≤ 1000000000) (hm : 0 ≤ most ∧ most ≤ 10000) (hs : 1 ≤ sz ∧ sz ≤ 100000) : ∃ s a' sd', Ev (fun k => spec_l1Cur_signal.f k l a sd most sz) (s, a', sd') ∧ s.length ≤ 100001 ∧ a ≤ a' ∧ a' ≤ a + 1000000 := by
  obtain ⟨u, a1, sd1, e1, ha1, hb1, hu, hu2⟩ := pick_ok hl a sd (most + 1) h0 (by omega) (by omega)
  obtain ⟨n, rfl⟩ : ∃ n : Nat, u = (n : Int) := ⟨u.toNat, by omega⟩
  obtain ⟨s, a', sd', h, hs1, ha, hb⟩ := signal_l0 hl sz hs n [] a1 sd1 (by simp; omega) (by omega) (by omega)
  refine ⟨s, a', sd', ?_, hs1, by omega, by omega⟩
  simp only [spec_l1Cur_signal.f]
  rw [w64 (n := most + 1) (by omega) (by omega)]
  exact Ev.dbind e1 h

def cvf : List Int → (Nat → Int) → Nat → Int
  | [], _, _ => 0
  | w :: _, f, 0 => w * f 0
  | w :: h, f, n + 1 => w * f (n + 1) + cvf h f n
def gD (l : List Int) (n : Nat) : Int := l.getD n 0
theorem cv_cvf : ∀ (h s : List Int) (n : Nat), cv h s n = cvf h (gD s) n
  | [], s, n => by simp [cv, cvf]
  | w :: h, s, 0 => rfl
  | w :: h, s, n + 1 => by simp only [cv, cvf, cv_cvf h s n]; rfl
theorem cvf_congr {f g : Nat → Int} : ∀ (h : List Int) (n : Nat), (∀ i, i ≤ n → f i = g i) → cvf h f n = cvf h g n
  | [], n, e => rfl
  | w :: h, 0, e => by simp only [cvf, e 0 (Nat.le_refl 0)]
  | w :: h, n + 1, e => by simp only [cvf, e (n + 1) (Nat.le_refl _), cvf_congr h n (fun i hi => e i (by omega))]
theorem cvf_mul (c : Int) (f : Nat → Int) : ∀ (h : List Int) (n : Nat), cvf h (fun i => c * f i) n = c * cvf h f n
  | [], n => by simp [cvf]
  | w :: h, 0 => by simp only [cvf]; grind
  | w :: h, n + 1 => by simp only [cvf, cvf_mul c f h n]; grind
theorem cvf_add (f g : Nat → Int) : ∀ (h : List Int) (n : Nat), cvf h (fun i => f i + g i) n = cvf h f n + cvf h g n
  | [], n => by simp [cvf]
  | w :: h, 0 => by simp only [cvf]; grind
  | w :: h, n + 1 => by simp only [cvf, cvf_add f g h n]; grind
def Sh (f : Nat → Int) : Nat → Int
  | 0 => 0
  | n + 1 => f n
theorem cvf_zero : ∀ (h : List Int) (n : Nat), cvf h (fun _ => 0) n = 0
  | [], n => rfl
  | w :: h, 0 => by simp [cvf]
  | w :: h, n + 1 => by simp [cvf, cvf_zero h n]
theorem cvf_Sh (f : Nat → Int) : ∀ (h : List Int) (n : Nat), cvf h (Sh f) n = Sh (cvf h f) n
  | [], 0 => rfl
  | [], n + 1 => rfl
  | w :: h, 0 => by simp [cvf, Sh]
  | w :: h, 1 => by
    simp only [cvf, Sh, cvf_Sh f h 0]
    simp
  | w :: h, n + 2 => by
    simp only [cvf, Sh, cvf_Sh f h (n + 1)]
theorem cvf_cons (w : Int) (h : List Int) (f : Nat → Int) (n : Nat) : cvf (w :: h) f n = w * f n + Sh (cvf h f) n := by
  cases n <;> simp [cvf, Sh]
theorem cvf_comm (b : List Int) (f : Nat → Int) : ∀ (a : List Int) (n : Nat), cvf b (cvf a f) n = cvf a (cvf b f) n
  | [], n => cvf_zero b n
  | w :: a, n => by
    rw [cvf_congr (g := fun i => (fun i => w * f i) i + Sh (cvf a f) i) b n (fun i _ => cvf_cons w a f i), cvf_add, cvf_mul, cvf_Sh, cvf_cons]
    congr 1
    cases n with
    | zero => rfl
    | succ n => exact cvf_comm b f a n
def dl (n : Nat) : Int := if n = 0 then 1 else 0
theorem cvf_dl : ∀ (h : List Int) (n : Nat), cvf h dl n = gD h n
  | [], n => by simp [cvf, gD]
  | w :: h, 0 => by simp [cvf, dl, gD]
  | w :: h, n + 1 => by
    simp only [cvf, cvf_dl h n]
    simp [dl, gD]
theorem cvf_far : ∀ (h : List Int) (s : List Int) (n : Nat), s ≠ [] → h.length + s.length - 1 ≤ n → cvf h (gD s) n = 0
  | [], s, n, _, _ => rfl
  | w :: h, s, 0, hs, hn => by
    have : 1 ≤ s.length := by cases s <;> simp_all
    simp only [List.length_cons] at hn
    omega
  | w :: h, s, n + 1, hs, hn => by
    have h1 : 1 ≤ s.length := by cases s <;> simp_all
    simp only [List.length_cons] at hn
    have e : gD s (n + 1) = 0 := by
      rw [gD, List.getD_eq_getElem?_getD, List.getElem?_eq_none (by omega)]
      rfl
    rw [cvf, e, cvf_far h s n hs (by omega)]
    simp
theorem gD_Lf (f : Nat → Int) (N n : Nat) : gD (Lf f N) n = if n < N then f n else 0 := by
  by_cases c : n < N
  · rw [if_pos c, gD, List.getD_eq_getElem?_getD]
    simp [Lf, c]
  · rw [if_neg c, gD, List.getD_eq_getElem?_getD, List.getElem?_eq_none (by rw [Lf_length]; omega)]
    rfl
theorem gD_conv (h s : List Int) (n : Nat) (hs : s ≠ []) : gD (conv h s) n = cvf h (gD s) n := by
  rw [conv, if_neg hs, gD_Lf]
  by_cases c : n < h.length + s.length - 1
  · rw [if_pos c, cv_cvf]
  · rw [if_neg c, cvf_far h s n hs (by omega)]
theorem list_gD {a b : List Int} (hl : a.length = b.length) (h : ∀ n, gD a n = gD b n) : a = b := by
  apply List.ext_getElem hl
  intro n h1 h2
  have := h n
  rw [gD, gD, List.getD_eq_getElem?_getD, List.getD_eq_getElem?_getD, List.getElem?_eq_getElem h1, List.getElem?_eq_getElem h2] at this
  exact this
theorem conv_comm {a b : List Int} (ha : a ≠ []) (hb : b ≠ []) : conv a b = conv b a := by
  apply list_gD
  · rw [conv_length a b hb, conv_length b a ha, Nat.add_comm]
  intro n
  rw [gD_conv a b n hb, gD_conv b a n ha, ← cvf_congr a n (fun i _ => cvf_dl b i), cvf_comm a dl b n]
  exact cvf_congr b n (fun i _ => cvf_dl a i)
theorem conv_ne {a b : List Int} (ha : a ≠ []) (hb : b ≠ []) : conv a b ≠ [] := by
  intro h
  have h1 := conv_length a b hb
  rw [h] at h1
  have : 1 ≤ a.length := by cases a <;> simp_all
  have : 1 ≤ b.length := by cases b <;> simp_all
  simp at h1
  omega
theorem cvf_conv {a b : List Int} (hb : b ≠ []) (f : Nat → Int) (n : Nat) (s : List Int) (hf : ∀ i, f i = gD s i) : cvf (conv a b) f n = cvf a (cvf b f) n := by
  have e1 : ∀ i, f i = cvf s dl i := fun i => (hf i).trans (cvf_dl s i).symm
  rw [cvf_congr (g := cvf s dl) (conv a b) n (fun i _ => e1 i), cvf_comm (conv a b) dl s n]
  rw [cvf_congr (g := cvf a (cvf b dl)) s n (fun i _ => by rw [cvf_dl, gD_conv a b i hb]; exact cvf_congr a i (fun j _ => (cvf_dl b j).symm))]
  rw [cvf_comm s (cvf b dl) a n]
  refine cvf_congr a n (fun i _ => ?_)
  rw [cvf_comm s dl b i]
  exact cvf_congr b i (fun j _ => (e1 j).symm)
theorem conv_assoc {a b s : List Int} (ha : a ≠ []) (hb : b ≠ []) (hs : s ≠ []) : conv b (conv a s) = conv (conv a b) s := by
  apply list_gD
  · have h1 : 1 ≤ a.length := by cases a <;> simp_all
    have h2 : 1 ≤ b.length := by cases b <;> simp_all
    have h3 : 1 ≤ s.length := by cases s <;> simp_all
    rw [conv_length b _ (conv_ne ha hs), conv_length a s hs, conv_length _ s hs, conv_length a b hb]
    omega
  intro n
  rw [gD_conv b _ n (conv_ne ha hs), gD_conv _ s n hs, cvf_conv hb (gD s) n s (fun _ => rfl), ← cvf_comm b (gD s) a n]
  exact cvf_congr b n (fun i _ => gD_conv a s i hs)
/-- the value of a list at z -/
def evz (z : Int) : List Int → Int
  | [] => 0
  | w :: t => w + z * evz z t
def evf (z : Int) : (Nat → Int) → Nat → Int
  | _, 0 => 0
  | f, n + 1 => f 0 + z * evf z (fun i => f (i + 1)) n
theorem evf_congr (z : Int) : ∀ (n : Nat) (f g : Nat → Int), (∀ i, i < n → f i = g i) → evf z f n = evf z g n
  | 0, _, _, _ => rfl
  | n + 1, f, g, h => by
    simp only [evf, h 0 (by omega), evf_congr z n (fun i => f (i + 1)) (fun i => g (i + 1)) (fun i hi => h (i + 1) (by omega))]
theorem evf_lin (z c : Int) : ∀ (n : Nat) (f g : Nat → Int), evf z (fun i => c * f i + g i) n = c * evf z f n + evf z g n
  | 0, _, _ => by simp [evf]
  | n + 1, f, g => by
    simp only [evf, evf_lin z c n (fun i => f (i + 1)) (fun i => g (i + 1))]
    grind
theorem evf_gD (z : Int) : ∀ (l : List Int) (n : Nat), l.length ≤ n → evf z (gD l) n = evz z l
  | [], 0, _ => rfl
  | [], n + 1, _ => by
    have ih := evf_gD z [] n (by simp)
    simp only [evf, evz] at ih ⊢
    have e : evf z (fun i => gD [] (i + 1)) n = 0 := by
      rw [← ih]
      exact evf_congr z n _ _ (fun i _ => by simp [gD])
    rw [e]
    simp [gD]
  | w :: l, 0, h => by simp at h
  | w :: l, n + 1, h => by
    simp only [evf, evz]
    have e : evf z (fun i => gD (w :: l) (i + 1)) n = evz z l := by
      rw [← evf_gD z l n (by simpa using h)]
      exact evf_congr z n _ _ (fun i _ => by simp [gD])
    rw [e]
    simp [gD]
theorem evf_cvf (z : Int) (s : List Int) (hs : s ≠ []) : ∀ (h : List Int) (n : Nat), h.length + s.length - 1 ≤ n → evf z (cvf h (gD s)) n = evz z h * evz z s
  | [], n, _ => by
    have e : ∀ (n : Nat), evf z (cvf [] (gD s)) n = 0 := by
      intro n
      have : ∀ n, evf z (fun _ => (0 : Int)) n = 0 := by
        intro n
        induction n with
        | zero => rfl
        | succ n ih => simp [evf, ih]
      rw [← this n]
      exact evf_congr z n _ _ (fun i _ => rfl)
    rw [e n]
    simp [evz]
  | w :: h, n, hn => by
    have h1 : 1 ≤ s.length := by cases s <;> simp_all
    simp only [List.length_cons] at hn
    obtain ⟨m, rfl⟩ : ∃ m, n = m + 1 := ⟨n - 1, by omega⟩
    rw [evf_congr z (m + 1) _ (fun i => w * gD s i + Sh (cvf h (gD s)) i) (fun i _ => cvf_cons w h (gD s) i), evf_lin, evf_gD z s (m + 1) (by omega)]
    have e : evf z (Sh (cvf h (gD s))) (m + 1) = z * (evz z h * evz z s) := by
      rw [evf]
      have : evf z (fun i => Sh (cvf h (gD s)) (i + 1)) m = evz z h * evz z s := by
        rw [← evf_cvf z s hs h m (by omega)]
        exact evf_congr z m _ _ (fun i _ => rfl)
      rw [this]
      simp [Sh]
    rw [e, evz]
    grind
theorem evz_conv (z : Int) {h s : List Int} (hs : s ≠ []) : evz z (conv h s) = evz z h * evz z s := by
  rw [← evf_gD z (conv h s) (h.length + s.length - 1) (by rw [conv_length h s hs]; omega), ← evf_cvf z s hs h (h.length + s.length - 1) (by omega)]
  exact evf_congr z _ _ _ (fun i _ => gD_conv h s i hs)

def dvM (a : List Int) (b0 : Int) (bt : List Int) : Nat → List Int → Option (List Int)
  | 0, out => some out
  | m + 1, out =>
    let r := gD a out.length - Sh (cvf bt (gD out)) out.length
    if Int.tmod r b0 ≠ 0 then none else if (Int.tdiv r b0).natAbs > 1000 then none else dvM a b0 bt m (out ++ [Int.tdiv r b0])
def divW (a b : List Int) : List Int × Bool :=
  if wts a = true ∧ wts b = true ∧ gD b 0 ≠ 0 ∧ b.length ≤ a.length then
    match dvM a (gD b 0) b.tail (a.length - b.length + 1) [] with
    | none => ([], false)
    | some q => if conv q b = a then (q, true) else ([], false)
  else ([], false)
theorem dvM_len (a : List Int) (b0 : Int) (bt : List Int) : ∀ (m : Nat) (out q : List Int), dvM a b0 bt m out = some q → q.length = out.length + m
  | 0, out, q, h => by
    simp only [dvM, Option.some.injEq] at h
    subst h
    rfl
  | m + 1, out, q, h => by
    simp only [dvM] at h
    split at h
    · cases h
    · split at h
      · cases h
      · have := dvM_len a b0 bt m _ q h
        simp at this
        omega
theorem dvM_mem (a : List Int) (b0 : Int) (bt : List Int) : ∀ (m : Nat) (out q : List Int), (∀ x ∈ out, -1000 ≤ x ∧ x ≤ 1000) → dvM a b0 bt m out = some q → ∀ x ∈ q, -1000 ≤ x ∧ x ≤ 1000
  | 0, out, q, ho, h => by
    simp only [dvM, Option.some.injEq] at h
    subst h
    exact ho
  | m + 1, out, q, ho, h => by
    simp only [dvM] at h
    split at h
    · cases h
    · split at h
      · cases h
      · refine dvM_mem a b0 bt m _ q (fun x hx => ?_) h
        rcases List.mem_append.1 hx with hx | hx
        · exact ho x hx
        · simp at hx
          subst hx
          omega
theorem gD_take (a : List Int) (n i : Nat) (h : i < n) : gD (a.take n) i = gD a i := by
  simp [gD, List.getD_eq_getElem?_getD, List.getElem?_take, h]
theorem gD_out (a : List Int) (n : Nat) (h : a.length ≤ n) : gD a n = 0 := by
  rw [gD, List.getD_eq_getElem?_getD, List.getElem?_eq_none h]
  rfl
theorem gD_in (a : List Int) (n : Nat) (h : n < a.length) : gD a n = a[n] := by
  rw [gD, List.getD_eq_getElem?_getD, List.getElem?_eq_getElem h]
  rfl
theorem cvf_turn (a b : List Int) (n : Nat) : cvf a (gD b) n = cvf b (gD a) n := by
  rw [← cvf_congr a n (fun i _ => cvf_dl b i), cvf_comm a dl b n]
  exact cvf_congr b n (fun i _ => cvf_dl a i)
theorem Sh_congr {f g : Nat → Int} (n : Nat) (h : ∀ i, i < n → f i = g i) : Sh f n = Sh g n := by
  cases n with
  | zero => rfl
  | succ n => exact h n (by omega)
theorem dvM_back (a b : List Int) (hb0 : gD b 0 ≠ 0) (hb : b ≠ []) (ha : ∀ x ∈ a, -1000 ≤ x ∧ x ≤ 1000) : ∀ (m i : Nat), i + m = a.length → dvM (conv a b) (gD b 0) b.tail m (a.take i) = some a
  | 0, i, h => by
    rw [dvM, List.take_of_length_le (by omega)]
  | m + 1, i, h => by
    have hl : (a.take i).length = i := by rw [List.length_take]; omega
    have e : gD (conv a b) i - Sh (cvf b.tail (gD (a.take i))) i = gD b 0 * gD a i := by
      rw [gD_conv a b i hb, cvf_turn]
      have e1 : b = gD b 0 :: b.tail := by
        cases b with
        | nil => exact absurd rfl hb
        | cons x t => rfl
      have e2 : cvf b (gD a) i = gD b 0 * gD a i + Sh (cvf b.tail (gD a)) i := by
        have := cvf_cons (gD b 0) b.tail (gD a) i
        rw [← e1] at this
        exact this
      rw [e2, Sh_congr (g := cvf b.tail (gD a)) i (fun j hj => cvf_congr b.tail j (fun k hk => gD_take a i k (by omega)))]
      omega
    have hx := ha a[i] (List.getElem_mem (by omega))
    have e3 : Int.tdiv (gD b 0 * gD a i) (gD b 0) = gD a i := Int.mul_tdiv_cancel_left _ hb0
    have e4 : Int.tmod (gD b 0 * gD a i) (gD b 0) = 0 := Int.mul_tmod_right _ _
    simp only [dvM, hl, e, e3, e4]
    rw [gD_in a i (by omega)]
    rw [if_neg (by simp), if_neg (by omega)]
    have e5 : a.take i ++ [a[i]] = a.take (i + 1) := by simp
    rw [e5]
    exact dvM_back a b hb0 hb ha m (i + 1) (by omega)
theorem wts_ne {l : List Int} (h : wts l = true) : l ≠ [] := by
  intro e
  have := wts_len h
  rw [e] at this
  simp at this
theorem divW_back {a b : List Int} (ha : wts a = true) (hb : wts b = true) (hp : wts (conv a b) = true) (h0 : gD b 0 ≠ 0) : divW (conv a b) b = (a, true) := by
  have hbn := wts_ne hb
  have la := wts_len ha
  have lb := wts_len hb
  have e := conv_length a b hbn
  rw [divW, if_pos ⟨hp, hb, h0, by omega⟩]
  have h := dvM_back a b h0 hbn (wts_mem ha) a.length 0 (by omega)
  have e2 : (conv a b).length - b.length + 1 = a.length := by omega
  rw [e2]
  simp only [List.take_zero] at h
  rw [h]
  simp
theorem divW_good {a b q : List Int} (h : divW a b = (q, true)) : wts q = true ∧ conv q b = a ∧ wts a = true ∧ wts b = true := by
  unfold divW at h
  split at h
  · rename_i c
    split at h
    · simp at h
    · rename_i q' hq
      split at h
      · rename_i e
        simp at h
        subst h
        refine ⟨?_, e, c.1, c.2.1⟩
        have l1 := dvM_len _ _ _ _ _ _ hq
        have l2 := dvM_mem _ _ _ _ _ _ (fun x hx => by simp at hx) hq
        have la := wts_len c.1
        have lb := wts_len c.2.1
        simp only [wts, Bool.and_eq_true, decide_eq_true_eq, List.all_eq_true]
        simp at l1
        exact ⟨⟨by omega, by omega⟩, l2⟩
      · simp at h
  · simp at h
def pw (h : List Int) : Nat → List Int
  | 0 => [1]
  | j + 1 => conv (pw h j) h
theorem pw_ne {h : List Int} (hh : h ≠ []) : ∀ j, pw h j ≠ []
  | 0 => by simp [pw]
  | j + 1 => conv_ne (pw_ne hh j) hh
theorem pw_len {h : List Int} (hh : h ≠ []) : ∀ j, (pw h j).length = (h.length - 1) * j + 1
  | 0 => by simp [pw]
  | j + 1 => by
    have : 1 ≤ h.length := by cases h <;> simp_all
    rw [pw, conv_length _ _ hh, pw_len hh j, Nat.mul_add]
    omega
theorem conv_one {h : List Int} (hh : h ≠ []) : conv [1] h = h := by
  apply list_gD
  · rw [conv_length _ _ hh]
    simp
  · intro n
    rw [gD_conv _ _ n hh]
    cases n <;> simp [cvf]
theorem wts_iff {l : List Int} : wts l = true ↔ 1 ≤ l.length ∧ l.length ≤ 9 ∧ ∀ x ∈ l, -1000 ≤ x ∧ x ≤ 1000 := by
  simp only [wts, Bool.and_eq_true, decide_eq_true_eq, List.all_eq_true, and_assoc]
theorem cubes {a b c : Int} (h1 : -1000 ≤ a * a * a ∧ a * a * a ≤ 1000) (h3 : -1000 ≤ c * c * c ∧ c * c * c ≤ 1000) (h2 : -1000 ≤ 6 * a * b * c + b * b * b ∧ 6 * a * b * c + b * b * b ≤ 1000) :
    (-10 ≤ a ∧ a ≤ 10) ∧ (-10 ≤ c ∧ c ≤ 10) ∧ (-28 ≤ b ∧ b ≤ 28) := by
  have cube : ∀ x : Int, -1000 ≤ x * x * x → x * x * x ≤ 1000 → -10 ≤ x ∧ x ≤ 10 := by
    intro x g0 g1
    refine ⟨?_, ?_⟩
    · apply Int.le_of_not_gt
      intro g
      have a1 : 11 * 11 ≤ (-x) * (-x) := Int.mul_le_mul (by omega) (by omega) (by omega) (by omega)
      have a2 : 11 * 11 * 11 ≤ (-x) * (-x) * (-x) := Int.mul_le_mul a1 (by omega) (by omega) (by omega)
      have a3 : (-x) * (-x) * (-x) = -(x * x * x) := by grind
      omega
    · apply Int.le_of_not_gt
      intro g
      have a1 : 11 * 11 ≤ x * x := Int.mul_le_mul (by omega) (by omega) (by omega) (by omega)
      have a2 : 11 * 11 * 11 ≤ x * x * x := Int.mul_le_mul a1 (by omega) (by omega) (by omega)
      omega
  have ha := cube a h1.1 h1.2
  have hc := cube c h3.1 h3.2
  have hac : -100 ≤ a * c ∧ a * c ≤ 100 := by
    have h : (a * c).natAbs ≤ 10 * 10 := by
      rw [Int.natAbs_mul]
      exact Nat.mul_le_mul (by omega) (by omega)
    omega
  have e : 6 * a * b * c + b * b * b = b * (b * b + 6 * (a * c)) := by grind
  rw [e] at h2
  refine ⟨ha, hc, ?_, ?_⟩
  · apply Int.le_of_not_gt
    intro g
    have a1 : 29 * 29 ≤ (-b) * (-b) := Int.mul_le_mul (by omega) (by omega) (by omega) (by omega)
    have a3 : (-b) * (-b) = b * b := by grind
    have a4 : 29 * 241 ≤ (-b) * (b * b + 6 * (a * c)) := Int.mul_le_mul (by omega) (by omega) (by omega) (by omega)
    rw [Int.neg_mul] at a4
    omega
  · apply Int.le_of_not_gt
    intro g
    have a1 : 29 * 29 ≤ b * b := Int.mul_le_mul (by omega) (by omega) (by omega) (by omega)
    have a4 : 29 * 241 ≤ b * (b * b + 6 * (a * c)) := Int.mul_le_mul (by omega) (by omega) (by omega) (by omega)
    omega
theorem cvr (x y z : List Int) (h : Lf (cv x y) (x.length + y.length - 1) = z) (hy : y ≠ []) : conv x y = z := by
  rw [conv, if_neg hy, h]
theorem pw1_2 (a : Int) : pw [a] 2 = [a * a] := by
  simp only [pw, conv_one (h := [a]) (by simp)]
  refine cvr _ _ _ ?_ (by simp)
  simp [Lf, List.range_succ, cv]
theorem pw1_3 (a : Int) : pw [a] 3 = [a * a * a] := by
  rw [pw, pw1_2]
  refine cvr _ _ _ ?_ (by simp)
  simp [Lf, List.range_succ, cv]
theorem pw1_4 (a : Int) : pw [a] 4 = [a * a * a * a] := by
  rw [pw, pw1_3]
  refine cvr _ _ _ ?_ (by simp)
  simp [Lf, List.range_succ, cv]
theorem pw2_2 (a b : Int) : pw [a, b] 2 = [a * a, 2 * (a * b), b * b] := by
  simp only [pw, conv_one (h := [a, b]) (by simp)]
  refine cvr _ _ _ ?_ (by simp)
  simp [Lf, List.range_succ, cv]
  grind
theorem pw2_3 (a b : Int) : pw [a, b] 3 = [a * a * a, 3 * (a * a * b), 3 * (a * b * b), b * b * b] := by
  rw [pw, pw2_2]
  refine cvr _ _ _ ?_ (by simp)
  simp [Lf, List.range_succ, cv]
  grind
theorem pw2_4 (a b : Int) : pw [a, b] 4 = [a * a * a * a, 4 * (a * a * a * b), 6 * (a * a * b * b), 4 * (a * b * b * b), b * b * b * b] := by
  rw [pw, pw2_3]
  refine cvr _ _ _ ?_ (by simp)
  simp [Lf, List.range_succ, cv]
  grind
theorem pw3_2 (a b c : Int) : pw [a, b, c] 2 = [a * a, 2 * (a * b), b * b + 2 * (a * c), 2 * (b * c), c * c] := by
  simp only [pw, conv_one (h := [a, b, c]) (by simp)]
  refine cvr _ _ _ ?_ (by simp)
  simp [Lf, List.range_succ, cv]
  grind
theorem pw3_3 (a b c : Int) : pw [a, b, c] 3 = [a * a * a, 3 * (a * a * b), 3 * (a * a * c) + 3 * (a * b * b), 6 * a * b * c + b * b * b, 3 * (a * c * c) + 3 * (b * b * c), 3 * (b * c * c), c * c * c] := by
  rw [pw, pw3_2]
  refine cvr _ _ _ ?_ (by simp)
  simp [Lf, List.range_succ, cv]
  grind
theorem pw3_4 (a b c : Int) : ∃ y1 y3 y4 y5 y7, pw [a, b, c] 4 = [a * a * a * a, y1, 4 * (a * a * a * c) + 6 * (a * a * b * b), y3, y4, y5, 4 * (a * c * c * c) + 6 * (b * b * c * c), y7, c * c * c * c] ∧ y4 = b * b * b * b + 12 * (a * b * b * c) + 6 * (a * a * c * c) ∧ y3 = 4 * (a * b * b * b) + 12 * (a * a * b * c) ∧ y5 = 4 * (b * b * b * c) + 12 * (a * b * c * c) ∧ y1 = 4 * (a * a * a * b) ∧ y7 = 4 * (b * c * c * c) := by
  refine ⟨_, _, _, _, _, ?_, rfl, rfl, rfl, rfl, rfl⟩
  rw [pw, pw3_3]
  refine cvr _ _ _ ?_ (by simp)
  simp [Lf, List.range_succ, cv]
  grind
theorem fourth {x : Int} (h0 : x * x * x * x ≤ 1000) : -5 ≤ x ∧ x ≤ 5 := by
  refine ⟨?_, ?_⟩
  · apply Int.le_of_not_gt
    intro g
    have a1 : 6 * 6 ≤ (-x) * (-x) := Int.mul_le_mul (by omega) (by omega) (by omega) (by omega)
    have a2 : 6 * 6 * 6 ≤ (-x) * (-x) * (-x) := Int.mul_le_mul a1 (by omega) (by omega) (by omega)
    have a3 : 6 * 6 * 6 * 6 ≤ (-x) * (-x) * (-x) * (-x) := Int.mul_le_mul a2 (by omega) (by omega) (by omega)
    have a4 : (-x) * (-x) * (-x) * (-x) = x * x * x * x := by grind
    omega
  · apply Int.le_of_not_gt
    intro g
    have a1 : 6 * 6 ≤ x * x := Int.mul_le_mul (by omega) (by omega) (by omega) (by omega)
    have a2 : 6 * 6 * 6 ≤ x * x * x := Int.mul_le_mul a1 (by omega) (by omega) (by omega)
    have a3 : 6 * 6 * 6 * 6 ≤ x * x * x * x := Int.mul_le_mul a2 (by omega) (by omega) (by omega)
    omega
theorem mid13 {a b c : Int} (ha : -5 ≤ a ∧ a ≤ 5) (hc : -5 ≤ c ∧ c ≤ 5) (h0 : a ≠ 0) (h : 4 * (a * a * a * c) + 6 * (a * a * b * b) ≤ 1000) : -13 ≤ b ∧ b ≤ 13 := by
  have hb : b * b < 196 := by
    apply Int.lt_of_not_ge
    intro g
    have e1 : 4 * (a * a * a * c) + 6 * (a * a * b * b) = (a * a) * (4 * (a * c) + 6 * (b * b)) := by grind
    have hac : -25 ≤ a * c := by
      have h : (a * c).natAbs ≤ 5 * 5 := by
        rw [Int.natAbs_mul]
        exact Nat.mul_le_mul (by omega) (by omega)
      omega
    have haa : 1 ≤ a * a := by
      have : a * a ≠ 0 := Int.mul_ne_zero h0 h0
      have : 0 ≤ a * a := by
        rcases Int.le_total 0 a with g | g
        · exact Int.mul_nonneg g g
        · exact Int.mul_nonneg_of_nonpos_of_nonpos g g
      omega
    have := Int.mul_le_mul (a := 1) (b := 1076) (c := a * a) (d := 4 * (a * c) + 6 * (b * b)) haa (by omega) (by omega) (by omega)
    omega
  refine ⟨?_, ?_⟩
  · apply Int.le_of_not_gt
    intro g
    have a1 : 14 * 14 ≤ (-b) * (-b) := Int.mul_le_mul (by omega) (by omega) (by omega) (by omega)
    have a3 : (-b) * (-b) = b * b := by grind
    omega
  · apply Int.le_of_not_gt
    intro g
    have a1 : 14 * 14 ≤ b * b := Int.mul_le_mul (by omega) (by omega) (by omega) (by omega)
    omega
def okI (x : Int) : Bool := decide (x.natAbs ≤ 1000)
def fin34 (a b c : Int) : Bool :=
  !(okI (4 * (a * a * a * b)) && okI (4 * (a * a * a * c) + 6 * (a * a * b * b)) && okI (4 * (a * b * b * b) + 12 * (a * a * b * c)) && okI (b * b * b * b + 12 * (a * b * b * c) + 6 * (a * a * c * c)) && okI (4 * (b * b * b * c) + 12 * (a * b * c * c)) && okI (4 * (a * c * c * c) + 6 * (b * b * c * c)) && okI (4 * (b * c * c * c))) ||
  (okI (3 * (a * a * b)) && okI (3 * (a * a * c) + 3 * (a * b * b)) && okI (6 * a * b * c + b * b * b) && okI (3 * (a * c * c) + 3 * (b * b * c)) && okI (3 * (b * c * c)))
theorem fin_all : ((List.range 11).all fun a => (List.range 11).all fun c => (List.range 27).all fun b => fin34 ((a : Int) - 5) ((b : Int) - 13) ((c : Int) - 5)) = true := by decide +kernel
theorem fin_of {a b c : Int} (ha : -5 ≤ a ∧ a ≤ 5) (hc : -5 ≤ c ∧ c ≤ 5) (hb : -13 ≤ b ∧ b ≤ 13) : fin34 a b c = true := by
  have h := fin_all
  rw [List.all_eq_true] at h
  have h1 := h (a + 5).toNat (by simp; omega)
  rw [List.all_eq_true] at h1
  have h2 := h1 (c + 5).toNat (by simp; omega)
  rw [List.all_eq_true] at h2
  have h3 := h2 (b + 13).toNat (by simp; omega)
  rw [show (((a + 5).toNat : Nat) : Int) - 5 = a by omega, show (((c + 5).toNat : Nat) : Int) - 5 = c by omega, show (((b + 13).toNat : Nat) : Int) - 13 = b by omega] at h3
  exact h3
/-- what the program asks of a power's steps -/
def stepOkW (l : List Int) : Prop := l.length ≤ 9 ∧ ∀ x ∈ l, -1000000 ≤ x ∧ x ≤ 1000000
theorem okI_iff {x : Int} : okI x = true ↔ -1000 ≤ x ∧ x ≤ 1000 := by simp [okI]; omega
theorem m2 {x y A B : Int} (hx : -A ≤ x ∧ x ≤ A) (hy : -B ≤ y ∧ y ≤ B) (hA : 0 ≤ A) (hB : 0 ≤ B) : -(A * B) ≤ x * y ∧ x * y ≤ A * B := by
  have h : (x * y).natAbs ≤ A.toNat * B.toNat := by
    rw [Int.natAbs_mul]
    exact Nat.mul_le_mul (by omega) (by omega)
  have e : ((A.toNat * B.toNat : Nat) : Int) = A * B := by
    rw [Int.natCast_mul, Int.toNat_of_nonneg hA, Int.toNat_of_nonneg hB]
  omega
theorem cub5 {x : Int} (h : -5 ≤ x ∧ x ≤ 5) : -1000 ≤ x * x * x ∧ x * x * x ≤ 1000 := by
  have m1 := m2 (m2 h h (by omega) (by omega)) h (by omega) (by omega)
  omega
theorem pw_three {h : List Int} (hh : wts h = true) (hl : (pw h 3).length ≤ 9) (hk : wts (pw h 3) = true) : wts (pw h 2) = true := by
  have hne := wts_ne hh
  have l3 := pw_len hne 3
  rw [wts_iff] at hk
  match h, hh with
  | [a], _ =>
    rw [pw1_3] at hk
    rw [pw1_2, wts_iff]
    have := cubes (a := a) (b := 0) (c := 0) (by have := hk.2.2 (a * a * a) (by simp); omega) (by omega) (by omega)
    have m := m2 this.1 this.1 (by omega) (by omega)
    refine ⟨by simp, by simp, fun x hx => ?_⟩
    simp at hx
    subst hx
    omega
  | [a, b], _ =>
    rw [pw2_3] at hk
    rw [pw2_2, wts_iff]
    have h1 := hk.2.2 (a * a * a) (by simp)
    have h2 := hk.2.2 (b * b * b) (by simp)
    have := cubes (a := a) (b := 0) (c := b) (by omega) (by omega) (by omega)
    have m := m2 this.1 this.1 (by omega) (by omega)
    have m' := m2 this.1 this.2.1 (by omega) (by omega)
    have m'' := m2 this.2.1 this.2.1 (by omega) (by omega)
    refine ⟨by simp, by simp, fun x hx => ?_⟩
    simp at hx
    rcases hx with rfl | rfl | rfl <;> omega
  | [a, b, c], _ =>
    rw [pw3_3] at hk
    rw [pw3_2, wts_iff]
    have h1 := hk.2.2 (a * a * a) (by simp)
    have h2 := hk.2.2 (c * c * c) (by simp)
    have h3 := hk.2.2 (6 * a * b * c + b * b * b) (by simp)
    have := cubes (a := a) (b := b) (c := c) (by omega) (by omega) (by omega)
    have m1 := m2 this.1 this.1 (by omega) (by omega)
    have m2' := m2 this.1 this.2.1 (by omega) (by omega)
    have m3 := m2 this.2.1 this.2.1 (by omega) (by omega)
    have m4 := m2 this.1 this.2.2 (by omega) (by omega)
    have m5 := m2 this.2.2 this.2.1 (by omega) (by omega)
    have m6 := m2 this.2.2 this.2.2 (by omega) (by omega)
    refine ⟨by simp, by simp, fun x hx => ?_⟩
    simp at hx
    rcases hx with rfl | rfl | rfl | rfl | rfl <;> omega
  | a :: b :: c :: d :: t, _ =>
    simp at l3
    omega
theorem pw_four_1 {a : Int} (hk : 1 ≤ (pw [a] 4).length ∧ (pw [a] 4).length ≤ 9 ∧ ∀ x ∈ pw [a] 4, -1000 ≤ x ∧ x ≤ 1000) : wts (pw [a] 3) = true := by
  rw [pw1_4] at hk
  rw [pw1_3, wts_iff]
  have := fourth (x := a) (by have := hk.2.2 (a * a * a * a) (by simp); omega)
  have m := m2 (m2 this this (by omega) (by omega)) this (by omega) (by omega)
  refine ⟨by simp, by simp, fun x hx => ?_⟩
  simp at hx
  subst hx
  omega
theorem pw_four_2 {a b : Int} (hk : 1 ≤ (pw [a, b] 4).length ∧ (pw [a, b] 4).length ≤ 9 ∧ ∀ x ∈ pw [a, b] 4, -1000 ≤ x ∧ x ≤ 1000) : wts (pw [a, b] 3) = true := by
  rw [pw2_4] at hk
  rw [pw2_3, wts_iff]
  have ha := fourth (x := a) (by have := hk.2.2 (a * a * a * a) (by simp); omega)
  have hb := fourth (x := b) (by have := hk.2.2 (b * b * b * b) (by simp); omega)
  have m1 := m2 (m2 ha ha (by omega) (by omega)) ha (by omega) (by omega)
  have m2' := m2 (m2 ha ha (by omega) (by omega)) hb (by omega) (by omega)
  have m3 := m2 (m2 ha hb (by omega) (by omega)) hb (by omega) (by omega)
  have m4 := m2 (m2 hb hb (by omega) (by omega)) hb (by omega) (by omega)
  refine ⟨by simp, by simp, fun x hx => ?_⟩
  simp at hx
  rcases hx with rfl | rfl | rfl | rfl <;> omega
theorem pw_four_3 {a b c : Int} (hk : 1 ≤ (pw [a, b, c] 4).length ∧ (pw [a, b, c] 4).length ≤ 9 ∧ ∀ x ∈ pw [a, b, c] 4, -1000 ≤ x ∧ x ≤ 1000) : wts (pw [a, b, c] 3) = true := by
  obtain ⟨y1, y3, y4, y5, y7, e, e4, e3, e5, e1, e7⟩ := pw3_4 a b c
  rw [e] at hk
  rw [pw3_3, wts_iff]
  have ha := fourth (x := a) (by have := hk.2.2 (a * a * a * a) (by simp); omega)
  have hc := fourth (x := c) (by have := hk.2.2 (c * c * c * c) (by simp); omega)
  have h1 := hk.2.2 y1 (by simp)
  have h2 := hk.2.2 (4 * (a * a * a * c) + 6 * (a * a * b * b)) (by simp)
  have h3 := hk.2.2 y3 (by simp)
  have h4 := hk.2.2 y4 (by simp)
  have h5 := hk.2.2 y5 (by simp)
  have h6 := hk.2.2 (4 * (a * c * c * c) + 6 * (b * b * c * c)) (by simp)
  have h7 := hk.2.2 y7 (by simp)
  have hb : -13 ≤ b ∧ b ≤ 13 := by
    by_cases a0 : a = 0
    · by_cases c0 : c = 0
      · have : b * b * b * b ≤ 1000 := by
          rw [e4, a0, c0] at h4
          simp at h4
          omega
        have := fourth this
        omega
      · have e' : 4 * (a * c * c * c) + 6 * (b * b * c * c) = 4 * (c * c * c * a) + 6 * (c * c * b * b) := by grind
        exact mid13 hc ha c0 (by omega)
    · exact mid13 ha hc a0 h2.2
  have f := fin_of ha hc hb
  unfold fin34 at f
  rw [e1] at h1; rw [e3] at h3; rw [e4] at h4; rw [e5] at h5; rw [e7] at h7
  rw [okI_iff.2 h1, okI_iff.2 h2, okI_iff.2 h3, okI_iff.2 h4, okI_iff.2 h5, okI_iff.2 h6, okI_iff.2 h7] at f
  simp only [Bool.and_self, Bool.not_true, Bool.false_or, Bool.and_eq_true, okI_iff] at f
  obtain ⟨⟨⟨⟨f1, f2⟩, f3⟩, f4⟩, f5⟩ := f
  have g1 := cub5 ha
  have g2 := cub5 hc
  clear h1 h2 h3 h4 h5 h6 h7 hk e1 e3 e4 e5 e7 e
  refine ⟨by simp, by simp, fun x hx => ?_⟩
  simp only [List.mem_cons, List.not_mem_nil, or_false] at hx
  rcases hx with rfl | rfl | rfl | rfl | rfl | rfl | rfl <;> assumption
theorem pw_four {h : List Int} (hh : wts h = true) (hl : (pw h 4).length ≤ 9) (hk : wts (pw h 4) = true) : wts (pw h 3) = true := by
  have hne := wts_ne hh
  have l4 := pw_len hne 4
  rw [wts_iff] at hk
  rcases h with _ | ⟨a, _ | ⟨b, _ | ⟨c, _ | ⟨d, t⟩⟩⟩⟩
  · exact absurd rfl hne
  · exact pw_four_1 hk
  · exact pw_four_2 hk
  · exact pw_four_3 hk
  · simp only [List.length_cons] at l4
    omega
theorem pw_small : ([-1, 0, 1].all fun c => (List.range 9).all fun j => wts (pw [1, c] j)) = true := by decide +kernel
theorem pw_all {h : List Int} {k : Nat} (hh : wts h = true) (hk : k ≤ 4 ∨ k ≤ 8 ∧ ∃ c, (c = -1 ∨ c = 0 ∨ c = 1) ∧ h = [1, c]) (hw : wts (pw h k) = true) : ∀ j, j ≤ k → wts (pw h j) = true := by
  intro j hj
  rcases hk with hk | ⟨hk, c, hc, rfl⟩
  · have w0 : wts (pw h 0) = true := by
      show wts [1] = true
      decide
    have w1 : wts (pw h 1) = true := by
      show wts (conv [1] h) = true
      rw [conv_one (wts_ne hh)]
      exact hh
    have hl := (wts_iff.1 hw).2.1
    have hk' : k = 0 ∨ k = 1 ∨ k = 2 ∨ k = 3 ∨ k = 4 := by omega
    have hj' : j = 0 ∨ j = 1 ∨ j = 2 ∨ j = 3 ∨ j = 4 := by omega
    rcases hk' with rfl | rfl | rfl | rfl | rfl
    · obtain rfl : j = 0 := by omega
      exact w0
    · rcases hj' with rfl | rfl | rfl | rfl | rfl <;> first | assumption | omega
    · rcases hj' with rfl | rfl | rfl | rfl | rfl <;> first | assumption | omega
    · have w2 := pw_three hh hl hw
      rcases hj' with rfl | rfl | rfl | rfl | rfl <;> first | assumption | omega
    · have w3 := pw_four hh hl hw
      have w2 := pw_three hh (wts_iff.1 w3).2.1 w3
      rcases hj' with rfl | rfl | rfl | rfl | rfl <;> first | assumption | omega
  · have h := pw_small
    rw [List.all_eq_true] at h
    have h1 := h c (by simp; omega)
    rw [List.all_eq_true] at h1
    exact h1 j (by simp; omega)

def szS : List Int → Int
  | [] => 0
  | x :: h => (x.natAbs : Int) + szS h
theorem szS_app : ∀ (p t : List Int), szS (p ++ t) = szS p + szS t
  | [], t => by simp [szS]
  | x :: p, t => by
    rw [List.cons_append, szS, szS, szS_app p t]
    omega
theorem szS_bd : ∀ l : List Int, (∀ x ∈ l, -1000 ≤ x ∧ x ≤ 1000) → 0 ≤ szS l ∧ szS l ≤ 1000 * l.length
  | [], _ => by simp [szS]
  | x :: t, h => by
    have h1 := h x (by simp)
    have h2 := szS_bd t (fun y hy => h y (by simp [hy]))
    simp only [szS, List.length_cons]
    omega

def sizeM (h : List Int) : Int × Bool := if wts h = true then (szS h, true) else (0, false)
theorem impl_SizeGain_l0 (l : List Int) (hl : l.length ≤ 9) (hb : ∀ x ∈ l, -1000 ≤ x ∧ x ≤ 1000) : ∀ (t p : List Int), l = p ++ t → Ev (fun k => impl_SizeGain.l0 k (szS p) l (l.length : Int) (p.length : Int)) (szS l, true)
  | [], p, h => by
    refine Ev.to (Ev.step (f := fun _ => some (szS p, true)) (fun k => ?_) (Ev.now _)) (by rw [h]; simp)
    subst h
    simp [impl_SizeGain.l0]
  | x :: t, p, h => by
    have e1 : (p.length : Int) < (l.length : Int) := by rw [h]; exact lt_mid p t x
    have e2 : rd l (p.length : Int) = x := by rw [h]; exact rd_mid p t x
    have e3 : wrap64 ((p.length : Int) + 1) = ((p ++ [x]).length : Int) := nx_mid p t x (by rw [← h]; omega)
    have hx := hb x (by rw [h]; simp)
    have hpl : p.length ≤ 9 := by rw [h] at hl; simp at hl; omega
    have hp := szS_bd p (fun y hy => hb y (by rw [h]; simp [hy]))
    have e4 : wrap64 (szS p + (x.natAbs : Int)) = szS (p ++ [x]) := by
      rw [w64 (n := szS p + (x.natAbs : Int)) (by omega) (by omega), szS_app]
      simp [szS]
    refine Ev.step (fun k => ?_) (impl_SizeGain_l0 l hl hb t (p ++ [x]) (by simp [h]))
    simp only [impl_SizeGain.l0, if_pos e1, if_pos (Int.natCast_nonneg _), e2, e3, impl_size_eq x (by omega), Option.bind_some, e4]
theorem impl_SizeGain_ev (h : List Int) (hl : h.length ≤ 1000000) : Ev (fun k => impl_SizeGain.f k h) (sizeM h) := by
  simp only [impl_SizeGain.f, sizeM]
  refine Ev.bind (impl_isWeights_ev h (by omega)) ?_
  by_cases c : wts h = true
  · rw [if_pos c]
    exact Ev.tt c (impl_SizeGain_l0 h (wts_len c).2 (wts_mem c) h [] rfl)
  · rw [if_neg c]
    exact Ev.ff c (Ev.now _)

def gainM (h : List Int) : Int × Bool := if wts h = true then (sm h, true) else (0, false)
theorem impl_GainOf_ev (h : List Int) (hl : h.length ≤ 1000000) : Ev (fun k => impl_GainOf.f k h) (gainM h) := by
  simp only [impl_GainOf.f, gainM]
  refine Ev.bind (impl_isWeights_ev h (by omega)) ?_
  by_cases c : wts h = true
  · rw [if_pos c]
    exact Ev.tt c (Ev.bind (impl_sum_ev h (by omega) (fun x hx => by have := wts_mem c x hx; omega)) (Ev.now _))
  · rw [if_neg c]
    exact Ev.ff c (Ev.now _)

def peakOfM (s : List Int) : Int × Bool := if sig s = true then ((peakM s 0 : Int), true) else (0, false)
theorem impl_PeakOf_ev (s : List Int) (hl : s.length ≤ 1000000) : Ev (fun k => impl_PeakOf.f k s) (peakOfM s) := by
  simp only [impl_PeakOf.f, peakOfM]
  refine Ev.bind (impl_isSignal_ev s (by omega)) ?_
  by_cases c : sig s = true
  · rw [if_pos c]
    exact Ev.tt c (Ev.bind (impl_peak_ev s (by omega) (fun x hx => by have := sig_mem c x hx; omega)) (Ev.now _))
  · rw [if_neg c]
    exact Ev.ff c (Ev.now _)

def delayM (s : List Int) (d : Int) : List Int × Bool := if sig s = true ∧ 0 ≤ d ∧ d ≤ 64 then toldM (List.replicate d.toNat 0 ++ s) else ([], false)
theorem impl_DelaySignal_ev (s : List Int) (d : Int) (hl : s.length ≤ 1000000) : Ev (fun k => impl_DelaySignal.f k s d) (delayM s d) := by
  simp only [impl_DelaySignal.f, delayM]
  refine Ev.bind (impl_isSignal_ev s (by omega)) ?_
  by_cases c : sig s = true
  · refine Ev.tt c (Ev.dbind (impl_in_eq _ _ _) ?_)
    by_cases e : 0 ≤ d ∧ d ≤ 64
    · rw [if_pos ⟨c, e⟩]
      refine Ev.tt (by simp [e.1, e.2]) (Ev.tt e.1 (Ev.tt (by omega) (Ev.dbind rfl (Ev.tt (by simp; omega) ?_))))
      exact Ev.bind (impl_told_ev _ (by simp; omega)) (Ev.now _)
    · rw [if_neg (fun h => e h.2)]
      exact Ev.ff (by simp; omega) (Ev.now _)
  · rw [if_neg (fun h => c h.1)]
    exact Ev.ff c (Ev.now _)

def weighM (h : List Int) : List Int × Bool := if wts h = true then (h, true) else ([], false)
theorem impl_weighed_ev (h : List Int) (hl : h.length ≤ 1000000) : Ev (fun k => impl_weighed.f k h) (weighM h) := by
  simp only [impl_weighed.f, weighM]
  refine Ev.bind (impl_isWeights_ev h (by omega)) ?_
  by_cases c : wts h = true
  · exact Ev.tt c (Ev.to (Ev.now _) (by rw [if_pos c]))
  · exact Ev.ff c (Ev.to (Ev.now _) (by rw [if_neg c]))

theorem spec_weIf_ev (h : List Int) (hl : h.length ≤ 1000000) : Ev (fun k => spec_weIf.f k h) (weighM h) := by
  simp only [spec_weIf.f, weighM]
  refine Ev.bind (spec_weGood_ev h (by omega)) ?_
  by_cases c : wts h = true
  · exact Ev.tt c (Ev.to (Ev.now _) (by rw [if_pos c]))
  · exact Ev.ff c (Ev.to (Ev.now _) (by rw [if_neg c]))

theorem wt_prod {h s : List Int} {A B : Int} (hA : 0 ≤ A) (hB : 0 ≤ B) (hh : ∀ a ∈ h, -A ≤ a ∧ a ≤ A) (hs : ∀ x ∈ s, -B ≤ x ∧ x ≤ B) : ∀ a ∈ h, ∀ x ∈ s, -(A * B) ≤ a * x ∧ a * x ≤ A * B := by
  intro a ha x hx
  have h1 := hh a ha
  have h2 := hs x hx
  have h : (a * x).natAbs ≤ A.toNat * B.toNat := by
    rw [Int.natAbs_mul]
    exact Nat.mul_le_mul (by omega) (by omega)
  have e : ((A.toNat * B.toNat : Nat) : Int) = A * B := by
    rw [Int.natCast_mul, Int.toNat_of_nonneg hA, Int.toNat_of_nonneg hB]
  omega
theorem conv_len_le (h s : List Int) : (conv h s).length ≤ h.length + s.length := by
  by_cases c : s = []
  · rw [conv, if_pos c]; simp
  · rw [conv_length h s c]; omega

theorem spec_weAsked_ev (h s : List Int) (hh : h.length ≤ 1000000) (hs : s.length ≤ 1000000) : Ev (fun k => spec_weAsked.f k h s) (wts h && sig s) := by
  simp only [spec_weAsked.f]
  refine Ev.bind (spec_weGood_ev h (by omega)) ?_
  by_cases c : wts h = true
  · rw [c]
    exact Ev.tt rfl (Ev.bind (spec_wdSignal_ev s (by omega)) (Ev.now _))
  · rw [Bool.eq_false_iff.mpr c]
    exact Ev.ff (by decide) (Ev.now _)

def filtM (h s : List Int) : List Int × Bool := if (wts h && sig s) = true then toldM (conv h s) else ([], false)
theorem filt_ans {h s : List Int} (c : (wts h && sig s) = true) : Ev (fun k => impl_answer.f k h s) (conv h s) := by
  simp only [Bool.and_eq_true] at c
  have h1 := wts_len c.1
  have h2 := sig_len c.2
  exact impl_answer_ev h s (1000 * 100000) (by omega) (by omega) (by omega) (wt_prod (by omega) (by omega) (wts_mem c.1) (sig_mem c.2)) (by omega)
theorem filt_len {h s : List Int} (c : (wts h && sig s) = true) : (conv h s).length ≤ 73 := by
  simp only [Bool.and_eq_true] at c
  have h1 := wts_len c.1
  have h2 := sig_len c.2
  have := conv_len_le h s
  omega
theorem conv_ge {h s : List Int} (c : wts h = true) : s.length ≤ (conv h s).length := by
  by_cases e : s = []
  · rw [e]; simp
  · have := wts_len c
    rw [conv_length h s e]
    omega

theorem impl_FilterSignal_ev (h s : List Int) (hh : h.length ≤ 1000000) (hs : s.length ≤ 1000000) : Ev (fun k => impl_FilterSignal.f k h s) (filtM h s) := by
  simp only [impl_FilterSignal.f]
  refine Ev.bind (impl_isWeights_ev h (by omega)) ?_
  by_cases c : wts h = true
  · refine Ev.tt c (Ev.bind (impl_isSignal_ev s (by omega)) ?_)
    by_cases d : sig s = true
    · have cd : (wts h && sig s) = true := by rw [c, d]; rfl
      rw [d, filtM, if_pos cd]
      have := filt_len cd
      exact Ev.step (fun k => by simp only [impl_FilterSignal.j0]; rfl) (Ev.ff (by decide) (Ev.bind (filt_ans cd) (Ev.bind (impl_told_ev (conv h s) (by omega)) (Ev.now _))))
    · rw [Bool.eq_false_iff.mpr d, filtM, Bool.eq_false_iff.mpr d, Bool.and_false, if_neg (by decide)]
      exact Ev.step (fun k => by simp only [impl_FilterSignal.j0]; rfl) (Ev.tt (by decide) (Ev.now _))
  · rw [filtM, Bool.eq_false_iff.mpr c, Bool.false_and, if_neg (by decide)]
    refine Ev.ff (by decide) ?_
    exact Ev.step (fun k => by simp only [impl_FilterSignal.j0]; rfl) (Ev.tt (by decide) (Ev.now _))

def shortM (h s : List Int) : List Int × Bool := if (wts h && sig s) = true then toldM ((conv h s).take s.length) else ([], false)

theorem impl_FilterShort_ev (h s : List Int) (hh : h.length ≤ 1000000) (hs : s.length ≤ 1000000) : Ev (fun k => impl_FilterShort.f k h s) (shortM h s) := by
  simp only [impl_FilterShort.f]
  refine Ev.bind (impl_isWeights_ev h (by omega)) ?_
  by_cases c : wts h = true
  · refine Ev.tt c (Ev.bind (impl_isSignal_ev s (by omega)) ?_)
    by_cases d : sig s = true
    · have cd : (wts h && sig s) = true := by rw [c, d]; rfl
      rw [d, shortM, if_pos cd]
      have := filt_len cd
      have hg := conv_ge (s := s) c
      refine Ev.step (fun k => by simp only [impl_FilterShort.j0]; rfl) (Ev.ff (by decide) (Ev.bind (filt_ans cd) (Ev.tt (Int.natCast_nonneg _) (Ev.tt (Int.ofNat_le.2 hg) ?_))))
      rw [Int.toNat_natCast]
      exact Ev.bind (impl_told_ev _ (by rw [List.length_take]; omega)) (Ev.now _)
    · rw [Bool.eq_false_iff.mpr d, shortM, Bool.eq_false_iff.mpr d, Bool.and_false, if_neg (by decide)]
      exact Ev.step (fun k => by simp only [impl_FilterShort.j0]; rfl) (Ev.tt (by decide) (Ev.now _))
  · rw [shortM, Bool.eq_false_iff.mpr c, Bool.false_and, if_neg (by decide)]
    refine Ev.ff (by decide) ?_
    exact Ev.step (fun k => by simp only [impl_FilterShort.j0]; rfl) (Ev.tt (by decide) (Ev.now _))

theorem spec_l1Own_eq (l : List Int) (hl : l.length ≤ 1000000) : spec_l1Own.f l = some l := by
  simp only [spec_l1Own.f, Option.bind_some]
  rw [if_pos (by simp; omega)]
  rfl

theorem filt_sans {h s : List Int} (c : (wts h && sig s) = true) : Ev (fun k => spec_weAnswer.f k h s) (conv h s) := by
  simp only [Bool.and_eq_true] at c
  have h1 := wts_len c.1
  have h2 := sig_len c.2
  exact spec_weAnswer_ev h s (1000 * 100000) (by omega) (by omega) (by omega) (wt_prod (by omega) (by omega) (wts_mem c.1) (sig_mem c.2)) (by omega)

theorem spec_FilterSignal_ev (h s : List Int) (hh : h.length ≤ 1000000) (hs : s.length ≤ 1000000) : Ev (fun k => spec_FilterSignal.f k h s) (filtM h s) := by
  simp only [spec_FilterSignal.f]
  refine Ev.bind (spec_weAsked_ev h s hh hs) ?_
  by_cases cd : (wts h && sig s) = true
  · rw [filtM, if_pos cd]
    have := filt_len cd
    exact Ev.tt cd (Ev.bind (filt_sans cd) (Ev.bind (spec_wdIf_ev _ (by omega)) (Ev.now _)))
  · rw [filtM, if_neg cd]
    exact Ev.ff cd (Ev.now _)

theorem spec_FilterShort_ev (h s : List Int) (hh : h.length ≤ 1000000) (hs : s.length ≤ 1000000) : Ev (fun k => spec_FilterShort.f k h s) (shortM h s) := by
  simp only [spec_FilterShort.f]
  refine Ev.bind (spec_weAsked_ev h s hh hs) ?_
  by_cases cd : (wts h && sig s) = true
  · rw [shortM, if_pos cd]
    have := filt_len cd
    have hg := conv_ge (h := h) (s := s) (by simp only [Bool.and_eq_true] at cd; exact cd.1)
    refine Ev.tt cd (Ev.bind (filt_sans cd) (Ev.tt (Int.natCast_nonneg _) (Ev.tt (by omega) ?_)))
    rw [Int.toNat_natCast]
    exact Ev.dbind (spec_l1Own_eq _ (by rw [List.length_take]; omega)) (Ev.bind (spec_wdIf_ev _ (by rw [List.length_take]; omega)) (Ev.now _))
  · rw [shortM, if_neg cd]
    exact Ev.ff cd (Ev.now _)

def timesM (a b : List Int) : List Int × Bool := if (wts a && wts b) = true then weighM (conv a b) else ([], false)
theorem times_ans {a b : List Int} (c : (wts a && wts b) = true) : Ev (fun k => impl_answer.f k a b) (conv a b) ∧ (conv a b).length ≤ 18 := by
  simp only [Bool.and_eq_true] at c
  have h1 := wts_len c.1
  have h2 := wts_len c.2
  have h3 := conv_len_le a b
  exact ⟨impl_answer_ev a b (1000 * 1000) (by omega) (by omega) (by omega) (wt_prod (by omega) (by omega) (wts_mem c.1) (wts_mem c.2)) (by omega), by omega⟩
theorem impl_TimesWeights_ev (a b : List Int) (ha : a.length ≤ 1000000) (hb : b.length ≤ 1000000) : Ev (fun k => impl_TimesWeights.f k a b) (timesM a b) := by
  simp only [impl_TimesWeights.f]
  refine Ev.bind (impl_isWeights_ev a (by omega)) ?_
  by_cases c : wts a = true
  · refine Ev.tt c (Ev.bind (impl_isWeights_ev b (by omega)) ?_)
    by_cases d : wts b = true
    · have cd : (wts a && wts b) = true := by rw [c, d]; rfl
      rw [d, timesM, if_pos cd]
      have := times_ans cd
      exact Ev.step (fun k => by simp only [impl_TimesWeights.j0]; rfl) (Ev.ff (by decide) (Ev.bind this.1 (Ev.bind (impl_weighed_ev (conv a b) (by omega)) (Ev.now _))))
    · rw [Bool.eq_false_iff.mpr d, timesM, Bool.eq_false_iff.mpr d, Bool.and_false, if_neg (by decide)]
      exact Ev.step (fun k => by simp only [impl_TimesWeights.j0]; rfl) (Ev.tt (by decide) (Ev.now _))
  · rw [timesM, Bool.eq_false_iff.mpr c, Bool.false_and, if_neg (by decide)]
    refine Ev.ff (by decide) ?_
    exact Ev.step (fun k => by simp only [impl_TimesWeights.j0]; rfl) (Ev.tt (by decide) (Ev.now _))

theorem spec_TimesWeights_ev (a b : List Int) (ha : a.length ≤ 1000000) (hb : b.length ≤ 1000000) : Ev (fun k => spec_TimesWeights.f k a b) (timesM a b) := by
  simp only [spec_TimesWeights.f]
  refine Ev.bind (spec_weGood_ev a (by omega)) ?_
  by_cases c : wts a = true
  · refine Ev.tt c (Ev.bind (spec_weGood_ev b (by omega)) ?_)
    by_cases d : wts b = true
    · have cd : (wts a && wts b) = true := by rw [c, d]; rfl
      rw [d, timesM, if_pos cd]
      have hl := (times_ans cd).2
      have h1 := wts_len c
      have h2 := wts_len d
      exact Ev.step (fun k => by simp only [spec_TimesWeights.j0]; rfl) (Ev.ff (by decide) (Ev.bind (spec_weAnswer_ev a b (1000 * 1000) (by omega) (by omega) (by omega) (wt_prod (by omega) (by omega) (wts_mem c) (wts_mem d)) (by omega)) (Ev.bind (spec_weIf_ev (conv a b) (by omega)) (Ev.now _))))
    · rw [Bool.eq_false_iff.mpr d, timesM, Bool.eq_false_iff.mpr d, Bool.and_false, if_neg (by decide)]
      exact Ev.step (fun k => by simp only [spec_TimesWeights.j0]; rfl) (Ev.tt (by decide) (Ev.now _))
  · rw [timesM, Bool.eq_false_iff.mpr c, Bool.false_and, if_neg (by decide)]
    refine Ev.ff (by decide) ?_
    exact Ev.step (fun k => by simp only [spec_TimesWeights.j0]; rfl) (Ev.tt (by decide) (Ev.now _))

def halfM (h : List Int) : Int × Bool := if wts h = true then (evz (-1) h, true) else (0, false)
theorem evz_bd : ∀ l : List Int, (∀ x ∈ l, -1000 ≤ x ∧ x ≤ 1000) → -(1000 * l.length) ≤ evz (-1) l ∧ evz (-1) l ≤ 1000 * l.length
  | [], _ => by simp [evz]
  | x :: t, h => by
    have h1 := h x (by simp)
    have h2 := evz_bd t (fun y hy => h y (by simp [hy]))
    simp only [evz, List.length_cons]
    omega
theorem impl_GainAtHalf_l0 (l : List Int) (hl : l.length ≤ 9) (hb : ∀ x ∈ l, -1000 ≤ x ∧ x ≤ 1000) : ∀ (t p : List Int) (o g : Int), l = p ++ t → (g = 1 ∨ g = -1) → -(1000 * p.length) ≤ o → o ≤ 1000 * p.length → Ev (fun k => impl_GainAtHalf.l0 k o g l (l.length : Int) (p.length : Int)) (o + g * evz (-1) t, true)
  | [], p, o, g, h, hg, h0, h1 => by
    refine Ev.to (Ev.step (f := fun _ => some (o, true)) (fun k => ?_) (Ev.now _)) (by simp [evz])
    subst h
    simp [impl_GainAtHalf.l0]
  | x :: t, p, o, g, h, hg, h0, h1 => by
    have e1 : (p.length : Int) < (l.length : Int) := by rw [h]; exact lt_mid p t x
    have e2 : rd l (p.length : Int) = x := by rw [h]; exact rd_mid p t x
    have e3 : wrap64 ((p.length : Int) + 1) = ((p ++ [x]).length : Int) := nx_mid p t x (by rw [← h]; omega)
    have hx := hb x (by rw [h]; simp)
    have hpl : p.length ≤ 9 := by rw [h] at hl; simp at hl; omega
    have hgx : g * x = x ∨ g * x = -x := by
      rcases hg with rfl | rfl
      · left; omega
      · right; omega
    have e4 : wrap64 (g * x) = g * x := w64 (by omega) (by omega)
    have e5 : wrap64 (o + g * x) = o + g * x := w64 (by omega) (by omega)
    have e6 : wrap64 (-g) = -g := w64 (by omega) (by omega)
    have hlen : ((p ++ [x]).length : Int) = (p.length : Int) + 1 := by simp
    refine Ev.to (Ev.step (fun k => ?_) (impl_GainAtHalf_l0 l hl hb t (p ++ [x]) (o + g * x) (-g) (by simp [h]) (by omega) (by rw [hlen]; omega) (by rw [hlen]; omega))) (by simp only [evz]; congr 1; grind)
    simp only [impl_GainAtHalf.l0, if_pos e1, if_pos (Int.natCast_nonneg _), e2, e3, e4, e5, e6]
theorem impl_GainAtHalf_ev (h : List Int) (hl : h.length ≤ 1000000) : Ev (fun k => impl_GainAtHalf.f k h) (halfM h) := by
  simp only [impl_GainAtHalf.f, halfM]
  refine Ev.bind (impl_isWeights_ev h (by omega)) ?_
  by_cases c : wts h = true
  · rw [if_pos c]
    have h0 := impl_GainAtHalf_l0 h (wts_len c).2 (wts_mem c) h [] 0 1 rfl (.inl rfl) (by simp) (by simp)
    exact Ev.tt c (Ev.to h0 (by simp))
  · rw [if_neg c]
    exact Ev.ff c (Ev.now _)

theorem spec_weBack_ev (l : List Int) (hl : l.length ≤ 1000) : ∃ r, Ev (fun k => spec_weBack.f k l) r ∧ r.length = l.length ∧ ∀ x ∈ r, x ∈ l := by
  have key : ∀ (n : Nat) (q : List Int), n ≤ l.length → q.length + n ≤ 1000 → (∀ x ∈ q, x ∈ l) → ∃ r, Ev (fun k => spec_weBack.l0 k l q ((n : Int) - 1)) r ∧ r.length = q.length + n ∧ ∀ x ∈ r, x ∈ l := by
    intro n
    induction n with
    | zero =>
      intro q h h2 hq
      refine ⟨q, Ev.step (f := fun _ => some q) (fun k => ?_) (Ev.now _), by omega, hq⟩
      simp [spec_weBack.l0]
    | succ n ih =>
      intro q h h2 hq
      have hm : rd l (n : Int) ∈ l := by
        rw [rd_getD, List.getD_eq_getElem?_getD, List.getElem?_eq_getElem (by omega)]
        exact List.getElem_mem (by omega)
      obtain ⟨r, hr, hrl, hrm⟩ := ih (q ++ [rd l (n : Int)]) (by omega) (by simp; omega) (fun x hx => by
        rcases List.mem_append.1 hx with hx | hx
        · exact hq x hx
        · simp at hx
          rw [hx]
          exact hm)
      refine ⟨r, Ev.step (fun k => by simp only [spec_weBack.l0]; rfl) ?_, by simp at hrl; omega, hrm⟩
      have e : ((n + 1 : Nat) : Int) - 1 = (n : Int) := by omega
      rw [e, w64 (n := (n : Int) - 1) (by omega) (by omega)]
      exact Ev.tt (by omega) (Ev.tt (by omega) (Ev.tt (by omega) (Ev.tt (by omega) hr)))
  obtain ⟨r, hr, hrl, hrm⟩ := key l.length [] (Nat.le_refl _) (by simp; omega) (fun x hx => by simp at hx)
  refine ⟨r, ?_, by simpa using hrl, hrm⟩
  simp only [spec_weBack.f]
  rw [w64 (n := (l.length : Int) - 1) (by omega) (by omega)]
  exact hr
theorem spec_wdScale_ex (l : List Int) (c : Int) (hl : l.length ≤ 1000) : ∃ r, Ev (fun k => spec_wdScale.f k l c) r ∧ r.length = l.length := by
  have key : ∀ (t p q : List Int), l = p ++ t → q.length = p.length → ∃ r, Ev (fun k => spec_wdScale.l0 k c q l (l.length : Int) (p.length : Int)) r ∧ r.length = l.length := by
    intro t
    induction t with
    | nil =>
      intro p q h hq
      refine ⟨q, Ev.step (f := fun _ => some q) (fun k => ?_) (Ev.now _), by rw [h]; simp [hq]⟩
      subst h
      simp [spec_wdScale.l0]
    | cons x t ih =>
      intro p q h hq
      have e1 : (p.length : Int) < (l.length : Int) := by rw [h]; exact lt_mid p t x
      have e3 : wrap64 ((p.length : Int) + 1) = ((p ++ [x]).length : Int) := nx_mid p t x (by rw [← h]; omega)
      obtain ⟨r, hr, hrl⟩ := ih (p ++ [x]) (q ++ [wrap64 (c * rd l (p.length : Int))]) (by simp [h]) (by simp [hq])
      refine ⟨r, Ev.step (fun k => by simp only [spec_wdScale.l0]; rfl) ?_, hrl⟩
      rw [e3]
      exact Ev.tt e1 (Ev.tt (Int.natCast_nonneg _) (Ev.tt e1 (Ev.tt (by omega) hr)))
  obtain ⟨r, hr, hrl⟩ := key l [] [] rfl rfl
  refine ⟨r, ?_, hrl⟩
  simp only [spec_wdScale.f]
  exact hr
theorem weights_l0 {l : List Int} (hl : Bytes l) : ∀ (n : Nat) (q : List Int) (a sd : Int), q.length + n ≤ 100 → 0 ≤ a → a + 10 * n ≤ 100000000000 → ∃ s a' sd', Ev (fun k => spec_l1Cur_weights.l0 k q (n : Int) l a sd) (s, a', sd') ∧ s.length ≤ 300 ∧ a ≤ a' ∧ a' ≤ a + 10 * n + 10
  | 0, q, a, sd, hq, h0, h1 => by
    obtain ⟨u, a1, sd1, e1, ha1, hb1, -⟩ := pick_ok hl a sd 16 h0 (by omega) (by omega)
    have wrapv : ∀ {r : List Int × Int × Int}, r.1.length ≤ 300 → a ≤ r.2.1 → r.2.1 ≤ a + 10 → Ev (fun k => spec_l1Cur_weights.l0 k q ((0 : Nat) : Int) l a sd) r → ∃ s a' sd', Ev (fun k => spec_l1Cur_weights.l0 k q ((0 : Nat) : Int) l a sd) (s, a', sd') ∧ s.length ≤ 300 ∧ a ≤ a' ∧ a' ≤ a + 10 * ((0 : Nat) : Int) + 10 := fun {r} g1 g2 g3 h => ⟨r.1, r.2.1, r.2.2, h, g1, g2, by simpa using g3⟩
    by_cases c0 : u = 0
    · obtain ⟨v, a2, sd2, e2, ha2, hb2, -⟩ := one_ok hl a1 sd1 2 (by omega) (by omega) (by omega)
      by_cases d : v = true
      · refine wrapv (r := (q, a2, sd2)) (by simp; omega) (by simp; omega) (by simp; omega) (Ev.step (fun k => by simp only [spec_l1Cur_weights.l0, spec_l1Cur_among2.f, e1, e2, Option.bind_some, if_pos c0, if_pos d]; rfl) ?_)
        exact Ev.ff (by omega) (Ev.now _)
      · refine wrapv (r := ([], a2, sd2)) (by simp) (by simp; omega) (by simp; omega) (Ev.step (fun k => by simp only [spec_l1Cur_weights.l0, spec_l1Cur_among2.f, e1, e2, Option.bind_some, if_pos c0, if_neg d]; rfl) ?_)
        exact Ev.ff (by omega) (Ev.now _)
    by_cases c1 : u = 1
    · obtain ⟨v, a2, sd2, e2, ha2, hb2, -⟩ := among_ok hl a1 sd1 [1000, (-1000), 1001, 4611686018427387904] (by omega) (by omega) (by simp) (by simp)
      refine wrapv (r := (q ++ [v], a2, sd2)) (by simp; omega) (by simp; omega) (by simp; omega) (Ev.step (fun k => by simp only [spec_l1Cur_weights.l0, e1, e2, Option.bind_some, if_neg c0, if_pos c1]; rfl) ?_)
      exact Ev.ff (by omega) (Ev.tt (by omega) (Ev.now _))
    by_cases c2 : u = 2
    · obtain ⟨v, a2, sd2, e2, ha2, hb2, hv, hv2⟩ := pick_ok hl a1 sd1 2 (by omega) (by omega) (by omega)
      have e3 : wrap64 (9 + v) = 9 + v := w64 (by omega) (by omega)
      refine wrapv (r := (List.replicate (9 + v).toNat 0, a2, sd2)) (by simp; omega) (by simp; omega) (by simp; omega) (Ev.step (fun k => by simp only [spec_l1Cur_weights.l0, e1, e2, e3, Option.bind_some, if_neg c0, if_neg c1, if_pos c2]; rfl) ?_)
      exact Ev.ff (by omega) (Ev.tt (by omega) (Ev.tt (by omega) (Ev.now _)))
    by_cases c3 : u = 3
    · obtain ⟨r, hr, hrl, -⟩ := spec_weBack_ev q (by omega)
      refine wrapv (r := (r ++ q, a1, sd1)) (by simp; omega) (by simp; omega) (by simp; omega) (Ev.step (fun k => by simp only [spec_l1Cur_weights.l0, e1, Option.bind_some, if_neg c0, if_neg c1, if_neg c2, if_pos c3]; rfl) ?_)
      exact Ev.ff (by omega) (Ev.bind hr (Ev.tt (by omega) (Ev.now _)))
    by_cases c4 : u = 4
    · obtain ⟨r, hr, hrl, -⟩ := spec_weBack_ev q (by omega)
      obtain ⟨r2, hr2, hrl2⟩ := spec_wdScale_ex r (-1) (by omega)
      refine wrapv (r := (r2 ++ q, a1, sd1)) (by simp; omega) (by simp; omega) (by simp; omega) (Ev.step (fun k => by simp only [spec_l1Cur_weights.l0, e1, Option.bind_some, if_neg c0, if_neg c1, if_neg c2, if_neg c3, if_pos c4]; rfl) ?_)
      exact Ev.ff (by omega) (Ev.bind hr (Ev.bind hr2 (Ev.tt (by omega) (Ev.now _))))
    refine wrapv (r := (q, a1, sd1)) (by simp; omega) (by simp; omega) (by simp; omega) (Ev.step (fun k => by simp only [spec_l1Cur_weights.l0, e1, Option.bind_some, if_neg c0, if_neg c1, if_neg c2, if_neg c3, if_neg c4]; rfl) ?_)
    exact Ev.ff (by omega) (Ev.now _)
  | n + 1, q, a, sd, hq, h0, h1 => by
    obtain ⟨v, a2, sd2, e2, ha2, hb2, -⟩ := pick_ok hl a sd 9 h0 (by omega) (by omega)
    have e3 : wrap64 (((n + 1 : Nat) : Int) - 1) = (n : Int) := by
      rw [w64 (n := ((n + 1 : Nat) : Int) - 1) (by omega) (by omega)]
      omega
    obtain ⟨s, a', sd', h, hs1, ha, hb⟩ := weights_l0 hl n (q ++ [wrap64 (v - 4)]) a2 sd2 (by simp; omega) (by omega) (by omega)
    refine ⟨s, a', sd', Ev.step (fun k => by simp only [spec_l1Cur_weights.l0, e2, e3, Option.bind_some]; rfl) ?_, hs1, by omega, by omega⟩
    exact Ev.tt (by omega) (Ev.tt (by omega) h)
theorem weights_ok {l : List Int} (hl : Bytes l) (a sd : Int) (h0 : 0 ≤ a) (h1 : a ≤ 1000000000) : ∃ s a' sd', Ev (fun k => spec_l1Cur_weights.f k l a sd) (s, a', sd') ∧ s.length ≤ 300 ∧ a ≤ a' ∧ a' ≤ a + 1000 := by
  obtain ⟨u, a1, sd1, e1, ha1, hb1, hu, hu2⟩ := pick_ok hl a sd 5 h0 (by omega) (by omega)
  obtain ⟨n, hn⟩ : ∃ n : Nat, 1 + u = (n : Int) := ⟨(1 + u).toNat, by omega⟩
  obtain ⟨s, a', sd', h, hs1, ha, hb⟩ := weights_l0 hl n [] a1 sd1 (by simp; omega) (by omega) (by omega)
  refine ⟨s, a', sd', ?_, hs1, by omega, by omega⟩
  simp only [spec_l1Cur_weights.f]
  refine Ev.dbind e1 ?_
  rw [w64 (n := 1 + u) (by omega) (by omega), hn]
  exact h

theorem drawFiltS_ok {l : List Int} (hl : Bytes l) : ∃ h s, Ev (fun k => spec_DrawFilterSignal.f k l) (h, s) ∧ h.length ≤ 300 ∧ s.length ≤ 100001 := by
  obtain ⟨h, a1, sd1, e1, hh, ha, hb⟩ := weights_ok hl 0 0 (by omega) (by omega)
  obtain ⟨s, a2, sd2, e2, hs, -, -⟩ := signal_ok hl a1 sd1 12 50 (by omega) (by omega) (by omega) (by omega)
  refine ⟨h, s, ?_, hh, hs⟩
  simp only [spec_DrawFilterSignal.f]
  exact Ev.bind e1 (Ev.bind e2 (Ev.now _))

theorem drawTimes_ok {l : List Int} (hl : Bytes l) : ∃ a b, Ev (fun k => spec_DrawTimesWeights.f k l) (a, b) ∧ a.length ≤ 300 ∧ b.length ≤ 300 := by
  obtain ⟨h, a1, sd1, e1, hh, ha, hb⟩ := weights_ok hl 0 0 (by omega) (by omega)
  obtain ⟨s, a2, sd2, e2, hs, -, -⟩ := weights_ok hl a1 sd1 (by omega) (by omega)
  refine ⟨h, s, ?_, hh, hs⟩
  simp only [spec_DrawTimesWeights.f]
  exact Ev.bind e1 (Ev.bind e2 (Ev.now _))

theorem drawDiv_ok {l : List Int} (hl : Bytes l) : ∃ a b, Ev (fun k => spec_DrawDivideWeights.f k l) (a, b) ∧ a.length ≤ 300 ∧ b.length ≤ 300 := by
  obtain ⟨h, a1, sd1, e1, hh, ha, hb⟩ := weights_ok hl 0 0 (by omega) (by omega)
  obtain ⟨s, a2, sd2, e2, hs, ha2, hb2⟩ := weights_ok hl a1 sd1 (by omega) (by omega)
  simp only [spec_DrawDivideWeights.f]
  have stop : Ev (fun k => spec_DrawDivideWeights.j0 k h s false) (h, s) := by
    refine Ev.step (fun k => by simp only [spec_DrawDivideWeights.j0]; rfl) ?_
    exact Ev.ff (by decide) (Ev.now _)
  by_cases c : wts h = true
  · by_cases d : wts s = true
    · obtain ⟨v, a3, sd3, e3, ha3, hb3, -⟩ := one_ok hl a2 sd2 4 (by omega) (by omega) (by omega)
      by_cases g : (!v) = true
      · have h1 := wts_len c
        have h2 := wts_len d
        have h3 := conv_len_le h s
        have hA := spec_weAnswer_ev h s (1000 * 1000) (by omega) (by omega) (by omega) (wt_prod (by omega) (by omega) (wts_mem c) (wts_mem d)) (by omega)
        by_cases f : wts (conv h s) = true
        · refine ⟨conv h s, s, Ev.bind e1 (Ev.bind e2 (Ev.bind (spec_weGood_ev h (by omega)) (Ev.tt c (Ev.bind (spec_weGood_ev s (by omega)) (Ev.tt d (Ev.dbind e3 ?_)))))), by omega, hs⟩
          exact Ev.step (fun k => by simp only [spec_DrawDivideWeights.j0]; rfl) (Ev.tt g (Ev.bind hA (Ev.bind (spec_weGood_ev (conv h s) (by omega)) (Ev.tt f (Ev.now _)))))
        · refine ⟨h, s, Ev.bind e1 (Ev.bind e2 (Ev.bind (spec_weGood_ev h (by omega)) (Ev.tt c (Ev.bind (spec_weGood_ev s (by omega)) (Ev.tt d (Ev.dbind e3 ?_)))))), hh, hs⟩
          exact Ev.step (fun k => by simp only [spec_DrawDivideWeights.j0]; rfl) (Ev.tt g (Ev.bind hA (Ev.bind (spec_weGood_ev (conv h s) (by omega)) (Ev.ff f (Ev.now _)))))
      · rw [Bool.not_eq_true] at g
        refine ⟨h, s, Ev.bind e1 (Ev.bind e2 (Ev.bind (spec_weGood_ev h (by omega)) (Ev.tt c (Ev.bind (spec_weGood_ev s (by omega)) (Ev.tt d (Ev.dbind e3 ?_)))))), hh, hs⟩
        simp only [g]
        exact stop
    · exact ⟨h, s, Ev.bind e1 (Ev.bind e2 (Ev.bind (spec_weGood_ev h (by omega)) (Ev.tt c (Ev.bind (spec_weGood_ev s (by omega)) (Ev.ff d stop))))), hh, hs⟩
  · exact ⟨h, s, Ev.bind e1 (Ev.bind e2 (Ev.bind (spec_weGood_ev h (by omega)) (Ev.ff c stop))), hh, hs⟩

theorem drawPow_ok {l : List Int} (hl : Bytes l) : ∃ h k, Ev (fun m => spec_DrawPowerWeights.f m l) (h, k) ∧ h.length ≤ 300 ∧ -1 ≤ k ∧ k ≤ 9 ∧ (k ≤ 4 ∨ ∃ c : Int, (c = -1 ∨ c = 0 ∨ c = 1) ∧ h = [1, c]) := by
  obtain ⟨v, a1, sd1, e1, ha1, hb1, -⟩ := one_ok hl 0 0 2 (by omega) (by omega) (by omega)
  simp only [spec_DrawPowerWeights.f]
  by_cases c : v = true
  · obtain ⟨x, a2, sd2, e2, ha2, hb2, hx, hx2⟩ := pick_ok hl a1 sd1 3 (by omega) (by omega) (by omega)
    obtain ⟨y, a3, sd3, e3, ha3, hb3, hy, hy2⟩ := pick_ok hl a2 sd2 10 (by omega) (by omega) (by omega)
    obtain ⟨z, a4, sd4, e4, ha4, hb4, hz, hz2⟩ := pick_ok hl a3 sd3 9 (by omega) (by omega) (by omega)
    have hd : Int.tdiv z 8 = z / 8 := Int.tdiv_eq_ediv_of_nonneg hz
    have w1 : wrap64 (x - 1) = x - 1 := w64 (by omega) (by omega)
    have w2 : wrap64 (Int.tdiv z 8) = z / 8 := by rw [hd]; exact w64 (by omega) (by omega)
    have w3 : wrap64 (y - z / 8) = y - z / 8 := w64 (by omega) (by omega)
    refine ⟨[1, x - 1], y - z / 8, Ev.dbind e1 (Ev.tt c (Ev.dbind e2 (Ev.dbind e3 (Ev.dbind e4 ?_)))), by simp, by omega, by omega, .inr ⟨x - 1, by omega, rfl⟩⟩
    simp only [w1, w2, w3]
    exact Ev.now _
  · obtain ⟨h, a2, sd2, e2, hh, ha, hb⟩ := weights_ok hl a1 sd1 (by omega) (by omega)
    obtain ⟨y, a3, sd3, e3, ha3, hb3, hy, hy2⟩ := pick_ok hl a2 sd2 5 (by omega) (by omega) (by omega)
    exact ⟨h, y, Ev.dbind e1 (Ev.ff c (Ev.bind e2 (Ev.dbind e3 (Ev.now _)))), hh, by omega, by omega, .inl (by omega)⟩

def powMW (h : List Int) (k : Int) : List Int × Bool := if wts h = true ∧ 0 ≤ k ∧ k ≤ 8 ∧ wts (pw h k.toNat) = true then (pw h k.toNat, true) else ([], false)
theorem peak_le : ∀ (l : List Int) (m M : Nat), peakM l m ≤ M ↔ m ≤ M ∧ ∀ x ∈ l, x.natAbs ≤ M
  | [], m, M => by simp [peakM]
  | y :: t, m, M => by
    rw [peakM, peak_le t]
    simp only [List.mem_cons, forall_eq_or_imp]
    constructor
    · rintro ⟨h1, h2⟩
      exact ⟨by omega, by omega, h2⟩
    · rintro ⟨h1, h2, h3⟩
      exact ⟨by omega, h3⟩
theorem impl_Power_l0 {h : List Int} (hh : wts h = true) (K : Nat) (hK : K ≤ 8) (hall : wts (pw h K) = true → ∀ j, j ≤ K → wts (pw h j) = true) : ∀ (d i : Nat), i + d = K → (pw h i).length ≤ 9 → (∀ x ∈ pw h i, -1000000 ≤ x ∧ x ≤ 1000000) →
    Ev (fun k => impl_PowerWeights.l0 k h (pw h i) (K : Int) (i : Int)) (if wts (pw h K) = true then (pw h K, true) else ([], false))
  | 0, i, hi, hl, hb => by
    obtain rfl : i = K := by omega
    refine Ev.step (fun k => by simp only [impl_PowerWeights.l0]; rfl) (Ev.ff (by omega) (Ev.bind (impl_weighed_ev (pw h i) (by omega)) (Ev.to (Ev.now _) ?_)))
    unfold weighM
    split <;> rfl
  | d + 1, i, hi, hl, hb => by
    have hw := wts_len hh
    have e3 : wrap64 ((i : Int) + 1) = ((i + 1 : Nat) : Int) := by rw [w64 (n := (i : Int) + 1) (by omega) (by omega)]; omega
    have hA := impl_answer_ev (pw h i) h (1000000 * 1000) (by omega) (by omega) (by omega) (wt_prod (by omega) (by omega) hb (wts_mem hh)) (by omega)
    have hcl := conv_len_le (pw h i) h
    have hprod : ∀ x ∈ conv (pw h i) h, -1000000000000000000 ≤ x ∧ x ≤ 1000000000000000000 := by
      intro x hx
      rw [conv, if_neg (wts_ne hh)] at hx
      simp only [Lf, List.mem_map] at hx
      obtain ⟨n, _, rfl⟩ := hx
      have := cv_bd (s := h) (M := 1000000 * 1000) (by omega) (pw h i) n (wt_prod (by omega) (by omega) hb (wts_mem hh))
      omega
    refine Ev.step (fun k => by simp only [impl_PowerWeights.l0]; rfl) (Ev.tt (by omega) (Ev.bind hA ?_))
    rw [e3]
    have ne : ¬ wts (pw h (i + 1)) = true → (if wts (pw h K) = true then (pw h K, true) else ([], false)) = (([] : List Int), false) := by
      intro g
      rw [if_neg (fun g2 => g (hall g2 (i + 1) (by omega)))]
    by_cases c : ((conv (pw h i) h).length : Int) > 9
    · refine Ev.tt c (Ev.to (Ev.now _) (ne (fun g => ?_)).symm)
      have := (wts_len g).2
      rw [pw] at this
      omega
    · refine Ev.ff c (Ev.bind (impl_peak_ev (conv (pw h i) h) (by omega) hprod) ?_)
      by_cases e : ((peakM (conv (pw h i) h) 0 : Nat) : Int) > 1000000
      · refine Ev.tt e (Ev.to (Ev.now _) (ne (fun g => ?_)).symm)
        have h1 := (peak_le (conv (pw h i) h) 0 1000000).2 ⟨by omega, fun x hx => by have := wts_mem g x hx; omega⟩
        omega
      · refine Ev.ff e (impl_Power_l0 hh K hK hall d (i + 1) (by omega) (by rw [pw]; omega) (fun x hx => ?_))
        have := ((peak_le (conv (pw h i) h) 0 1000000).1 (by omega)).2 x hx
        omega
theorem spec_Power_l0 {h : List Int} (hh : wts h = true) (K : Nat) (hK : K ≤ 8) (hall : wts (pw h K) = true → ∀ j, j ≤ K → wts (pw h j) = true) : ∀ (d i : Nat), i + d = K → wts (pw h i) = true →
    Ev (fun k => spec_PowerWeights.l0 k h (d : Int) (pw h i)) (if wts (pw h K) = true then (pw h K, true) else ([], false))
  | 0, i, hi, hw => by
    obtain rfl : i = K := by omega
    rw [if_pos hw]
    exact Ev.step (fun k => by simp only [spec_PowerWeights.l0]; rfl) (Ev.ff (by omega) (Ev.now _))
  | d + 1, i, hi, hw => by
    have h1 := wts_len hh
    have h2 := wts_len hw
    have e3 : wrap64 (((d + 1 : Nat) : Int) - 1) = (d : Int) := by rw [w64 (n := ((d + 1 : Nat) : Int) - 1) (by omega) (by omega)]; omega
    have hA := spec_weAnswer_ev h (pw h i) (1000 * 1000) (by omega) (by omega) (by omega) (wt_prod (by omega) (by omega) (wts_mem hh) (wts_mem hw)) (by omega)
    have hcl := conv_len_le h (pw h i)
    have ec : conv h (pw h i) = pw h (i + 1) := conv_comm (wts_ne hh) (wts_ne hw)
    rw [ec] at hA hcl
    refine Ev.step (fun k => by simp only [spec_PowerWeights.l0]; rfl) (Ev.tt (by omega) (Ev.bind hA (Ev.bind (spec_weGood_ev (pw h (i + 1)) (by omega)) ?_)))
    rw [e3]
    by_cases g : wts (pw h (i + 1)) = true
    · exact Ev.tt g (spec_Power_l0 hh K hK hall d (i + 1) (by omega) g)
    · rw [if_neg (fun g2 => g (hall g2 (i + 1) (by omega)))]
      exact Ev.ff g (Ev.now _)
theorem PowerWeights_ev (h : List Int) (k : Int) (hl : h.length ≤ 1000000) (hk : k ≤ 4 ∨ ∃ c : Int, (c = -1 ∨ c = 0 ∨ c = 1) ∧ h = [1, c]) : Ev (fun m => impl_PowerWeights.f m h k) (powMW h k) ∧ Ev (fun m => spec_PowerWeights.f m h k) (powMW h k) := by
  simp only [impl_PowerWeights.f, spec_PowerWeights.f]
  by_cases c : wts h = true
  · by_cases d : 0 ≤ k ∧ k ≤ 8
    · have hd : (decide (0 ≤ k) && decide (k ≤ 8)) = true := by simp [d.1, d.2]
      obtain ⟨K, rfl⟩ : ∃ K : Nat, k = (K : Int) := ⟨k.toNat, by omega⟩
      have hall : wts (pw h K) = true → ∀ j, j ≤ K → wts (pw h j) = true := by
        intro g
        refine pw_all c ?_ g
        rcases hk with hk | hk
        · left; omega
        · right; exact ⟨by omega, hk⟩
      have e : powMW h (K : Int) = if wts (pw h K) = true then (pw h K, true) else ([], false) := by
        unfold powMW
        rw [Int.toNat_natCast]
        by_cases g : wts (pw h K) = true
        · rw [if_pos g, if_pos ⟨c, by omega, by omega, g⟩]
        · rw [if_neg g, if_neg (fun x => g x.2.2.2)]
      refine ⟨?_, ?_⟩
      · refine Ev.bind (impl_isWeights_ev h (by omega)) (Ev.tt c (Ev.dbind (impl_in_eq _ _ _) ?_))
        rw [hd, e]
        refine Ev.step (fun k => by simp only [impl_PowerWeights.j0]; rfl) (Ev.ff (by decide) ?_)
        exact impl_Power_l0 c K (by omega) hall K 0 (by omega) (by simp [pw]) (fun x hx => by simp [pw] at hx; omega)
      · refine Ev.bind (spec_weGood_ev h (by omega)) (Ev.tt c (Ev.dbind (spec_l1In_eq _ _ _) ?_))
        rw [hd, e]
        refine Ev.step (fun k => by simp only [spec_PowerWeights.j0]; rfl) (Ev.ff (by decide) ?_)
        exact spec_Power_l0 c K (by omega) hall K 0 (by omega) (by show wts [1] = true; decide)
    · have hd : (decide (0 ≤ k) && decide (k ≤ 8)) = false := by simp; omega
      have e : powMW h k = ([], false) := by rw [powMW, if_neg (fun x => d ⟨x.2.1, x.2.2.1⟩)]
      rw [e]
      refine ⟨Ev.bind (impl_isWeights_ev h (by omega)) (Ev.tt c (Ev.dbind (impl_in_eq _ _ _) ?_)), Ev.bind (spec_weGood_ev h (by omega)) (Ev.tt c (Ev.dbind (spec_l1In_eq _ _ _) ?_))⟩
      · rw [hd]
        exact Ev.step (fun k => by simp only [impl_PowerWeights.j0]; rfl) (Ev.tt (by decide) (Ev.now _))
      · rw [hd]
        exact Ev.step (fun k => by simp only [spec_PowerWeights.j0]; rfl) (Ev.tt (by decide) (Ev.now _))
  · have e : powMW h k = ([], false) := by rw [powMW, if_neg (fun x => c x.1)]
    rw [e]
    refine ⟨Ev.bind (impl_isWeights_ev h (by omega)) (Ev.ff c ?_), Ev.bind (spec_weGood_ev h (by omega)) (Ev.ff c ?_)⟩
    · exact Ev.step (fun k => by simp only [impl_PowerWeights.j0]; rfl) (Ev.tt (by decide) (Ev.now _))
    · exact Ev.step (fun k => by simp only [spec_PowerWeights.j0]; rfl) (Ev.tt (by decide) (Ev.now _))

theorem sEqual_l0 (l m : List Int) (hlm : l.length = m.length) (hl : l.length ≤ 1000000) : ∀ (t p : List Int), l = p ++ t → p = m.take p.length → Ev (fun k => slices_Equal_int_int.l0 k l m (l.length : Int) (p.length : Int)) (decide (l = m))
  | [], p, h, hp => by
    have e : l = m := by
      have hpl : p.length = m.length := by rw [← hlm, h]; simp
      rw [hpl, List.take_length] at hp
      rw [h, List.append_nil]
      exact hp
    rw [decide_eq_true e]
    refine Ev.step (f := fun _ => some true) (fun k => ?_) (Ev.now _)
    subst h
    simp [slices_Equal_int_int.l0]
  | x :: t, p, h, hp => by
    have e1 : (p.length : Int) < (l.length : Int) := by rw [h]; exact lt_mid p t x
    have e2 : rd l (p.length : Int) = x := by rw [h]; exact rd_mid p t x
    have e3 : wrap64 ((p.length : Int) + 1) = ((p ++ [x]).length : Int) := nx_mid p t x (by rw [← h]; omega)
    have hpm : p.length < m.length := by omega
    have e4 : rd m (p.length : Int) = m[p.length] := by
      rw [rd_getD, List.getD_eq_getElem?_getD, List.getElem?_eq_getElem hpm]
      rfl
    refine Ev.step (fun k => by simp only [slices_Equal_int_int.l0]; rfl) ?_
    rw [e2, e3, e4]
    refine Ev.tt e1 (Ev.tt (Int.natCast_nonneg _) (Ev.tt e1 (Ev.tt (by omega) ?_)))
    by_cases c : x = m[p.length]
    · refine Ev.tt c (sEqual_l0 l m hlm hl t (p ++ [x]) (by simp [h]) ?_)
      rw [List.length_append, List.length_singleton, List.take_succ_eq_append_getElem hpm, ← hp, c]
    · refine Ev.ff c (Ev.to (Ev.now _) (decide_eq_false (fun e => c ?_)).symm)
      subst e
      have : (p ++ x :: t)[p.length]'(by simp) = x := by simp
      simp only [h] at *
      simp
theorem sEqual_ev (l m : List Int) (hl : l.length ≤ 1000000) : Ev (fun k => slices_Equal_int_int.f k l m) (decide (l = m)) := by
  simp only [slices_Equal_int_int.f]
  by_cases c : l.length = m.length
  · exact Ev.tt (by omega) (sEqual_l0 l m c hl l [] rfl rfl)
  · refine Ev.ff (by omega) (Ev.to (Ev.now _) (decide_eq_false (fun e => c (by rw [e]))).symm)

def atI (l : List Int) (i : Int) : Int := if 0 ≤ i then l.getD i.toNat 0 else 0
def cvI : List Int → List Int → Int → Int
  | [], _, _ => 0
  | w :: t, s, i => w * atI s i + cvI t s (i - 1)
theorem cvI_neg : ∀ (t s : List Int) (i : Int), i < 0 → cvI t s i = 0
  | [], _, _, _ => rfl
  | w :: t, s, i, h => by
    rw [cvI, cvI_neg t s (i - 1) (by omega), atI, if_neg (by omega)]
    simp
theorem cvI_nat : ∀ (t s : List Int) (n : Nat), cvI t s (n : Int) = cvf t (gD s) n
  | [], s, n => by cases n <;> rfl
  | w :: t, s, 0 => by
    rw [cvI, cvI_neg t s _ (by omega), cvf, atI, if_pos (by omega)]
    simp [gD]
  | w :: t, s, n + 1 => by
    have e : ((n + 1 : Nat) : Int) - 1 = (n : Int) := by omega
    rw [cvI, e, cvI_nat t s n, cvf, atI, if_pos (by omega), Int.toNat_natCast]
    rfl
theorem cvI_Sh (t s : List Int) (n : Nat) : cvI t s ((n : Int) - 1) = Sh (cvf t (gD s)) n := by
  cases n with
  | zero => exact cvI_neg t s _ (by omega)
  | succ n =>
    have e : ((n + 1 : Nat) : Int) - 1 = (n : Int) := by omega
    rw [e, cvI_nat]
    rfl
theorem atI_bd {l : List Int} (h : ∀ x ∈ l, -1000 ≤ x ∧ x ≤ 1000) (i : Int) : -1000 ≤ atI l i ∧ atI l i ≤ 1000 := by
  unfold atI
  split
  · rw [List.getD_eq_getElem?_getD]
    by_cases c : i.toNat < l.length
    · rw [List.getElem?_eq_getElem c]
      exact h _ (List.getElem_mem c)
    · rw [List.getElem?_eq_none (by omega)]
      exact ⟨by decide, by decide⟩
  · exact ⟨by decide, by decide⟩
theorem mul3 {x y : Int} (hx : -1000 ≤ x ∧ x ≤ 1000) (hy : -1000 ≤ y ∧ y ≤ 1000) : -1000000 ≤ x * y ∧ x * y ≤ 1000000 := by
  have h : (x * y).natAbs ≤ 1000 * 1000 := by
    rw [Int.natAbs_mul]
    exact Nat.mul_le_mul (by omega) (by omega)
  omega
def divRes (a b : List Int) (m : Nat) (out : List Int) : List Int × Bool :=
  match dvM a (gD b 0) b.tail m out with
  | none => ([], false)
  | some q => if conv q b = a then (q, true) else ([], false)
theorem tdiv_bd {r b : Int} (M : Int) (hr : -M ≤ r ∧ r ≤ M) : -M ≤ Int.tdiv r b ∧ Int.tdiv r b ≤ M := by
  have h := Int.natAbs_tdiv_le_natAbs r b
  omega
theorem impl_Divide_l1 (a b out : List Int) (n : Nat) (x37 x38 : Int) (hbl : b.length ≤ 9) (hb : ∀ x ∈ b, -1000 ≤ x ∧ x ≤ 1000) (ho : ∀ x ∈ out, -1000 ≤ x ∧ x ≤ 1000) (hol : out.length ≤ 9) (hn : n ≤ 9) (R : List Int × Bool)
    (hend : ∀ r, -20000000 ≤ r → r ≤ 20000000 → r = gD a n - cvI b.tail out ((n : Int) - 1) → Ev (fun k => impl_DivideWeights.l1 k a b out (n : Int) r (b.length : Int) x37 x38) R) : ∀ (t p : List Int) (r : Int), b = p ++ t → 1 ≤ p.length → -(1000 + 1000000 * p.length) ≤ r → r ≤ 1000 + 1000000 * p.length → r - cvI t out ((n : Int) - p.length) = gD a n - cvI b.tail out ((n : Int) - 1) →
    Ev (fun k => impl_DivideWeights.l1 k a b out (n : Int) r (p.length : Int) x37 x38) R
  | [], p, r, h, hp, h0, h1, he => by
    have e : p.length = b.length := by rw [h]; simp
    rw [e] at h0 h1 ⊢
    simp only [cvI] at he
    exact hend r (by omega) (by omega) (by omega)
  | x :: t, p, r, h, hp, h0, h1, he => by
    have e1 : (p.length : Int) < (b.length : Int) := by rw [h]; exact lt_mid p t x
    have e2 : rd b (p.length : Int) = x := by rw [h]; exact rd_mid p t x
    have e3 : wrap64 ((p.length : Int) + 1) = ((p ++ [x]).length : Int) := nx_mid p t x (by rw [← h]; omega)
    have hlen : ((p ++ [x]).length : Int) = (p.length : Int) + 1 := by simp
    have hx := hb x (by rw [h]; simp)
    have ha := atI_bd ho ((n : Int) - p.length)
    have hm := mul3 hx ha
    have e4 : impl_at.f out (wrap64 ((n : Int) - (p.length : Int))) = some (atI out ((n : Int) - p.length)) := by
      rw [w64 (n := (n : Int) - (p.length : Int)) (by omega) (by omega), impl_at_eq out _ (by omega)]
      rfl
    have e5 : wrap64 (x * atI out ((n : Int) - p.length)) = x * atI out ((n : Int) - p.length) := w64 (by omega) (by omega)
    have e6 : wrap64 (r - x * atI out ((n : Int) - p.length)) = r - x * atI out ((n : Int) - p.length) := w64 (by omega) (by omega)
    simp only [cvI] at he
    refine Ev.step (fun k => by simp only [impl_DivideWeights.l1]; rfl) ?_
    rw [e2, e3]
    refine Ev.tt e1 (Ev.tt (Int.natCast_nonneg _) (Ev.dbind e4 ?_))
    rw [e5, e6]
    exact impl_Divide_l1 a b out n x37 x38 hbl hb ho hol hn R hend t (p ++ [x]) _ (by simp [h]) (by simp) (by rw [hlen]; omega) (by rw [hlen]; omega) (by rw [hlen, show (n : Int) - ((p.length : Int) + 1) = (n : Int) - p.length - 1 by omega]; omega)
theorem impl_Divide_l0 {a b : List Int} (ha : wts a = true) (hb : wts b = true) (h0 : gD b 0 ≠ 0) (hab : b.length ≤ a.length) : ∀ (m : Nat) (out : List Int), out.length + m = a.length - b.length + 1 → (∀ x ∈ out, -1000 ≤ x ∧ x ≤ 1000) →
    Ev (fun k => impl_DivideWeights.l0 k a b out ((a.length - b.length + 1 : Nat) : Int) (out.length : Int)) (divRes a b m out)
  | 0, out, h, ho => by
    have la := wts_len ha
    have lb := wts_len hb
    have hcl := conv_len_le out b
    refine Ev.step (fun k => by simp only [impl_DivideWeights.l0]; rfl) (Ev.ff (by omega) ?_)
    refine Ev.bind (impl_answer_ev out b (1000 * 1000) (by omega) (by omega) (by omega) (wt_prod (by omega) (by omega) ho (wts_mem hb)) (by omega)) (Ev.bind (sEqual_ev (conv out b) a (by omega)) ?_)
    have hw : wts out = true := by rw [wts_iff]; exact ⟨by omega, by omega, ho⟩
    simp only [divRes, dvM]
    by_cases c : conv out b = a
    · rw [if_pos c]
      refine Ev.tt (decide_eq_true c) (Ev.bind (impl_weighed_ev out (by omega)) (Ev.to (Ev.now _) ?_))
      rw [weighM, if_pos hw]
    · rw [if_neg c]
      exact Ev.ff (by rw [decide_eq_false c]; decide) (Ev.now _)
  | m + 1, out, h, ho => by
    have la := wts_len ha
    have lb := wts_len hb
    have e3 : wrap64 ((out.length : Int) + 1) = ((out.length + 1 : Nat) : Int) := by rw [w64 (n := (out.length : Int) + 1) (by omega) (by omega)]; omega
    have hga : rd a (out.length : Int) = gD a out.length := rd_getD _ _
    have hgb : rd b 0 = gD b 0 := rd_getD _ 0
    have hx := wts_mem ha (gD a out.length) (by rw [gD_in a _ (by omega)]; exact List.getElem_mem _)
    refine Ev.step (fun k => by simp only [impl_DivideWeights.l0]; rfl) ?_
    rw [hga]
    refine Ev.tt (by omega) (Ev.tt (Int.natCast_nonneg _) (Ev.tt (by omega) ?_))
    obtain ⟨b0, bt, rfl⟩ : ∃ b0 bt, b = b0 :: bt := by
      cases b with
      | nil => simp at lb
      | cons x t => exact ⟨x, t, rfl⟩
    have hend : ∀ r, -20000000 ≤ r → r ≤ 20000000 → r = gD a out.length - cvI (b0 :: bt).tail out ((out.length : Int) - 1) → Ev (fun k => impl_DivideWeights.l1 k a (b0 :: bt) out (out.length : Int) r ((b0 :: bt).length : Int) ((a.length - (b0 :: bt).length + 1 : Nat) : Int) (out.length : Int)) (divRes a (b0 :: bt) (m + 1) out) := by
      intro r r0 r1 hr
      rw [cvI_Sh] at hr
      have hq := tdiv_bd (b := gD (b0 :: bt) 0) 20000000 ⟨r0, r1⟩
      refine Ev.step (fun k => by simp only [impl_DivideWeights.l1]; rfl) ?_
      rw [hgb, w64 (n := Int.tdiv r (gD (b0 :: bt) 0)) (by omega) (by omega), e3]
      refine Ev.ff (by omega) (Ev.tt (by omega) (Ev.ff h0 ?_))
      simp only [divRes, dvM, ← hr]
      by_cases c : Int.tmod r (gD (b0 :: bt) 0) = 0
      · refine Ev.tt c (Ev.dbind (impl_size_eq _ (by omega)) ?_)
        rw [if_neg (fun g => g c)]
        by_cases d : ((Int.tdiv r (gD (b0 :: bt) 0)).natAbs : Int) > 1000
        · rw [if_pos (by omega)]
          exact Ev.tt d (Ev.now _)
        · rw [if_neg (by omega)]
          have ih := impl_Divide_l0 ha hb h0 hab m (out ++ [Int.tdiv r (gD (b0 :: bt) 0)]) (by rw [List.length_append, List.length_singleton]; omega) (fun x hx => by
            rcases List.mem_append.1 hx with hx | hx
            · exact ho x hx
            · simp at hx
              omega)
          rw [show ((out ++ [Int.tdiv r (gD (b0 :: bt) 0)]).length : Nat) = out.length + 1 by simp] at ih
          exact Ev.ff d (Ev.tt (by omega) ih)
      · rw [if_pos (fun g => c g)]
        exact Ev.ff c (Ev.now _)
    have key := impl_Divide_l1 a (b0 :: bt) out out.length ((a.length - (b0 :: bt).length + 1 : Nat) : Int) (out.length : Int) lb.2 (wts_mem hb) ho (by omega) (by omega) (divRes a (b0 :: bt) (m + 1) out) hend bt [b0] (gD a out.length) rfl (by simp) (by simp; omega) (by simp; omega) (by simp)
    exact key
theorem divW_eq {a b : List Int} (h : wts a = true ∧ wts b = true ∧ gD b 0 ≠ 0 ∧ b.length ≤ a.length) : divW a b = divRes a b (a.length - b.length + 1) [] := by
  rw [divW, if_pos h]
  rfl
theorem impl_DivideWeights_ev (a b : List Int) (ha : a.length ≤ 1000000) (hb : b.length ≤ 1000000) : Ev (fun k => impl_DivideWeights.f k a b) (divW a b) := by
  simp only [impl_DivideWeights.f]
  have stop : (¬ (wts a = true ∧ wts b = true ∧ gD b 0 ≠ 0 ∧ b.length ≤ a.length)) → Ev (fun k => impl_DivideWeights.j0 k a b true) (divW a b) := by
    intro g
    rw [divW, if_neg g]
    exact Ev.step (fun k => by simp only [impl_DivideWeights.j0]; rfl) (Ev.tt (by decide) (Ev.now _))
  refine Ev.bind (impl_isWeights_ev a (by omega)) ?_
  by_cases c : wts a = true
  · refine Ev.tt c (Ev.bind (impl_isWeights_ev b (by omega)) ?_)
    by_cases d : wts b = true
    · have la := wts_len c
      have lb := wts_len d
      have hgb : rd b 0 = gD b 0 := rd_getD _ 0
      refine Ev.tt d (Ev.tt (by omega) ?_)
      rw [hgb]
      by_cases e : gD b 0 = 0
      · exact Ev.tt e (stop (fun g => g.2.2.1 e))
      · refine Ev.ff e ?_
        by_cases f : b.length ≤ a.length
        · rw [decide_eq_false (by omega), divW_eq ⟨c, d, e, f⟩]
          refine Ev.step (fun k => by simp only [impl_DivideWeights.j0]; rfl) (Ev.ff (by decide) ?_)
          have w : wrap64 (wrap64 ((a.length : Int) - (b.length : Int)) + 1) = ((a.length - b.length + 1 : Nat) : Int) := by
            rw [w64 (n := (a.length : Int) - (b.length : Int)) (by omega) (by omega), w64 (n := (a.length : Int) - (b.length : Int) + 1) (by omega) (by omega)]
            omega
          rw [w]
          exact impl_Divide_l0 c d e f (a.length - b.length + 1) [] (by simp) (fun x hx => by simp at hx)
        · rw [decide_eq_true (by omega)]
          exact stop (fun g => f g.2.2.2)
    · exact Ev.ff d (stop (fun g => d g.2.1))
  · exact Ev.ff c (stop (fun g => c g.1))

def leftF (a b out : List Int) (q : Int) (s : Nat) (j : Nat) : Int := gD a j - cvf out (gD b) j - (if out.length ≤ j ∧ j - out.length < s then q * gD b (j - out.length) else 0)
theorem leftF_zero (a b out : List Int) (q : Int) : leftF a b out q 0 = fun j => gD a j - cvf out (gD b) j := by
  funext j
  unfold leftF
  rw [if_neg (by omega)]
  omega
theorem cvf_snoc' (b : List Int) (q : Int) (out : List Int) (j : Nat) : cvf (out ++ [q]) (gD b) j = cvf out (gD b) j + (if out.length ≤ j then q * gD b (j - out.length) else 0) := by
  rw [← cv_cvf, cv_snoc, cv_cvf]
  rfl
theorem leftF_all (a b out : List Int) (q : Int) (j : Nat) : leftF a b out q b.length j = gD a j - cvf (out ++ [q]) (gD b) j := by
  rw [cvf_snoc']
  unfold leftF
  by_cases c : out.length ≤ j
  · by_cases d : j - out.length < b.length
    · rw [if_pos ⟨c, d⟩, if_pos c]
      omega
    · rw [if_neg (fun h => d h.2), if_pos c, gD_out b _ (by omega)]
      omega
  · rw [if_neg (fun h => c h.1), if_neg c]
    omega
theorem left_bd {a b out : List Int} (ha : ∀ x ∈ a, -1000 ≤ x ∧ x ≤ 1000) (hb : ∀ x ∈ b, -1000 ≤ x ∧ x ≤ 1000) (ho : ∀ x ∈ out, -1000 ≤ x ∧ x ≤ 1000) (hol : out.length ≤ 9) (j : Nat) : -10000000 ≤ gD a j - cvf out (gD b) j ∧ gD a j - cvf out (gD b) j ≤ 10000000 := by
  have h1 := cv_bd (s := b) (M := 1000 * 1000) (by omega) out j (wt_prod (by omega) (by omega) ho hb)
  rw [cv_cvf] at h1
  have h2 : -1000 ≤ gD a j ∧ gD a j ≤ 1000 := by
    by_cases c : j < a.length
    · rw [gD_in a j c]
      exact ha _ (List.getElem_mem c)
    · rw [gD_out a j (by omega)]
      exact ⟨by decide, by decide⟩
  omega
theorem spec_Divide_l1 {a b out : List Int} (ha : wts a = true) (hb : wts b = true) (ho : ∀ x ∈ out, -1000 ≤ x ∧ x ≤ 1000) (hol : out.length + b.length ≤ a.length) (q : Int) (hq : -1000 ≤ q ∧ q ≤ 1000) (R : List Int × Bool)
    (hend : Ev (fun k => spec_DivideWeights.l0 k a b (Lf (fun j => gD a j - cvf (out ++ [q]) (gD b) j) a.length) (out ++ [q]) ((out.length + 1 : Nat) : Int)) R) : ∀ (t p : List Int), b = p ++ t →
    Ev (fun k => spec_DivideWeights.l1 k a b (Lf (leftF a b out q p.length) a.length) out (out.length : Int) q b (b.length : Int) (p.length : Int)) R
  | [], p, h => by
    have la := wts_len ha
    have e : p.length = b.length := by rw [h]; simp
    have e3 : wrap64 ((out.length : Int) + 1) = ((out.length + 1 : Nat) : Int) := by rw [w64 (n := (out.length : Int) + 1) (by omega) (by omega)]; omega
    rw [e]
    have e5 : Lf (leftF a b out q b.length) a.length = Lf (fun j => gD a j - cvf (out ++ [q]) (gD b) j) a.length := Lf_congr (fun j _ => leftF_all a b out q j)
    rw [e5]
    refine Ev.step (fun k => by simp only [spec_DivideWeights.l1]; rfl) ?_
    rw [e3]
    exact Ev.ff (by omega) (Ev.tt (by omega) hend)
  | x :: t, p, h => by
    have la := wts_len ha
    have lb := wts_len hb
    have hpb : p.length < b.length := by rw [h]; simp
    have e1 : (p.length : Int) < (b.length : Int) := by omega
    have e2 : rd b (p.length : Int) = x := by rw [h]; exact rd_mid p t x
    have e3 : wrap64 ((p.length : Int) + 1) = ((p ++ [x]).length : Int) := nx_mid p t x (by rw [← h]; omega)
    have e4 : wrap64 ((out.length : Int) + (p.length : Int)) = ((out.length + p.length : Nat) : Int) := w64_nat _ _ (by omega)
    have hx := wts_mem hb x (by rw [h]; simp)
    have hm := mul3 hq hx
    have hbd := left_bd (wts_mem ha) (wts_mem hb) ho (by omega) (out.length + p.length)
    have hr : rd (Lf (leftF a b out q p.length) a.length) ((out.length + p.length : Nat) : Int) = gD a (out.length + p.length) - cvf out (gD b) (out.length + p.length) := by
      rw [rd_Lf _ _ _ (by omega)]
      unfold leftF
      rw [if_neg (by omega)]
      omega
    have hgx : gD b p.length = x := by rw [← e2, rd_getD]; rfl
    have e5 : wrap64 (q * x) = q * x := w64 (by omega) (by omega)
    have e6 : wrap64 (gD a (out.length + p.length) - cvf out (gD b) (out.length + p.length) - q * x) = gD a (out.length + p.length) - cvf out (gD b) (out.length + p.length) - q * x := w64 (by omega) (by omega)
    have e7 : (Lf (leftF a b out q p.length) a.length).set (((out.length + p.length : Nat) : Int).toNat) (gD a (out.length + p.length) - cvf out (gD b) (out.length + p.length) - q * x) = Lf (leftF a b out q (p ++ [x]).length) a.length := by
      rw [Int.toNat_natCast, set_Lf]
      apply Lf_congr
      intro n _
      unfold leftF
      have el : (p ++ [x]).length = p.length + 1 := by simp
      rw [el]
      by_cases c : n = out.length + p.length
      · rw [if_pos c, if_pos (by omega), c, show out.length + p.length - out.length = p.length by omega, hgx]
      · rw [if_neg c]
        by_cases d : out.length ≤ n ∧ n - out.length < p.length
        · rw [if_pos d, if_pos (by omega)]
        · rw [if_neg d, if_neg (by omega)]
    refine Ev.step (fun k => by simp only [spec_DivideWeights.l1]; rfl) ?_
    rw [e2, e3, e4, hr, e5, e6, e7]
    exact Ev.tt e1 (Ev.tt (Int.natCast_nonneg _) (Ev.tt e1 (Ev.tt (Int.natCast_nonneg _) (Ev.tt (by rw [Lf_length]; omega) (spec_Divide_l1 ha hb ho hol q hq R hend t (p ++ [x]) (by simp [h]))))))
theorem divRes_step (a : List Int) (b0 : Int) (bt : List Int) (m : Nat) (out : List Int) (r : Int) (hr : gD a out.length - Sh (cvf bt (gD out)) out.length = r) : divRes a (b0 :: bt) (m + 1) out = if Int.tmod r (gD (b0 :: bt) 0) = 0 then (if (Int.tdiv r (gD (b0 :: bt) 0)).natAbs > 1000 then ([], false) else divRes a (b0 :: bt) m (out ++ [Int.tdiv r (gD (b0 :: bt) 0)])) else ([], false) := by
  simp only [divRes, dvM, List.tail_cons, hr]
  by_cases c : Int.tmod r (gD (b0 :: bt) 0) = 0
  · rw [if_neg (fun g => g c), if_pos c]
    by_cases d : (Int.tdiv r (gD (b0 :: bt) 0)).natAbs > 1000
    · rw [if_pos d, if_pos d]
    · rw [if_neg d, if_neg d]
  · rw [if_pos c, if_neg c]
theorem spec_Divide_l0 {a b : List Int} (ha : wts a = true) (hb : wts b = true) (h0 : gD b 0 ≠ 0) (hab : b.length ≤ a.length) : ∀ (m : Nat) (out : List Int), out.length + m = a.length - b.length + 1 → (∀ x ∈ out, -1000 ≤ x ∧ x ≤ 1000) →
    Ev (fun k => spec_DivideWeights.l0 k a b (Lf (fun j => gD a j - cvf out (gD b) j) a.length) out (out.length : Int)) (divRes a b m out)
  | 0, out, h, ho => by
    have la := wts_len ha
    have lb := wts_len hb
    have hon : out ≠ [] := by
      intro e
      rw [e] at h
      simp at h
    have hbn := wts_ne hb
    have e3 : wrap64 ((out.length : Int) + (b.length : Int)) = ((out.length + b.length : Nat) : Int) := w64_nat _ _ (by omega)
    have hbd : ∀ x ∈ Lf (fun j => gD a j - cvf out (gD b) j) a.length, -1000000000000000000 ≤ x ∧ x ≤ 1000000000000000000 := by
      intro x hx
      simp only [Lf, List.mem_map] at hx
      obtain ⟨j, _, rfl⟩ := hx
      have := left_bd (wts_mem ha) (wts_mem hb) ho (by omega) j
      omega
    have hw : wts out = true := by rw [wts_iff]; exact ⟨by omega, by omega, ho⟩
    refine Ev.step (fun k => by simp only [spec_DivideWeights.l0]; rfl) ?_
    rw [e3]
    refine Ev.ff (by omega) (Ev.bind (spec_wdPeak_ev _ (by rw [Lf_length]; omega) hbd) ?_)
    simp only [divRes, dvM]
    have hpk := peak_le (Lf (fun j => gD a j - cvf out (gD b) j) a.length) 0 0
    by_cases c : conv out b = a
    · rw [if_pos c]
      have hz : peakM (Lf (fun j => gD a j - cvf out (gD b) j) a.length) 0 ≤ 0 := by
        refine hpk.2 ⟨by omega, fun x hx => ?_⟩
        simp only [Lf, List.mem_map] at hx
        obtain ⟨j, _, rfl⟩ := hx
        have : gD a j = cvf out (gD b) j := by rw [← gD_conv out b j hbn, c]
        omega
      refine Ev.ff (by omega) (Ev.bind (spec_weIf_ev out (by omega)) (Ev.to (Ev.now _) ?_))
      rw [weighM, if_pos hw]
    · rw [if_neg c]
      have hz : ¬ peakM (Lf (fun j => gD a j - cvf out (gD b) j) a.length) 0 ≤ 0 := by
        intro g
        have g2 := (hpk.1 g).2
        apply c
        apply list_gD
        · rw [conv_length _ _ hbn]
          omega
        intro n
        rw [gD_conv out b n hbn]
        by_cases d : n < a.length
        · have := g2 (gD a n - cvf out (gD b) n) (by simp only [Lf, List.mem_map]; exact ⟨n, List.mem_range.2 d, rfl⟩)
          omega
        · rw [cvf_far out b n hbn (by omega), gD_out a n (by omega)]
      exact Ev.tt (by omega) (Ev.now _)
  | m + 1, out, h, ho => by
    have la := wts_len ha
    have lb := wts_len hb
    have hgb : rd b 0 = gD b 0 := rd_getD _ 0
    have e3 : wrap64 ((out.length : Int) + (b.length : Int)) = ((out.length + b.length : Nat) : Int) := w64_nat _ _ (by omega)
    obtain ⟨b0, bt, rfl⟩ : ∃ b0 bt, b = b0 :: bt := by
      cases b with
      | nil => simp at lb
      | cons x t => exact ⟨x, t, rfl⟩
    have hr : rd (Lf (fun j => gD a j - cvf out (gD (b0 :: bt)) j) a.length) (out.length : Int) = gD a out.length - Sh (cvf bt (gD out)) out.length := by
      rw [rd_Lf _ _ _ (by omega), cvf_turn, cvf_cons, gD_out out _ (by omega)]
      omega
    have hbd := left_bd (wts_mem ha) (wts_mem hb) ho (by omega) out.length
    rw [rd_Lf _ _ _ (by omega)] at hr
    obtain ⟨r, hr'⟩ : ∃ r, gD a out.length - Sh (cvf bt (gD out)) out.length = r := ⟨_, rfl⟩
    rw [hr'] at hr
    rw [hr] at hbd
    have hq := tdiv_bd (b := gD (b0 :: bt) 0) 10000000 hbd
    refine Ev.step (fun k => by simp only [spec_DivideWeights.l0]; rfl) ?_
    rw [e3, hgb, rd_Lf _ _ _ (by omega), hr, w64 (n := Int.tdiv r (gD (b0 :: bt) 0)) (by omega) (by omega), divRes_step a b0 bt m out r hr']
    refine Ev.tt (by omega) (Ev.tt (Int.natCast_nonneg _) (Ev.tt (by rw [Lf_length]; omega) (Ev.tt (by omega) (Ev.ff h0 ?_))))
    by_cases c : Int.tmod r (gD (b0 :: bt) 0) = 0
    · rw [if_pos c]
      refine Ev.tt c (Ev.dbind (spec_l1In_eq _ _ _) ?_)
      by_cases d : (Int.tdiv r (gD (b0 :: bt) 0)).natAbs > 1000
      · rw [if_pos d]
        exact Ev.ff (by simp; omega) (Ev.now _)
      · rw [if_neg d]
        have ih := spec_Divide_l0 ha hb h0 hab m (out ++ [Int.tdiv r (gD (b0 :: bt) 0)]) (by rw [List.length_append, List.length_singleton]; omega) (fun x hx => by
            rcases List.mem_append.1 hx with hx | hx
            · exact ho x hx
            · simp at hx
              omega)
        rw [show ((out ++ [Int.tdiv r (gD (b0 :: bt) 0)]).length : Nat) = out.length + 1 by simp] at ih
        have h1 := spec_Divide_l1 ha hb ho (by omega) (Int.tdiv r (gD (b0 :: bt) 0)) (by omega) _ ih (b0 :: bt) [] rfl
        rw [List.length_nil, leftF_zero] at h1
        exact Ev.tt (by simp; omega) h1
    · rw [if_neg c]
      exact Ev.ff c (Ev.now _)
theorem spec_DivideWeights_ev (a b : List Int) (ha : a.length ≤ 1000000) (hb : b.length ≤ 1000000) : Ev (fun k => spec_DivideWeights.f k a b) (divW a b) := by
  simp only [spec_DivideWeights.f]
  have stop : (¬ (wts a = true ∧ wts b = true ∧ gD b 0 ≠ 0 ∧ b.length ≤ a.length)) → Ev (fun k => spec_DivideWeights.j0 k a b true) (divW a b) := by
    intro g
    rw [divW, if_neg g]
    exact Ev.step (fun k => by simp only [spec_DivideWeights.j0]; rfl) (Ev.tt (by decide) (Ev.now _))
  refine Ev.bind (spec_weGood_ev a (by omega)) ?_
  by_cases c : wts a = true
  · refine Ev.tt c (Ev.bind (spec_weGood_ev b (by omega)) ?_)
    by_cases d : wts b = true
    · have la := wts_len c
      have lb := wts_len d
      have hgb : rd b 0 = gD b 0 := rd_getD _ 0
      refine Ev.tt d (Ev.tt (by omega) ?_)
      rw [hgb]
      by_cases e : gD b 0 = 0
      · exact Ev.tt e (stop (fun g => g.2.2.1 e))
      · refine Ev.ff e ?_
        by_cases f : b.length ≤ a.length
        · rw [decide_eq_false (by omega), divW_eq ⟨c, d, e, f⟩]
          refine Ev.step (fun k => by simp only [spec_DivideWeights.j0]; rfl) (Ev.ff (by decide) (Ev.dbind (spec_l1Own_eq a (by omega)) ?_))
          have h1 := spec_Divide_l0 c d e f (a.length - b.length + 1) [] (by simp) (fun x hx => by simp at hx)
          have e2 : Lf (fun j => gD a j - cvf [] (gD b) j) a.length = a := by
            apply list_gD (by rw [Lf_length])
            intro n
            rw [gD_Lf]
            by_cases g : n < a.length
            · rw [if_pos g]
              cases n <;> simp [cvf]
            · rw [if_neg g, gD_out a n (by omega)]
          rw [e2] at h1
          exact h1
        · rw [decide_eq_true (by omega)]
          exact stop (fun g => f g.2.2.2)
    · exact Ev.ff d (stop (fun g => d g.2.1))
  · exact Ev.ff c (stop (fun g => c g.1))

theorem iSameD_l0 (l m : List Int) (hlm : l.length = m.length) (hl : l.length ≤ 1000000) : ∀ (t p : List Int), l = p ++ t → p = m.take p.length → Ev (fun k => laws_iSame.l0 k l m (l.length : Int) (p.length : Int)) (decide (l = m))
  | [], p, h, hp => by
    have e : l = m := by
      have hpl : p.length = m.length := by rw [← hlm, h]; simp
      rw [hpl, List.take_length] at hp
      rw [h, List.append_nil]
      exact hp
    rw [decide_eq_true e]
    refine Ev.step (f := fun _ => some true) (fun k => ?_) (Ev.now _)
    subst h
    simp [laws_iSame.l0]
  | x :: t, p, h, hp => by
    have e1 : (p.length : Int) < (l.length : Int) := by rw [h]; exact lt_mid p t x
    have e2 : rd l (p.length : Int) = x := by rw [h]; exact rd_mid p t x
    have e3 : wrap64 ((p.length : Int) + 1) = ((p ++ [x]).length : Int) := nx_mid p t x (by rw [← h]; omega)
    have hpm : p.length < m.length := by omega
    have e4 : rd m (p.length : Int) = m[p.length] := by
      rw [rd_getD, List.getD_eq_getElem?_getD, List.getElem?_eq_getElem hpm]
      rfl
    refine Ev.step (fun k => by simp only [laws_iSame.l0]; rfl) ?_
    rw [e2, e3, e4]
    refine Ev.tt e1 (Ev.tt (Int.natCast_nonneg _) (Ev.tt e1 (Ev.tt (by omega) ?_)))
    by_cases c : x = m[p.length]
    · refine Ev.tt c (iSameD_l0 l m hlm hl t (p ++ [x]) (by simp [h]) ?_)
      rw [List.length_append, List.length_singleton, List.take_succ_eq_append_getElem hpm, ← hp, c]
    · refine Ev.ff c (Ev.to (Ev.now _) (decide_eq_false (fun e => c ?_)).symm)
      subst e
      have : (p ++ x :: t)[p.length]'(by simp) = x := by simp
      simp only [h] at *
      simp
theorem iSameD_ev (l m : List Int) (hl : l.length ≤ 1000000) : Ev (fun k => laws_iSame.f k l m) (decide (l = m)) := by
  simp only [laws_iSame.f]
  by_cases c : l.length = m.length
  · exact Ev.tt (by omega) (iSameD_l0 l m c hl l [] rfl rfl)
  · refine Ev.ff (by omega) (Ev.to (Ev.now _) (decide_eq_false (fun e => c (by rw [e]))).symm)

theorem evz_sm : ∀ l : List Int, evz 1 l = sm l
  | [] => rfl
  | x :: t => by rw [evz, sm, evz_sm t]; omega
theorem sm_conv {h s : List Int} (hs : s ≠ []) : sm (conv h s) = sm h * sm s := by
  rw [← evz_sm, ← evz_sm, ← evz_sm, evz_conv 1 hs]
theorem cv_peak {P : Int} {s : List Int} (hP : 0 ≤ P) (hs : ∀ x ∈ s, -P ≤ x ∧ x ≤ P) : ∀ (h : List Int) (n : Nat), -(szS h * P) ≤ cv h s n ∧ cv h s n ≤ szS h * P
  | [], n => by simp [cv, szS]
  | w :: h, n => by
    have hg : ∀ i, -P ≤ s.getD i 0 ∧ s.getD i 0 ≤ P := by
      intro i
      rw [List.getD_eq_getElem?_getD]
      by_cases c : i < s.length
      · rw [List.getElem?_eq_getElem c]
        exact hs _ (List.getElem_mem c)
      · rw [List.getElem?_eq_none (by omega)]
        simp
        omega
    have hm : ∀ i, -((w.natAbs : Int) * P) ≤ w * s.getD i 0 ∧ w * s.getD i 0 ≤ (w.natAbs : Int) * P := by
      intro i
      have g := hg i
      have h1 : (w * s.getD i 0).natAbs ≤ w.natAbs * P.toNat := by
        rw [Int.natAbs_mul]
        exact Nat.mul_le_mul (Nat.le_refl _) (by omega)
      have e : ((w.natAbs * P.toNat : Nat) : Int) = (w.natAbs : Int) * P := by
        rw [Int.natCast_mul, Int.toNat_of_nonneg hP]
      omega
    have hz : 0 ≤ szS h * P := by
      have : 0 ≤ szS h := by
        have : ∀ l : List Int, 0 ≤ szS l := by
          intro l
          induction l with
          | nil => simp [szS]
          | cons x t ih => simp only [szS]; omega
        exact this h
      exact Int.mul_nonneg this hP
    rw [szS, Int.add_mul]
    cases n with
    | zero =>
      have := hm 0
      simp only [cv]
      omega
    | succ n =>
      have h1 := hm (n + 1)
      have h2 := cv_peak hP hs h n
      simp only [cv]
      omega
theorem conv_mem {h s : List Int} {x : Int} (hx : x ∈ conv h s) : ∃ n, x = cv h s n := by
  unfold conv at hx
  split at hx
  · simp at hx
  · simp only [Lf, List.mem_map] at hx
    obtain ⟨n, _, rfl⟩ := hx
    exact ⟨n, rfl⟩
theorem conv_delay {h s : List Int} (hs : s ≠ []) (hh : h ≠ []) : conv h (0 :: s) = 0 :: conv h s := by
  have h1 : 1 ≤ h.length := by cases h <;> simp_all
  have h2 : 1 ≤ s.length := by cases s <;> simp_all
  apply list_gD
  · rw [conv_length _ _ (by simp), List.length_cons, List.length_cons, conv_length _ _ hs]
    omega
  intro n
  rw [gD_conv _ _ _ (by simp)]
  have e : ∀ i, gD (0 :: s) i = Sh (gD s) i := by
    intro i
    cases i <;> simp [gD, Sh]
  rw [cvf_congr (g := Sh (gD s)) h n (fun i _ => e i), cvf_Sh]
  cases n with
  | zero => simp [Sh, gD]
  | succ n =>
    show cvf h (gD s) n = gD (0 :: conv h s) (n + 1)
    rw [← gD_conv _ _ _ hs]
    simp [gD]
theorem sig_tail {x : Int} {s : List Int} (h : sig (x :: s) = true) : sig s = true := by
  have h1 := sig_len h
  have h2 := sig_mem h
  simp only [sig, Bool.and_eq_true, decide_eq_true_eq, List.all_eq_true]
  simp at h1
  exact ⟨by omega, fun y hy => h2 y (by simp [hy])⟩
theorem sig_take {s : List Int} (n : Nat) (h : sig s = true) : sig (s.take n) = true := by
  have h1 := sig_len h
  have h2 := sig_mem h
  simp only [sig, Bool.and_eq_true, decide_eq_true_eq, List.all_eq_true]
  exact ⟨by rw [List.length_take]; omega, fun y hy => h2 y (List.mem_of_mem_take hy)⟩
theorem toldM_t {l : List Int} (h : sig l = true) : toldM l = (l, true) := by rw [toldM, if_pos h]
theorem toldM_f {l : List Int} (h : ¬ sig l = true) : toldM l = ([], false) := by rw [toldM, if_neg h]
theorem law_j10 {l : List Int} (h : List Int) (k : Int) (hl : h.length ≤ 300) (hk : k ≤ 4 ∨ ∃ c : Int, (c = -1 ∨ c = 0 ∨ c = 1) ∧ h = [1, c]) : Ev (fun m => laws_FnWeightsMultiply.j9 m h k (powMW h k).1 (powMW h k).2 false) true := by
  refine Ev.step (fun k => by simp only [laws_FnWeightsMultiply.j9]; rfl) (Ev.ff (by decide) ?_)
  by_cases ok : wts h = true ∧ 0 ≤ k ∧ k ≤ 8 ∧ wts (pw h k.toNat) = true
  · have e : powMW h k = (pw h k.toNat, true) := by rw [powMW, if_pos ok]
    rw [e]
    refine Ev.tt rfl ?_
    by_cases c : k > 0
    · rw [decide_eq_true c]
      obtain ⟨K, rfl⟩ : ∃ K : Nat, k = ((K + 1 : Nat) : Int) := ⟨(k - 1).toNat, by omega⟩
      have hall := pw_all (k := K + 1) ok.1 (by
        rcases hk with hk | hk
        · left; omega
        · right; exact ⟨by omega, hk⟩) (by have := ok.2.2.2; rwa [Int.toNat_natCast] at this)
      have hw := hall K (by omega)
      have hw1 := hall (K + 1) (Nat.le_refl _)
      have e2 : ((K + 1 : Nat) : Int) - 1 = (K : Int) := by omega
      have hp := (PowerWeights_ev h (K : Int) (by omega) (by
        rcases hk with hk | hk
        · left; omega
        · right; exact hk)).1
      have e3 : powMW h (K : Int) = (pw h K, true) := by
        rw [powMW, Int.toNat_natCast, if_pos ⟨ok.1, by omega, by omega, hw⟩]
      rw [e3] at hp
      have l1 := wts_len hw
      have ec : conv h (pw h K) = pw h (K + 1) := conv_comm (wts_ne ok.1) (wts_ne hw)
      have ht := impl_TimesWeights_ev h (pw h K) (by omega) (by omega)
      have e4 : timesM h (pw h K) = (pw h (K + 1), true) := by
        rw [timesM, if_pos (by rw [ok.1, hw]; rfl), ec, weighM, if_pos hw1]
      rw [e4] at ht
      have l2 := wts_len hw1
      refine Ev.step (fun k => by simp only [laws_FnWeightsMultiply.j10]; rfl) ?_
      refine Ev.tt trivial ?_
      rw [w64 (n := ((K + 1 : Nat) : Int) - 1) (by omega) (by omega), e2]
      refine Ev.bind hp (Ev.bind ht (Ev.tt rfl (Ev.tt rfl ?_)))
      rw [Int.toNat_natCast]
      exact Ev.bind (laws_iSame_ev (pw h (K + 1)) (by omega)) (Ev.now _)
    · rw [decide_eq_false c]
      exact Ev.step (fun k => by simp only [laws_FnWeightsMultiply.j10]; rfl) (Ev.ff (by decide) (Ev.now _))
  · have e : powMW h k = ([], false) := by rw [powMW, if_neg ok]
    rw [e]
    refine Ev.ff (by decide) ?_
    exact Ev.step (fun k => by simp only [laws_FnWeightsMultiply.j10]; rfl) (Ev.ff (by decide) (Ev.now _))
theorem powMW_len (h : List Int) (k : Int) : (powMW h k).1.length ≤ 9 := by
  unfold powMW
  split
  · rename_i c
    exact (wts_len c.2.2.2).2
  · simp
theorem law_j8 {l : List Int} (hl : Bytes l) : Ev (fun k => laws_FnWeightsMultiply.j8 k l) true := by
  obtain ⟨h, k, hd, hh, k0, k1, hk⟩ := drawPow_ok hl
  have hp := PowerWeights_ev h k (by omega) hk
  have hlen := powMW_len h k
  refine Ev.step (fun k => by simp only [laws_FnWeightsMultiply.j8]; rfl) (Ev.bind hd (Ev.bind hp.1 (Ev.bind hp.2 ?_)))
  refine Ev.ff (by simp) (Ev.bind (laws_iSame_ev (powMW h k).1 (by omega)) ?_)
  exact law_j10 (l := l) h k hh hk
theorem divW_len (a b : List Int) : (divW a b).1.length ≤ 9 := by
  cases hd : (divW a b).2
  · have : (divW a b).1 = [] := by
      unfold divW at hd ⊢
      split
      · split
        · rfl
        · rename_i q hq
          split
          · rename_i c
            rw [if_pos (by assumption), hq] at hd
            simp [c] at hd
          · rfl
      · rfl
    rw [this]
    simp
  · have := divW_good (q := (divW a b).1) (by rw [← hd])
    exact (wts_len this.1).2
theorem law_j6 {l : List Int} (hl : Bytes l) : Ev (fun k => laws_FnWeightsMultiply.j6 k l) true := by
  obtain ⟨a, b, hd, ha, hb⟩ := drawDiv_ok hl
  have h1 := impl_DivideWeights_ev a b (by omega) (by omega)
  have h2 := spec_DivideWeights_ev a b (by omega) (by omega)
  have hlen := divW_len a b
  refine Ev.step (fun k => by simp only [laws_FnWeightsMultiply.j6]; rfl) (Ev.bind hd (Ev.bind h1 (Ev.bind h2 ?_)))
  refine Ev.ff (by simp) (Ev.bind (laws_iSame_ev (divW a b).1 (by omega)) ?_)
  refine Ev.step (fun k => by simp only [laws_FnWeightsMultiply.j7]; rfl) (Ev.ff (by decide) ?_)
  by_cases c : (divW a b).2 = true
  · have g := divW_good (a := a) (b := b) (q := (divW a b).1) (by rw [← c])
    have la := wts_len g.2.2.1
    have e : timesM (divW a b).1 b = (a, true) := by
      rw [timesM, if_pos (by rw [g.1, g.2.2.2]; rfl), g.2.1, weighM, if_pos g.2.2.1]
    have ht := impl_TimesWeights_ev (divW a b).1 b (by omega) (by omega)
    rw [e] at ht
    exact Ev.tt c (Ev.bind ht (Ev.tt rfl (Ev.bind (laws_iSame_ev a (by omega)) (Ev.tt rfl (law_j8 hl)))))
  · exact Ev.ff c (law_j8 hl)
theorem filtM_len (h s : List Int) : (filtM h s).1.length ≤ 64 := by
  unfold filtM
  split
  · exact toldM_len _
  · simp
theorem filtM_t {h s : List Int} (e : (filtM h s).2 = true) : wts h = true ∧ sig s = true ∧ sig (conv h s) = true ∧ (filtM h s).1 = conv h s := by
  unfold filtM at e ⊢
  split at e
  · rename_i c
    rw [if_pos c]
    unfold toldM at e ⊢
    split at e
    · rename_i d
      rw [if_pos d]
      simp only [Bool.and_eq_true] at c
      exact ⟨c.1, c.2, d, rfl⟩
    · simp at e
  · simp at e
theorem law_j5 {l : List Int} (hl : Bytes l) (s : List Int) (ok : Bool) (a b : List Int) (hs : s.length ≤ 100001) (ha : wts a = true) (hb : wts b = true) (hp : wts (conv a b) = true) : Ev (fun k => laws_FnWeightsMultiply.j5 k l s ok a b (conv a b)) true := by
  have la := wts_len ha
  have lb := wts_len hb
  have lp := wts_len hp
  refine Ev.step (fun k => by simp only [laws_FnWeightsMultiply.j5]; rfl) ?_
  have h6 := law_j6 hl
  by_cases c : ok = true
  · have l1 := filtM_len a s
    refine Ev.tt c (Ev.bind (impl_FilterSignal_ev a s (by omega) (by omega)) (Ev.bind (impl_FilterSignal_ev b (filtM a s).1 (by omega) (by omega)) (Ev.bind (impl_FilterSignal_ev (conv a b) s (by omega) (by omega)) ?_)))
    by_cases e1 : (filtM a s).2 = true
    · refine Ev.tt e1 ?_
      by_cases e2 : (filtM b (filtM a s).1).2 = true
      · refine Ev.tt e2 ?_
        by_cases e3 : (filtM (conv a b) s).2 = true
        · have f1 := filtM_t e1
          have f2 := filtM_t e2
          have f3 := filtM_t e3
          have e : (filtM b (filtM a s).1).1 = (filtM (conv a b) s).1 := by
            rw [f2.2.2.2, f3.2.2.2, f1.2.2.2]
            by_cases g : s = []
            · rw [g]
              simp [conv]
            · exact conv_assoc (wts_ne ha) (wts_ne hb) g
          have l3 := filtM_len (conv a b) s
          rw [e]
          exact Ev.tt e3 (Ev.bind (laws_iSame_ev _ (by omega)) (Ev.tt rfl h6))
        · exact Ev.ff e3 h6
      · exact Ev.ff e2 h6
    · exact Ev.ff e1 h6
  · exact Ev.ff c h6
theorem law_l0 {l : List Int} (hl : Bytes l) (s : List Int) (ok : Bool) (a b : List Int) (hs : s.length ≤ 100001) (ha : wts a = true) (hb : wts b = true) (hp : wts (conv a b) = true) : Ev (fun k => laws_FnWeightsMultiply.l0 k l s ok a b (conv a b) [false, true] 2 0) true := by
  have la := wts_len ha
  have lb := wts_len hb
  have lp := wts_len hp
  have hbn := wts_ne hb
  have hgb : rd b 0 = gD b 0 := rd_getD _ 0
  have two : Ev (fun k => laws_FnWeightsMultiply.l0 k l s ok a b (conv a b) [false, true] 2 2) true := by
    refine Ev.step (fun k => by simp only [laws_FnWeightsMultiply.l0]; rfl) (Ev.ff (by decide) (Ev.tt (by omega) ?_))
    rw [hgb]
    have h5 := law_j5 hl s ok a b hs ha hb hp
    by_cases c : gD b 0 = 0
    · exact Ev.tt c h5
    · have hd := impl_DivideWeights_ev (conv a b) b (by omega) (by omega)
      rw [divW_back ha hb hp c] at hd
      exact Ev.ff c (Ev.bind hd (Ev.tt rfl (Ev.bind (laws_iSame_ev a (by omega)) (Ev.tt rfl h5))))
  have ga : gainM a = (sm a, true) := by rw [gainM, if_pos ha]
  have gb : gainM b = (sm b, true) := by rw [gainM, if_pos hb]
  have gp : gainM (conv a b) = (sm (conv a b), true) := by rw [gainM, if_pos hp]
  have hga := impl_GainOf_ev a (by omega)
  have hgb2 := impl_GainOf_ev b (by omega)
  have hgp := impl_GainOf_ev (conv a b) (by omega)
  rw [ga] at hga; rw [gb] at hgb2; rw [gp] at hgp
  have ba := sm_bd 1000 (by omega) a (wts_mem ha)
  have bb := sm_bd 1000 (by omega) b (wts_mem hb)
  have one : Ev (fun k => laws_FnWeightsMultiply.l0 k l s ok a b (conv a b) [false, true] 2 1) true := by
    have ha2 := impl_GainAtHalf_ev a (by omega)
    have hb2 := impl_GainAtHalf_ev b (by omega)
    have hp2 := impl_GainAtHalf_ev (conv a b) (by omega)
    rw [halfM, if_pos ha] at ha2; rw [halfM, if_pos hb] at hb2; rw [halfM, if_pos hp] at hp2
    have va := evz_bd a (wts_mem ha)
    have vb := evz_bd b (wts_mem hb)
    refine Ev.step (fun k => by simp only [laws_FnWeightsMultiply.l0]; rfl) (Ev.tt (by decide) (Ev.tt (by decide) (Ev.tt (by decide) (Ev.bind hga (Ev.bind hgb2 (Ev.bind hgp (Ev.tt rfl (Ev.bind ha2 (Ev.bind hb2 (Ev.bind hp2 (Ev.tt rfl (Ev.tt rfl (Ev.tt rfl ?_)))))))))))))
    have hm := m2 (x := evz (-1) a) (y := evz (-1) b) (A := 9000) (B := 9000) (by omega) (by omega) (by omega) (by omega)
    refine Ev.tt (by rw [w64 (n := evz (-1) a * evz (-1) b) (by omega) (by omega), evz_conv (-1) hbn]) ?_
    rw [show wrap64 (1 + 1) = 2 from by unfold wrap64; omega]
    exact two
  refine Ev.step (fun k => by simp only [laws_FnWeightsMultiply.l0]; rfl) (Ev.tt (by decide) (Ev.tt (by decide) (Ev.tt (by decide) (Ev.bind hga (Ev.bind hgb2 (Ev.bind hgp ?_))))))
  refine Ev.ff (by decide) (Ev.tt rfl (Ev.tt rfl (Ev.tt rfl ?_)))
  have hm := m2 (x := sm a) (y := sm b) (A := 9000) (B := 9000) (by omega) (by omega) (by omega) (by omega)
  refine Ev.tt (by rw [w64 (n := sm a * sm b) (by omega) (by omega), sm_conv hbn]) ?_
  rw [show wrap64 (0 + 1) = 1 from by unfold wrap64; omega]
  exact one
theorem timesM_len (a b : List Int) : (timesM a b).1.length ≤ 9 := by
  unfold timesM weighM
  split
  · split
    · rename_i c
      exact (wts_len c).2
    · simp
  · simp
theorem law_j2 {l : List Int} (hl : Bytes l) (s : List Int) (ok : Bool) (hs : s.length ≤ 100001) : Ev (fun k => laws_FnWeightsMultiply.j2 k l s ok) true := by
  obtain ⟨a, b, hd, ha, hb⟩ := drawTimes_ok hl
  have h1 := impl_TimesWeights_ev a b (by omega) (by omega)
  have h2 := spec_TimesWeights_ev a b (by omega) (by omega)
  have h3 := impl_TimesWeights_ev b a (by omega) (by omega)
  have hlen := timesM_len a b
  have ec : timesM b a = timesM a b := by
    unfold timesM
    by_cases c : wts a = true
    · by_cases d : wts b = true
      · rw [if_pos (by rw [c, d]; rfl), if_pos (by rw [c, d]; rfl), conv_comm (wts_ne d) (wts_ne c)]
      · rw [Bool.eq_false_iff.mpr d, Bool.and_false, Bool.false_and, if_neg (by decide), if_neg (by decide)]
    · rw [Bool.eq_false_iff.mpr c, Bool.and_false, Bool.false_and, if_neg (by decide), if_neg (by decide)]
  rw [ec] at h3
  refine Ev.step (fun k => by simp only [laws_FnWeightsMultiply.j2]; rfl) (Ev.bind hd (Ev.bind h1 (Ev.bind h2 (Ev.bind h3 ?_))))
  refine Ev.ff (by simp) (Ev.bind (laws_iSame_ev (timesM a b).1 (by omega)) (Ev.tt rfl ?_))
  refine Ev.ff (by simp) (Ev.bind (laws_iSame_ev (timesM a b).1 (by omega)) ?_)
  refine Ev.step (fun k => by simp only [laws_FnWeightsMultiply.j3]; rfl) (Ev.ff (by decide) ?_)
  by_cases c : (wts a && wts b) = true ∧ wts (conv a b) = true
  · have e : timesM a b = (conv a b, true) := by rw [timesM, if_pos c.1, weighM, if_pos c.2]
    rw [e]
    have c1 := c.1
    simp only [Bool.and_eq_true] at c1
    exact Ev.tt rfl (Ev.dbind rfl (law_l0 hl s ok a b hs c1.1 c1.2 c.2))
  · have e : (timesM a b).2 = false := by
      unfold timesM weighM
      split
      · rename_i g
        rw [if_neg (fun x => c ⟨g, x⟩)]
      · rfl
    exact Ev.ff (by rw [e]; decide) (law_j6 hl)
theorem FnWeightsMultiply : laws_FnWeightsMultiply.Pure := by
  intro l l2 h1 h2 h3 h4 h5 h6
  apply Ev.rounds
  simp only [laws_FnWeightsMultiply.f]
  refine Ev.dbind (laws_big_eq l l2 (by omega) (by omega)) ?_
  by_cases big : 1048576 < l.length + l2.length
  · exact Ev.tt (by simpa using big) (Ev.now _)
  refine Ev.ff (by simpa using big) ?_
  have hl : Bytes l := bytes_of (by omega) h3
  have hl2 : Bytes l2 := bytes_of (by omega) h6
  obtain ⟨h, s, hd, hh, hs⟩ := drawFiltS_ok hl
  have b1 := filtM_len h s
  have b2 : (shortM h s).1.length ≤ 64 := by
    unfold shortM
    split
    · exact toldM_len _
    · simp
  refine Ev.bind hd (Ev.bind (impl_FilterSignal_ev h s (by omega) (by omega)) (Ev.bind (spec_FilterSignal_ev h s (by omega) (by omega)) (Ev.bind (impl_FilterShort_ev h s (by omega) (by omega)) (Ev.bind (spec_FilterShort_ev h s (by omega) (by omega)) ?_))))
  refine Ev.ff (by simp) (Ev.bind (laws_iSame_ev (filtM h s).1 (by omega)) (Ev.tt rfl ?_))
  refine Ev.ff (by simp) (Ev.bind (laws_iSame_ev (shortM h s).1 (by omega)) (Ev.tt rfl ?_))
  have next := law_j2 hl2 s (filtM h s).2 hs
  by_cases c : (filtM h s).2 = true
  · obtain ⟨cw, cs, cc, ce⟩ := filtM_t c
    have es : shortM h s = ((conv h s).take s.length, true) := by
      rw [shortM, if_pos (by rw [cw, cs]; rfl), toldM_t (sig_take _ cc)]
    have lw := wts_len cw
    have ls := sig_len cs
    have lc := sig_len cc
    have hg := conv_ge (h := h) (s := s) cw
    refine Ev.tt c ?_
    rw [es]
    refine Ev.step (fun k => by simp only [laws_FnWeightsMultiply.j0]; rfl) (Ev.ff (by decide) (Ev.tt c ?_))
    rw [ce, c]
    rw [c] at next
    have g1 := impl_GainOf_ev h (by omega)
    have g2 := impl_SizeGain_ev h (by omega)
    have g3 := impl_PeakOf_ev s (by omega)
    have g4 := impl_PeakOf_ev (conv h s) (by omega)
    rw [gainM, if_pos cw] at g1; rw [sizeM, if_pos cw] at g2; rw [peakOfM, if_pos cs] at g3; rw [peakOfM, if_pos cc] at g4
    have bz := szS_bd h (wts_mem cw)
    have bpk : peakM s 0 ≤ 100000 := (peak_le s 0 100000).2 ⟨by omega, fun x hx => by have := sig_mem cs x hx; omega⟩
    have bsm := sm_bd 1000 (by omega) h (wts_mem cw)
    have bss := sm_bd 100000 (by omega) s (sig_mem cs)
    have esm : sm (conv h s) = wrap64 (sm h * sm s) := by
      have hm := m2 (x := sm h) (y := sm s) (A := 9000) (B := 6400000) (by omega) (by omega) (by omega) (by omega)
      rw [w64 (n := sm h * sm s) (by omega) (by omega)]
      by_cases g : s = []
      · rw [g]
        simp [conv, sm]
      · exact sm_conv g
    have hpk : ¬ ((peakM (conv h s) 0 : Nat) : Int) > wrap64 (szS h * ((peakM s 0 : Nat) : Int)) := by
      have hm := m2 (x := szS h) (y := ((peakM s 0 : Nat) : Int)) (A := 9000) (B := 100000) (by omega) (by omega) (by omega) (by omega)
      rw [w64 (n := szS h * ((peakM s 0 : Nat) : Int)) (by omega) (by omega)]
      have hP : ∀ x ∈ s, -((peakM s 0 : Nat) : Int) ≤ x ∧ x ≤ ((peakM s 0 : Nat) : Int) := by
        intro x hx
        have := ((peak_le s 0 (peakM s 0)).1 (Nat.le_refl _)).2 x hx
        omega
      have h0 : 0 ≤ szS h * ((peakM s 0 : Nat) : Int) := Int.mul_nonneg bz.1 (by omega)
      have := (peak_le (conv h s) 0 (szS h * ((peakM s 0 : Nat) : Int)).toNat).2 ⟨by omega, fun x hx => by
        obtain ⟨n, rfl⟩ := conv_mem hx
        have := cv_peak (by omega) hP h n
        omega⟩
      omega
    have j1 : Ev (fun k => laws_FnWeightsMultiply.j1 k l2 h s (conv h s) true false) true := by
      refine Ev.step (fun k => by simp only [laws_FnWeightsMultiply.j1]; rfl) (Ev.ff (by decide) (Ev.bind (impl_DelaySignal_ev s 1 (by omega)) ?_))
      have ed : delayM s 1 = toldM (0 :: s) := by
        rw [delayM, if_pos ⟨cs, by omega, by omega⟩]
        rfl
      have ed2 : delayM (conv h s) 1 = toldM (0 :: conv h s) := by
        rw [delayM, if_pos ⟨cc, by omega, by omega⟩]
        rfl
      rw [ed]
      by_cases d : sig (0 :: s) = true
      · rw [toldM_t d]
        refine Ev.tt rfl (Ev.bind (impl_FilterSignal_ev h (0 :: s) (by omega) (by rw [List.length_cons]; omega)) (Ev.bind (impl_DelaySignal_ev (conv h s) 1 (by omega)) ?_))
        rw [ed2]
        by_cases g : s = []
        · rw [g]
          rw [g] at next
          exact Ev.ff (by simp) next
        · have gl : (s.length : Int) > 0 := by
            cases s with
            | nil => exact absurd rfl g
            | cons x t => rw [List.length_cons]; omega
          have e : filtM h (0 :: s) = toldM (0 :: conv h s) := by rw [filtM, if_pos (by rw [cw, d]; rfl), conv_delay g (wts_ne cw)]
          have tl := toldM_len (0 :: conv h s)
          rw [e]
          exact Ev.tt gl (Ev.ff (by simp) (Ev.bind (laws_iSame_ev _ (by omega)) (Ev.tt rfl next)))
      · rw [toldM_f d]
        exact Ev.ff (by decide) next
    refine Ev.bind g1 (Ev.bind g2 (Ev.bind g3 (Ev.bind g4 ?_)))
    refine Ev.tt rfl (Ev.bind (laws_iSum_ev (conv h s) (by omega) (fun x hx => by have := sig_mem cc x hx; omega)) (Ev.bind (laws_iSum_ev s (by omega) (fun x hx => by have := sig_mem cs x hx; omega)) ?_))
    refine Ev.tt esm (Ev.tt rfl (Ev.tt rfl (Ev.tt rfl (Ev.ff hpk (Ev.tt (Int.natCast_nonneg _) (Ev.tt (Int.ofNat_le.2 hg) ?_))))))
    rw [Int.toNat_natCast]
    refine Ev.bind (laws_iSame_ev _ (by rw [List.length_take]; omega)) (Ev.tt rfl ?_)
    by_cases g : (s.length : Int) > 0
    · have gn : s ≠ [] := by
        intro e
        rw [e] at g
        simp at g
      have e5 : ((conv h s).length : Int) = wrap64 (wrap64 ((h.length : Int) + (s.length : Int)) - 1) := by
        rw [w64 (n := (h.length : Int) + (s.length : Int)) (by omega) (by omega), w64 (n := (h.length : Int) + (s.length : Int) - 1) (by omega) (by omega), conv_length h s gn]
        omega
      refine Ev.tt g ?_
      rw [← e5, bne_self_eq_false]
      exact j1
    · exact Ev.ff g j1
  · refine Ev.ff c ?_
    refine Ev.step (fun k => by simp only [laws_FnWeightsMultiply.j0]; rfl) (Ev.ff (by decide) (Ev.ff c next))

end Go.Proofs.Ytjplcongellcmaa.Pure
