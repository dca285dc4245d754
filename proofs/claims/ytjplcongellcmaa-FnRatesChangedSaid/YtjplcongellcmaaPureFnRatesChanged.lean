/- Signals at other rates have the told lengths and samples, and lines go through those that are kept. Conditions: none beyond those that the statement itself prints. -/
import Derived.Test.YtjplcongellcmaaPFnRatesChangedx8
namespace Go.Proofs.Ytjplcongellcmaa.Pure
open Go.RowKit Go.Proofs.Ytjplcongellcmaa.PFnRatesChanged Go.Proofs.YtjplcongellcmaaW.PrintWords Go.Proofs.YtjplcongellcmaaW.PrintLast Go.Proofs.YtjplcongellcmaaW.PrintMore
set_option linter.unusedVariables false
set_option linter.unusedSimpArgs false

theorem w64 {n : Int} (h1 : -9223372036854775808 ≤ n) (h2 : n ≤ 9223372036854775807) : wrap64 n = n := by
  unfold wrap64
  omega
theorem Ev.to {α : Type} {g : Nat → Option α} {r r' : α} (h : Ev g r) (e : r = r') : Ev g r' := e ▸ h
theorem Ev.const {α : Type} {g : Option α} {r : α} (h : g = some r) : Ev (fun _ => g) r := ⟨0, fun _ _ => h⟩
theorem Ev.dbind {α β : Type} {g : Option α} {f : Nat → α → Option β} {a : α} {r : β} (h : g = some a) (k : Ev (fun n => f n a) r) : Ev (fun n => g.bind (f n)) r :=
  Ev.bind (g := fun _ => g) (Ev.const h) k
theorem Ev.tt {α : Type} {c : Prop} {_ : Decidable c} {g f : Nat → Option α} {r : α} (h : c) (k : Ev g r) : Ev (fun n => if c then g n else f n) r := by
  simpa only [if_pos h] using k
theorem Ev.ff {α : Type} {c : Prop} {_ : Decidable c} {g f : Nat → Option α} {r : α} (h : ¬ c) (k : Ev f r) : Ev (fun n => if c then g n else f n) r := by
  simpa only [if_neg h] using k
theorem rd_mid (p t : List Int) (x : Int) : rd (p ++ x :: t) (p.length : Int) = x := by
  simp [rd]
theorem lt_mid {α : Type} (p t : List α) (x : α) : (p.length : Int) < ((p ++ x :: t).length : Int) := by
  simp
  omega
theorem nx_mid {α : Type} (p t : List α) (x : α) (h : (p ++ x :: t).length ≤ 140737488351232) : wrap64 ((p.length : Int) + 1) = ((p ++ [x]).length : Int) := by
  simp at h ⊢
  exact w64 (by omega) (by omega)
theorem ap_mid {α : Type} (p t : List α) (x : α) : p ++ x :: t = (p ++ [x]) ++ t := by simp
theorem w64_nat (a b : Nat) (h : a + b ≤ 1000000000) : wrap64 ((a : Int) + (b : Int)) = ((a + b : Nat) : Int) := by
  rw [w64 (n := (a : Int) + (b : Int)) (by omega) (by omega)]
  omega
theorem w64_suc {α : Type} (q : List α) (x : α) (h : q.length ≤ 1000000000) : wrap64 ((q.length : Int) + 1) = ((q ++ [x]).length : Int) := by
  rw [w64 (n := (q.length : Int) + 1) (by omega) (by omega)]
  simp
theorem ar1 {a b c d : Nat} (h1 : a + 1 ≤ c) (h2 : b + 1 ≤ d) : ((a + b : Nat) : Int) < ((c + d - 1 : Nat) : Int) := by omega
theorem ar2 {a b c d : Nat} (h1 : a + 1 ≤ c) (h2 : b + 1 ≤ d) : a + b < c + d - 1 := by omega
theorem ar3 (a b : Nat) : ¬ (a ≤ a + b ∧ a + b - a < b) := by omega
theorem ar4 {v M : Int} (h : -M ≤ v ∧ v ≤ M) (hm : M ≤ 4000000000000000000) : wrap64 v = v := w64 (by omega) (by omega)
theorem ar5 {c v P M H : Int} (hc : -P ≤ c ∧ c ≤ P) (hv : -M ≤ v ∧ v ≤ M) (hp : P + M ≤ H) (hH : H ≤ 4000000000000000000) : wrap64 (c + v) = c + v := w64 (by omega) (by omega)
theorem ar6 {a b : Nat} {M : Int} (h : a + 1 ≤ b) (hM : 0 ≤ M) : (a : Int) * M + M ≤ (b : Int) * M := by
  have h1 : ((a : Int) + 1) * M ≤ (b : Int) * M := Int.mul_le_mul_of_nonneg_right (by omega) hM
  rw [Int.add_mul, Int.one_mul] at h1
  exact h1
theorem ar7 {a b c d : Nat} (h1 : a + 1 ≤ c) (h2 : b + 1 ≤ d) (h : c + d ≤ 100000000) : a + b ≤ 1000000000 := by omega
theorem ar8 {a c d : Nat} (h1 : a + 1 ≤ c) (h : c + d ≤ 100000000) : a ≤ 1000000000 := by omega
theorem tm (a b : Nat) : Int.tmod (a : Int) (b : Int) = ((a % b : Nat) : Int) := (Int.ofNat_tmod a b).symm
theorem td (a b : Nat) : Int.tdiv (a : Int) (b : Int) = ((a / b : Nat) : Int) := (Int.ofNat_tdiv a b).symm
theorem w64n {a : Nat} (h : a ≤ 1000000000) : wrap64 (a : Int) = (a : Int) := w64 (by omega) (by omega)

def backOf (n : Int) : Int × Bool := if n = 3 then (-1, true) else if n = 4 then (0, true) else if n = 6 then (1, true) else (0, false)
def tnF (c : Int) : List Int → Int → Int → Int × Int
  | [], y, z => (y, z)
  | x :: t, y, z => tnF c t (wrap64 ((wrap64 (x + (wrap64 (c * y)))) - z)) y
def sig (l : List Int) : Bool := decide (l.length ≤ 64) && l.all fun x => decide (-100000 ≤ x) && decide (x ≤ 100000)
def toneStates (l : List Int) (n : Int) : Int × Int × Bool := if (backOf n).2 = true then (if sig l = true then ((tnF (backOf n).1 l 0 0).1, (tnF (backOf n).1 l 0 0).2, true) else (0, 0, false)) else (0, 0, false)
theorem sig_len {l : List Int} (h : sig l = true) : l.length ≤ 64 := by
  simp [sig] at h
  exact h.1
theorem sig_mem {l : List Int} (h : sig l = true) : ∀ x ∈ l, -100000 ≤ x ∧ x ≤ 100000 := by
  simp [sig] at h
  exact h.2
def isBits (l : List Int) : Bool := decide (l.length ≤ 200) && l.all fun x => decide (x = 1 ∨ x = -1)
theorem isBits_len {l : List Int} (h : isBits l = true) : l.length ≤ 200 := by
  simp [isBits] at h
  exact h.1
theorem isBits_mem {l : List Int} (h : isBits l = true) : ∀ x ∈ l, x = 1 ∨ x = -1 := by
  simp [isBits] at h
  exact h.2
def toldM (l : List Int) : List Int × Bool := if sig l = true then (l, true) else ([], false)
theorem toldM_len (l : List Int) : (toldM l).1.length ≤ 64 := by
  unfold toldM
  split
  · exact sig_len ‹_›
  · simp
def bitM (x v : Int) : Int := if x ≥ v then 1 else -1
theorem bitM_cases (x v : Int) : bitM x v = 1 ∨ bitM x v = -1 := by
  unfold bitM
  split <;> simp
def tkS (st last : Int) (fixed : Bool) (bit : Int) : Int :=
  if fixed = true then st else if last = 0 then st else if bit = last then (if 2 * st ≤ 4096 then 2 * st else 4096) else (if 1 ≤ st / 2 then st / 2 else 1)
theorem tkS_bd {st last : Int} {fixed : Bool} {bit : Int} (h0 : 1 ≤ st) (h1 : st ≤ 4096) : 1 ≤ tkS st last fixed bit ∧ tkS st last fixed bit ≤ 4096 := by
  unfold tkS
  repeat' split
  all_goals omega
theorem mul_bit {st bit : Int} (hb : bit = 1 ∨ bit = -1) : st * bit = st ∨ st * bit = -st := by
  rcases hb with rfl | rfl
  · left; omega
  · right; omega
/-- bit, value and step behind each sample -/
def codeM (fixed : Bool) : List Int → Int → Int → Int → List (Int × Int × Int)
  | [], _, _, _ => []
  | x :: t, v, st, last =>
    let b := bitM x v
    let s := tkS st last fixed b
    (b, v + s * b, s) :: codeM fixed t (v + s * b) s b
theorem codeM_length (fixed : Bool) : ∀ (l : List Int) (v st last : Int), (codeM fixed l v st last).length = l.length
  | [], _, _, _ => rfl
  | x :: t, v, st, last => by simp [codeM, codeM_length fixed t]
def fixM (st : Int) : List Int → Int → List Int
  | [], _ => []
  | x :: t, v => bitM x v :: fixM st t (v + bitM x v * st)
theorem fixM_length (st : Int) : ∀ (l : List Int) (v : Int), (fixM st l v).length = l.length
  | [], _ => rfl
  | x :: t, v => by simp [fixM, fixM_length st t]
def fixedBits (l : List Int) (st : Int) : List Int × Bool := if sig l = true ∧ 1 ≤ st ∧ st ≤ 4096 then (fixM st l 0, true) else ([], false)
def decM (fixed : Bool) : List Int → Int → Int → Int → List (Int × Int)
  | [], _, _, _ => []
  | b :: t, v, st, last => (v + tkS st last fixed b * b, tkS st last fixed b) :: decM fixed t (v + tkS st last fixed b * b) (tkS st last fixed b) b
theorem decM_length (fixed : Bool) : ∀ (l : List Int) (v st last : Int), (decM fixed l v st last).length = l.length
  | [], _, _, _ => rfl
  | x :: t, v, st, last => by simp [decM, decM_length fixed t]
def gapM : List Int → List Int → List Int
  | x :: t, y :: u => (x - y) :: gapM t u
  | _, _ => []
theorem gapM_length : ∀ (l m : List Int), l.length = m.length → (gapM l m).length = l.length
  | [], m, _ => by cases m <;> simp [gapM]
  | x :: t, [], h => by simp at h
  | x :: t, y :: u, h => by
    simp at h
    simp [gapM, gapM_length t u h]
theorem codeM_val (fixed : Bool) : ∀ (l : List Int) (v st last : Int) (n : Int), 1 ≤ st → st ≤ 4096 → -4096 * n ≤ v → v ≤ 4096 * n → ∀ y ∈ (codeM fixed l v st last).map (·.2.1), -4096 * (n + l.length) ≤ y ∧ y ≤ 4096 * (n + l.length)
  | [], _, _, _, _, _, _, _, _, y, hy => by simp [codeM] at hy
  | x :: t, v, st, last, n, h0, h1, hv0, hv1, y, hy => by
    have hb := bitM_cases x v
    have hk := tkS_bd (last := last) (fixed := fixed) (bit := bitM x v) h0 h1
    have hm := mul_bit (st := tkS st last fixed (bitM x v)) hb
    simp only [codeM, List.map_cons, List.mem_cons] at hy
    rcases hy with rfl | hy
    · simp; omega
    · have := codeM_val fixed t _ _ _ (n + 1) hk.1 hk.2 (by omega) (by omega) y hy
      simp; omega
def stepOk (st : Int) : Bool := decide (1 ≤ st) && decide (st ≤ 4096)
theorem stepOk_iff {st : Int} : stepOk st = true ↔ 1 ≤ st ∧ st ≤ 4096 := by simp [stepOk]
def stepBits (l : List Int) (st : Int) : List Int × Bool := if sig l = true then (if stepOk st = true then ((codeM false l 0 st 0).map (·.1), true) else ([], false)) else ([], false)
def stepValues (l : List Int) (st : Int) : List Int × Bool := if isBits l = true then (if stepOk st = true then toldM ((decM false l 0 st 0).map (·.1)) else ([], false)) else ([], false)
def stepsOfBits (l : List Int) (st : Int) : List Int × Bool := if isBits l = true then (if stepOk st = true then toldM ((decM false l 0 st 0).map (·.2)) else ([], false)) else ([], false)
def fixedValues (l : List Int) (st : Int) : List Int × Bool := if isBits l = true then (if stepOk st = true then toldM ((decM true l 0 st 0).map (·.1)) else ([], false)) else ([], false)
def stepGaps (l : List Int) (st : Int) : List Int × Bool := if sig l = true then (if stepOk st = true then toldM (gapM l ((codeM false l 0 st 0).map (·.2.1))) else ([], false)) else ([], false)
def wts (l : List Int) : Bool := decide (1 ≤ l.length) && decide (l.length ≤ 9) && l.all fun x => decide (-1000 ≤ x) && decide (x ≤ 1000)
theorem wts_len {l : List Int} (h : wts l = true) : 1 ≤ l.length ∧ l.length ≤ 9 := by
  simp [wts] at h
  exact ⟨h.1.1, h.1.2⟩
theorem wts_mem {l : List Int} (h : wts l = true) : ∀ x ∈ l, -1000 ≤ x ∧ x ≤ 1000 := by
  simp [wts] at h
  exact h.2
def ratio (p q : Int) : Bool := (decide (1 ≤ p) && decide (p ≤ 8)) && (decide (1 ≤ q) && decide (q ≤ 8))
theorem ratio_iff {p q : Int} : ratio p q = true ↔ (1 ≤ p ∧ p ≤ 8) ∧ (1 ≤ q ∧ q ≤ 8) := by simp [ratio]
def rsOk (h l : List Int) (p q : Int) : Bool := wts h && ((sig l && ratio p q) && decide ((l.length : Int) * p ≤ 64))
def peakM : List Int → Nat → Nat
  | [], m => m
  | x :: t, m => peakM t (max m x.natAbs)

def cv : List Int → List Int → Nat → Int
  | [], _, _ => 0
  | w :: _, s, 0 => w * s.getD 0 0
  | w :: h, s, n + 1 => w * s.getD (n + 1) 0 + cv h s n
def Lf (f : Nat → Int) (N : Nat) : List Int := (List.range N).map f
theorem Lf_length (f : Nat → Int) (N : Nat) : (Lf f N).length = N := by simp [Lf]
theorem rd_Lf (f : Nat → Int) (N i : Nat) (h : i < N) : rd (Lf f N) (i : Int) = f i := by
  simp [rd, Lf, h]
theorem set_Lf (f : Nat → Int) (N i : Nat) (v : Int) : (Lf f N).set i v = Lf (fun n => if n = i then v else f n) N := by
  apply List.ext_getElem
  · simp [Lf]
  · intro n h1 h2
    simp [Lf, List.getElem_set]
    by_cases c : i = n
    · simp [c]
    · rw [if_neg c, if_neg (fun h => c h.symm)]
theorem Lf_congr {f g : Nat → Int} {N : Nat} (h : ∀ n, n < N → f n = g n) : Lf f N = Lf g N := by
  apply List.ext_getElem
  · simp [Lf]
  · intro n h1 h2
    simp [Lf] at h1 ⊢
    exact h n h1
theorem cv_snoc (s : List Int) (w : Int) : ∀ (p : List Int) (n : Nat), cv (p ++ [w]) s n = cv p s n + (if p.length ≤ n then w * s.getD (n - p.length) 0 else 0)
  | [], 0 => by simp [cv]
  | [], n + 1 => by simp [cv]
  | a :: p, 0 => by simp [cv]
  | a :: p, n + 1 => by
    simp only [List.cons_append, cv, cv_snoc s w p n, List.length_cons, Nat.add_le_add_iff_right, Nat.add_sub_add_right]
    omega
theorem getD_bd {s : List Int} {a M : Int} (hM : 0 ≤ M) (h : ∀ x ∈ s, -M ≤ a * x ∧ a * x ≤ M) (n : Nat) : -M ≤ a * s.getD n 0 ∧ a * s.getD n 0 ≤ M := by
  rw [List.getD_eq_getElem?_getD]
  by_cases c : n < s.length
  · rw [List.getElem?_eq_getElem c]
    exact h _ (List.getElem_mem c)
  · rw [List.getElem?_eq_none (by omega)]
    simp
    omega
theorem cv_bd {s : List Int} {M : Int} (hM : 0 ≤ M) : ∀ (h : List Int) (n : Nat), (∀ a ∈ h, ∀ x ∈ s, -M ≤ a * x ∧ a * x ≤ M) → -(h.length * M) ≤ cv h s n ∧ cv h s n ≤ h.length * M
  | [], n, hb => by simp [cv]
  | a :: h, 0, hb => by
    have h1 := getD_bd hM (hb a (by simp)) 0
    have h2 : 0 ≤ (h.length : Int) * M := Int.mul_nonneg (by omega) hM
    simp only [cv, List.length_cons, Int.natCast_add, Int.add_mul]
    omega
  | a :: h, n + 1, hb => by
    have h1 := getD_bd hM (hb a (by simp)) (n + 1)
    have h2 := cv_bd hM h n (fun b hbm => hb b (by simp [hbm]))
    simp only [cv, List.length_cons, Int.natCast_add, Int.add_mul]
    omega
def conv (h s : List Int) : List Int := if s = [] then [] else Lf (cv h s) (h.length + s.length - 1)
theorem conv_length (h s : List Int) (hs : s ≠ []) : (conv h s).length = h.length + s.length - 1 := by
  rw [conv, if_neg hs, Lf_length]
/-- what stands in the list when the weights p are done, and of the weight w the samples q -/
def cvi (p q s : List Int) (w : Int) (n : Nat) : Int := cv p s n + (if p.length ≤ n ∧ n - p.length < q.length then w * s.getD (n - p.length) 0 else 0)
theorem cvi_nil (p s : List Int) (w : Int) : cvi p [] s w = cv p s := by
  funext n
  simp [cvi]
theorem cvi_all (p s : List Int) (w : Int) (n : Nat) : cvi p s s w n = cv (p ++ [w]) s n := by
  rw [cv_snoc, cvi]
  by_cases c : p.length ≤ n
  · by_cases d : n - p.length < s.length
    · rw [if_pos ⟨c, d⟩, if_pos c]
    · rw [if_neg (fun h => d h.2), if_pos c, List.getD_eq_getElem?_getD, List.getElem?_eq_none (by omega)]
      simp
  · rw [if_neg (fun h => c h.1), if_neg c]
theorem getD_mid (q t : List Int) (x : Int) : (q ++ x :: t).getD q.length 0 = x := by simp
theorem cvi_step (p q t : List Int) (w x : Int) (n : Nat) : (if n = p.length + q.length then cvi p q (q ++ x :: t) w n + w * x else cvi p q (q ++ x :: t) w n) = cvi p (q ++ [x]) (q ++ x :: t) w n := by
  unfold cvi
  by_cases c : n = p.length + q.length
  · subst c
    have e : p.length + q.length - p.length = q.length := by omega
    rw [if_pos rfl, e, getD_mid, if_neg (by omega), if_pos ⟨by omega, by simp⟩]
    omega
  · rw [if_neg c]
    by_cases d : p.length ≤ n ∧ n - p.length < q.length
    · rw [if_pos d, if_pos ⟨d.1, by simp; omega⟩]
    · rw [if_neg d, if_neg (fun h => d ⟨h.1, by have := h.2; simp at this; omega⟩)]
theorem Lf_succ (f : Nat → Int) (n : Nat) : Lf f (n + 1) = Lf f n ++ [f n] := by simp [Lf, List.range_succ]
def dropN (len rate first : Nat) : Nat := (len - first + rate - 1) / rate
theorem dropN_lt {len rate first j : Nat} (hr : 1 ≤ rate) : j < dropN len rate first ↔ first + j * rate < len := by
  unfold dropN
  rw [Nat.lt_iff_add_one_le, Nat.le_div_iff_mul_le (by omega), Nat.add_mul]
  omega
def dropM (l : List Int) (rate first : Nat) : List Int := Lf (fun j => l.getD (first + j * rate) 0) (dropN l.length rate first)
theorem dropM_length (l : List Int) (rate first : Nat) : (dropM l rate first).length = dropN l.length rate first := Lf_length _ _
theorem dropN_le {len rate first : Nat} (hr : 1 ≤ rate) : dropN len rate first ≤ len := by
  apply Nat.le_of_not_lt
  intro h
  have := (dropN_lt hr).1 h
  have h2 : len * 1 ≤ len * rate := Nat.mul_le_mul_left len hr
  omega
def stuffM (p : Nat) : List Int → List Int
  | [] => []
  | x :: t => (x :: List.replicate (p - 1) 0) ++ stuffM p t
theorem stuffM_length (p : Nat) (hp : 1 ≤ p) : ∀ l : List Int, (stuffM p l).length = l.length * p
  | [] => by simp [stuffM]
  | x :: t => by
    simp only [stuffM, List.length_append, List.length_cons, List.length_replicate, stuffM_length p hp t, Nat.add_mul]
    omega
theorem stuffM_snoc (p : Nat) (x : Int) : ∀ l : List Int, stuffM p (l ++ [x]) = stuffM p l ++ (x :: List.replicate (p - 1) 0)
  | [] => by simp [stuffM]
  | y :: t => by simp [stuffM, stuffM_snoc p x t]
theorem rd_getD (l : List Int) (i : Nat) : rd l (i : Int) = l.getD i 0 := by simp [rd]
theorem stuffM_sig (p : Nat) : ∀ l : List Int, (∀ x ∈ l, -100000 ≤ x ∧ x ≤ 100000) → ∀ x ∈ stuffM p l, -100000 ≤ x ∧ x ≤ 100000
  | [], _, x, h => by simp [stuffM] at h
  | y :: t, hl, x, h => by
    simp only [stuffM, List.mem_append, List.mem_cons, List.mem_replicate] at h
    rcases h with (rfl | ⟨_, rfl⟩) | h
    · exact hl _ (by simp)
    · omega
    · exact stuffM_sig p t (fun z hz => hl z (by simp [hz])) x h
theorem sig_iff {l : List Int} : sig l = true ↔ l.length ≤ 64 ∧ ∀ x ∈ l, -100000 ≤ x ∧ x ≤ 100000 := by simp [sig]
theorem ediv_bd {x b : Int} (hb : 0 < b) (hx : -4611686018427387904 ≤ x ∧ x ≤ 4611686018427387904) : -4611686018427387905 ≤ x / b ∧ x / b ≤ 4611686018427387905 := by
  have h0 := Int.emod_nonneg x (show b ≠ 0 by omega)
  have h1 := Int.emod_lt_of_pos x hb
  have h2 := Int.emod_add_mul_ediv x b
  constructor
  · apply Int.not_lt.1
    intro h
    have : b * (x / b) ≤ 1 * (x / b) := Int.mul_le_mul_of_nonpos_right (by omega) (by omega)
    have h3 : b * (x / b) ≤ b * (-4611686018427387906) := Int.mul_le_mul_of_nonneg_left (by omega) (by omega)
    omega
  · apply Int.not_lt.1
    intro h
    have h3 : 1 * (x / b) ≤ b * (x / b) := Int.mul_le_mul_of_nonneg_right (by omega) (by omega)
    omega
def atM (s : List Int) (i : Int) : Int := if 0 ≤ i then s.getD i.toNat 0 else 0
theorem getD_all {l : List Int} {M : Int} (hM : 0 ≤ M) (h : ∀ x ∈ l, -M ≤ x ∧ x ≤ M) (n : Nat) : -M ≤ l.getD n 0 ∧ l.getD n 0 ≤ M := by
  rw [List.getD_eq_getElem?_getD]
  by_cases c : n < l.length
  · rw [List.getElem?_eq_getElem c]
    exact h _ (List.getElem_mem c)
  · rw [List.getElem?_eq_none (by omega)]
    simp
    omega

theorem spec_l1In_eq (a b c : Int) : spec_l1In.f a b c = some (decide (b ≤ a) && decide (a ≤ c)) := by
  unfold spec_l1In.f
  by_cases h : b ≤ a <;> simp [h]

theorem impl_in_eq (a b c : Int) : impl_in.f a b c = some (decide (b ≤ a) && decide (a ≤ c)) := by
  unfold impl_in.f
  by_cases h : b ≤ a <;> simp [h]

theorem spec_l1All_l0 (lo hi : Int) (l : List Int) (hl : l.length ≤ 140737488351232) : ∀ (t p : List Int), l = p ++ t → Ev (fun k => spec_l1All.l0 k lo hi l (l.length : Int) (p.length : Int)) (t.all fun x => decide (lo ≤ x) && decide (x ≤ hi))
  | [], p, h => by
    apply Ev.step (f := fun _ => some _)
    · intro k
      subst h
      simp [spec_l1All.l0]; rfl
    · exact Ev.now _
  | x :: t, p, h => by
    have e1 : (p.length : Int) < (l.length : Int) := by rw [h]; exact lt_mid p t x
    have e2 : rd l (p.length : Int) = x := by rw [h]; exact rd_mid p t x
    have e3 : wrap64 ((p.length : Int) + 1) = ((p ++ [x]).length : Int) := nx_mid p t x (h ▸ hl)
    by_cases c : (decide (lo ≤ x) && decide (x ≤ hi)) = true
    · refine Ev.to (Ev.step (fun k => ?_) (spec_l1All_l0 lo hi l hl t (p ++ [x]) (by simp [h]))) (by rw [List.all_cons, c, Bool.true_and])
      simp only [spec_l1All.l0, if_pos e1, if_pos (Int.natCast_nonneg _), e2, e3, spec_l1In_eq, Option.bind_some, if_pos c]
    · refine Ev.to (Ev.step (fun k => ?_) (Ev.now false)) (by rw [List.all_cons, Bool.eq_false_iff.mpr c, Bool.false_and])
      simp only [spec_l1All.l0, if_pos e1, if_pos (Int.natCast_nonneg _), e2, e3, spec_l1In_eq, Option.bind_some, if_neg c]
theorem spec_l1All_ev (l : List Int) (lo hi : Int) (hl : l.length ≤ 140737488351232) : Ev (fun k => spec_l1All.f k l lo hi) (l.all fun x => decide (lo ≤ x) && decide (x ≤ hi)) := by
  simpa [spec_l1All.f] using spec_l1All_l0 lo hi l hl l [] rfl

theorem spec_wdSignal_ev (l : List Int) (hl : l.length ≤ 140737488351232) : Ev (fun k => spec_wdSignal.f k l) (sig l) := by
  simp only [spec_wdSignal.f]
  by_cases c : (l.length : Int) ≤ 64
  · refine Ev.tt c (Ev.bind (spec_l1All_ev l (-100000) 100000 hl) (Ev.to (Ev.now _) ?_))
    simp [sig]; omega
  · refine Ev.ff c (Ev.to (Ev.now _) ?_)
    simp [sig]; omega

theorem impl_isSignal_c1_eq (x : Int) : impl_isSignal_c1.f x = some (!(decide (-100000 ≤ x) && decide (x ≤ 100000))) := by
  unfold impl_isSignal_c1.f
  rw [impl_in_eq]
  rfl
theorem indexSignal_l0 (l : List Int) (hl : l.length ≤ 140737488351232) : ∀ (t p : List Int), l = p ++ t → ∃ r, Ev (fun k => slices_IndexFunc_int_int_impl_isSignal_c1.l0 k l (l.length : Int) (p.length : Int)) r ∧ (decide (r ≥ 0) = !(t.all fun x => decide (-100000 ≤ x) && decide (x ≤ 100000)))
  | [], p, h => by
    refine ⟨-1, Ev.step (f := fun _ => some (-1)) ?_ (Ev.now _), by simp⟩
    intro k
    subst h
    simp [slices_IndexFunc_int_int_impl_isSignal_c1.l0]
  | x :: t, p, h => by
    have e1 : (p.length : Int) < (l.length : Int) := by rw [h]; exact lt_mid p t x
    have e2 : rd l (p.length : Int) = x := by rw [h]; exact rd_mid p t x
    have e3 : wrap64 ((p.length : Int) + 1) = ((p ++ [x]).length : Int) := nx_mid p t x (h ▸ hl)
    by_cases c : (decide (-100000 ≤ x) && decide (x ≤ 100000)) = true
    · obtain ⟨r, h1, h2⟩ := indexSignal_l0 l hl t (p ++ [x]) (by simp [h])
      refine ⟨r, Ev.step (fun k => ?_) h1, by rw [h2, List.all_cons, c, Bool.true_and]⟩
      simp only [slices_IndexFunc_int_int_impl_isSignal_c1.l0, if_pos e1, if_pos (Int.natCast_nonneg _), e2, e3, impl_isSignal_c1_eq, c, Option.bind_some, Bool.not_true]
      rfl
    · have c := Bool.eq_false_iff.mpr c
      refine ⟨(p.length : Int), Ev.step (fun k => ?_) (Ev.now _), by rw [List.all_cons, c]; simp⟩
      simp only [slices_IndexFunc_int_int_impl_isSignal_c1.l0, if_pos e1, if_pos (Int.natCast_nonneg _), e2, e3, impl_isSignal_c1_eq, c, Option.bind_some, Bool.not_false]
      rfl
theorem impl_isSignal_ev (l : List Int) (hl : l.length ≤ 140737488351232) : Ev (fun k => impl_isSignal.f k l) (sig l) := by
  simp only [impl_isSignal.f]
  by_cases c : (l.length : Int) ≤ 64
  · obtain ⟨r, h1, h2⟩ := indexSignal_l0 l hl l [] rfl
    refine Ev.tt c (Ev.bind (a := decide (r ≥ 0)) ?_ (Ev.to (Ev.now _) ?_))
    · simp only [slices_ContainsFunc_int_int_impl_isSignal_c1.f, slices_IndexFunc_int_int_impl_isSignal_c1.f]
      exact Ev.bind h1 (Ev.now _)
    · rw [h2]; simp [sig]; omega
  · refine Ev.ff c (Ev.to (Ev.now _) ?_)
    simp [sig]; omega

theorem spec_wdIf_ev (l : List Int) (hl : l.length ≤ 140737488351232) : Ev (fun k => spec_wdIf.f k l) (toldM l) := by
  simp only [spec_wdIf.f, toldM]
  refine Ev.bind (spec_wdSignal_ev l hl) ?_
  by_cases c : sig l = true
  · exact Ev.tt c (Ev.to (Ev.now _) (by rw [if_pos c]))
  · exact Ev.ff c (Ev.to (Ev.now _) (by rw [if_neg c]))

theorem impl_told_ev (l : List Int) (hl : l.length ≤ 140737488351232) : Ev (fun k => impl_told.f k l) (toldM l) := by
  simp only [impl_told.f, toldM]
  refine Ev.bind (impl_isSignal_ev l hl) ?_
  by_cases c : sig l = true
  · exact Ev.tt c (Ev.to (Ev.now _) (by rw [if_pos c]))
  · exact Ev.ff c (Ev.to (Ev.now _) (by rw [if_neg c]))

theorem spec_rsRatio_eq (p q : Int) : spec_rsRatio.f p q = some (ratio p q) := by
  unfold spec_rsRatio.f ratio
  rw [spec_l1In_eq]
  simp only [Option.bind_some, spec_l1In_eq]
  by_cases c : (decide (1 ≤ p) && decide (p ≤ 8)) = true
  · rw [if_pos c, c, Bool.true_and]
  · rw [if_neg c, Bool.eq_false_iff.mpr c, Bool.false_and]

theorem impl_isRatio_eq (p q : Int) : impl_isRatio.f p q = some (ratio p q) := by
  unfold impl_isRatio.f ratio
  rw [impl_in_eq]
  simp only [Option.bind_some, impl_in_eq]
  by_cases c : (decide (1 ≤ p) && decide (p ≤ 8)) = true
  · rw [if_pos c, c, Bool.true_and]
  · rw [if_neg c, Bool.eq_false_iff.mpr c, Bool.false_and]

theorem spec_rsGood_ev (l : List Int) (p q : Int) (hl : l.length ≤ 140737488351232) : Ev (fun k => spec_rsGood.f k l p q) (sig l && ratio p q) := by
  simp only [spec_rsGood.f]
  refine Ev.bind (spec_wdSignal_ev l hl) ?_
  by_cases c : sig l = true
  · rw [c, Bool.true_and]
    refine Ev.tt rfl (Ev.dbind (spec_rsRatio_eq p q) (Ev.now _))
  · rw [Bool.eq_false_iff.mpr c, Bool.false_and]
    exact Ev.ff (by decide) (Ev.now _)

/-- What a cursor gives: a value with P, and at most c steps further. -/
def Dr {α : Type} (P : α → Prop) (c : Int) (a : Int) (g : Option (α × Int × Int)) : Prop := ∃ v a' sd, g = some (v, a', sd) ∧ a ≤ a' ∧ a' ≤ a + c ∧ P v
theorem u64_bd (n : Int) : 0 ≤ IntKind.u64.wrap n ∧ IntKind.u64.wrap n < 18446744073709551616 := by
  simp only [IntKind.wrap, IntKind.bits, IntKind.signed]
  simp
  omega
theorem u64_and255 (x : Int) (h0 : 0 ≤ x) (h1 : x < 18446744073709551616) : Go.bits .and .u64 x 255 = x % 256 :=
  bits_mask .u64 64 (by decide) (fun n h0 h1 => by
    simp only [IntKind.wrap, IntKind.bits, IntKind.signed]
    simp
    omega) 8 (by decide) x h0 h1
def Bytes (l : List Int) : Prop := l.length ≤ 1048576 ∧ ∀ x ∈ l, 0 ≤ x ∧ x ≤ 255
theorem next_ok {l : List Int} (hl : Bytes l) (a sd : Int) (h0 : 0 ≤ a) (h1 : a ≤ 1000000000000000) : Dr (fun v => 0 ≤ v ∧ v ≤ 255) 1 a (spec_l1Cur_next.f l a sd) := by
  have hw : wrap64 (a + 1) = a + 1 := w64 (by omega) (by omega)
  have hm : ∀ y : Int, 0 ≤ wrap64 (Go.bits .and .u64 (IntKind.u64.wrap y / 1099511627776) 255) ∧ wrap64 (Go.bits .and .u64 (IntKind.u64.wrap y / 1099511627776) 255) ≤ 255 := by
    intro y
    have hy := u64_bd y
    rw [u64_and255 _ (by omega) (by omega), w64 (n := IntKind.u64.wrap y / 1099511627776 % 256) (by omega) (by omega)]
    omega
  unfold spec_l1Cur_next.f
  by_cases c : a < (l.length : Int)
  · have hr : 0 ≤ rd l a ∧ rd l a ≤ 255 := by
      obtain ⟨n, rfl⟩ : ∃ n : Nat, a = (n : Int) := ⟨a.toNat, by omega⟩
      have hn : n < l.length := by omega
      rw [rd_getD, List.getD_eq_getElem?_getD, List.getElem?_eq_getElem hn]
      exact hl.2 _ (List.getElem_mem hn)
    rw [if_pos c, if_pos h0, hw, if_pos (by omega), w64 (n := rd l a) (by omega) (by omega)]
    exact ⟨_, _, _, rfl, by omega, by omega, hr⟩
  · rw [if_neg c, hw]
    by_cases d : a + 1 ≤ (l.length : Int)
    · omega
    · rw [if_neg d]
      exact ⟨_, _, _, rfl, by omega, by omega, hm _⟩

theorem pick_ok {l : List Int} (hl : Bytes l) (a sd n : Int) (h0 : 0 ≤ a) (h1 : a ≤ 100000000000000) (hn : n ≤ 1000000) : Dr (fun v => 0 ≤ v ∧ (v < n ∨ v = 0)) 2 a (spec_l1Cur_pick.f l a sd n) := by
  unfold spec_l1Cur_pick.f
  by_cases c : n ≤ 1
  · rw [if_pos c]
    exact ⟨_, _, _, rfl, by omega, by omega, by omega, .inr rfl⟩
  · rw [if_neg c]
    obtain ⟨v, a', sd', e, ha, hb, hv⟩ := next_ok hl a sd h0 (by omega)
    rw [e]
    simp only [Option.bind_some]
    have hn0 : ¬ n = 0 := by omega
    by_cases d : n > 200
    · rw [if_pos d]
      obtain ⟨v2, a2, sd2, e2, ha2, hb2, hv2⟩ := next_ok hl a' sd' (by omega) (by omega)
      rw [e2]
      simp only [Option.bind_some]
      rw [if_neg hn0, w64 (n := v * 256) (by omega) (by omega), w64 (n := v * 256 + v2) (by omega) (by omega), Int.tmod_eq_emod_of_nonneg (by omega)]
      have := Int.emod_nonneg (v * 256 + v2) hn0
      have := Int.emod_lt_of_pos (v * 256 + v2) (show 0 < n by omega)
      exact ⟨_, _, _, rfl, by omega, by omega, by omega, .inl (by omega)⟩
    · rw [if_neg d, if_neg hn0, Int.tmod_eq_emod_of_nonneg (by omega)]
      have := Int.emod_nonneg v hn0
      have := Int.emod_lt_of_pos v (show 0 < n by omega)
      exact ⟨_, _, _, rfl, by omega, by omega, by omega, .inl (by omega)⟩

theorem among_ok {l : List Int} (hl : Bytes l) (a sd : Int) (m : List Int) (h0 : 0 ≤ a) (h1 : a ≤ 100000000000000) (hm : 1 ≤ m.length) (hm2 : m.length ≤ 1000) : Dr (fun v => v ∈ m) 2 a (spec_l1Cur_among.f l a sd m) := by
  unfold spec_l1Cur_among.f
  obtain ⟨v, a', sd', e, ha, hb, hv, hv2⟩ := pick_ok hl a sd (m.length : Int) h0 h1 (by omega)
  rw [e]
  simp only [Option.bind_some]
  rw [if_pos hv, if_pos (by omega)]
  refine ⟨_, _, _, rfl, ha, hb, ?_⟩
  obtain ⟨n, rfl⟩ : ∃ n : Nat, v = (n : Int) := ⟨v.toNat, by omega⟩
  have hn : n < m.length := by omega
  rw [rd_getD, List.getD_eq_getElem?_getD, List.getElem?_eq_getElem hn]
  exact List.getElem_mem hn

theorem one_ok {l : List Int} (hl : Bytes l) (a sd n : Int) (h0 : 0 ≤ a) (h1 : a ≤ 100000000000000) (hn : n ≤ 1000000) : Dr (fun _ => True) 2 a (spec_l1Cur_one.f l a sd n) := by
  unfold spec_l1Cur_one.f
  obtain ⟨v, a', sd', e, ha, hb, hv, hv2⟩ := pick_ok hl a sd n h0 h1 hn
  rw [e]
  simp only [Option.bind_some]
  exact ⟨_, _, _, rfl, ha, hb, trivial⟩

theorem laws_big_eq (l m : List Int) (hl : l.length ≤ 140737488355328) (hm : m.length ≤ 140737488355328) : laws_big.f l m = some (decide (1048576 < l.length + m.length)) := by
  unfold laws_big.f
  by_cases c : (l.length : Int) > 1048576
  · rw [if_pos c]
    simp; omega
  · rw [if_neg c, w64 (n := 1048576 - (l.length : Int)) (by omega) (by omega)]
    simp; omega
theorem bytes_of {l : List Int} (h : l.length ≤ 1048576) (hx : ∀ x ∈ l, (Lit.int .u8 x).wf = true) : Bytes l := by
  refine ⟨h, fun x hxl => ?_⟩
  have := hx x hxl
  simp [Lit.wf, IntKind.min, IntKind.max, IntKind.signed, IntKind.bits] at this
  omega

/-- A number shifted: down, to the nearest one, towards 0. -/
def shM (x b mode : Int) : Int := if mode = 1 ∧ b ≤ 2 * (x % b) ∧ 0 < x % b then x / b + 1 else if mode = 2 ∧ x < 0 ∧ 0 < x % b then x / b + 1 else x / b
theorem div_uniq {x b q r : Int} (h : x = q * b + r) (h0 : 0 ≤ r) (h1 : r < b) : x / b = q := by
  have hb : 0 < b := by omega
  exact ((Int.ediv_emod_unique hb).2 ⟨by rw [h, Int.mul_comm]; omega, h0, h1⟩).1
theorem pow2_pos (s : Nat) : (0 : Int) < 2 ^ s := Int.pow_pos (by decide)
theorem pow2_le {s : Nat} (h : s ≤ 20) : (2 : Int) ^ s ≤ 1048576 := by
  have h1 : (2 : Nat) ^ s ≤ 2 ^ 20 := Nat.pow_le_pow_right (by decide) h
  have h3 : (2 : Int) ^ s = (((2 : Nat) ^ s : Nat) : Int) := by simp
  rw [h3]
  have h2 : (2 : Nat) ^ 20 = 1048576 := by decide
  omega
theorem shl_one {s : Nat} (h : s ≤ 20) : shl .i64 1 (s : Int) = 2 ^ s := by
  unfold shl
  have h1 : min ((s : Int)).toNat IntKind.i64.bits = s := by
    simp [IntKind.bits]; omega
  rw [h1, Int.one_mul, IntKind.wrap_i64]
  have := pow2_pos s
  have := pow2_le h
  omega
theorem shl_mul {s : Nat} (h : s ≤ 20) (y : Int) (h1 : -9223372036854775808 ≤ y * 2 ^ s) (h2 : y * 2 ^ s ≤ 9223372036854775807) : shl .i64 y (s : Int) = y * 2 ^ s := by
  unfold shl
  have e : min ((s : Int)).toNat IntKind.i64.bits = s := by
    simp [IntKind.bits]; omega
  rw [e, IntKind.wrap_i64]
  omega
theorem shr_div {s : Nat} (h : s ≤ 20) (y : Int) : shr .i64 y (s : Int) = y / 2 ^ s := by
  unfold shr
  have e : min ((s : Int)).toNat IntKind.i64.bits = s := by
    simp [IntKind.bits]; omega
  rw [e]
theorem mod_eq (x b : Int) : x = (x / b) * b + x % b := by
  have := Int.emod_add_mul_ediv x b
  rw [Int.mul_comm] at this
  omega

def numOk (x : Int) : Bool := decide (-1000000000000 ≤ x) && decide (x ≤ 1000000000000)
def modeOk (s mode : Int) : Bool := (decide (0 ≤ s) && decide (s ≤ 20)) && (decide (0 ≤ mode) && decide (mode ≤ 2))
theorem numOk_iff {x : Int} : numOk x = true ↔ -1000000000000 ≤ x ∧ x ≤ 1000000000000 := by simp [numOk]
theorem modeOk_iff {s m : Int} : modeOk s m = true ↔ (0 ≤ s ∧ s ≤ 20) ∧ (0 ≤ m ∧ m ≤ 2) := by simp [modeOk]

theorem spec_rsLength_eq (n p q : Nat) (hq : 1 ≤ q) (hq8 : q ≤ 8) (hn : n * p ≤ 64) : spec_rsLength.f (n : Int) (p : Int) (q : Int) = some ((dropN (n * p) q 0 : Nat) : Int) := by
  unfold spec_rsLength.f
  rw [if_neg (by omega), ← Int.natCast_mul, w64n (a := n * p) (by omega), ← Int.natCast_add, w64n (a := n * p + q) (by omega)]
  have e : ((n * p + q : Nat) : Int) - 1 = ((n * p + q - 1 : Nat) : Int) := by omega
  have hdv : (n * p + q - 1) / q ≤ n * p + q - 1 := Nat.div_le_self _ _
  rw [e, w64n (a := n * p + q - 1) (by omega), td, w64n (by omega), dropN, Nat.sub_zero]

theorem laws_iSame_l0 (l : List Int) (hl : l.length ≤ 140737488351232) : ∀ (t p : List Int), l = p ++ t → Ev (fun k => laws_iSame.l0 k l l (l.length : Int) (p.length : Int)) true
  | [], p, h => by
    refine Ev.step (f := fun _ => some true) (fun k => ?_) (Ev.now _)
    subst h
    simp [laws_iSame.l0]
  | x :: t, p, h => by
    have e1 : (p.length : Int) < (l.length : Int) := by rw [h]; exact lt_mid p t x
    have e3 : wrap64 ((p.length : Int) + 1) = ((p ++ [x]).length : Int) := nx_mid p t x (h ▸ hl)
    refine Ev.step (fun k => ?_) (laws_iSame_l0 l hl t (p ++ [x]) (by simp [h]))
    simp only [laws_iSame.l0, if_pos e1, if_pos (Int.natCast_nonneg _), e3]
    rw [if_pos trivial]
theorem laws_iSame_ev (l : List Int) (hl : l.length ≤ 140737488351232) : Ev (fun k => laws_iSame.f k l l) true := by
  simp only [laws_iSame.f]
  exact Ev.tt trivial (laws_iSame_l0 l hl l [] rfl)

theorem signal_l0 {l : List Int} (hl : Bytes l) (sz : Int) (hs : 1 ≤ sz ∧ sz ≤ 100000) : ∀ (n : Nat) (q : List Int) (a sd : Int), q.length + n ≤ 100000 → 0 ≤ a → a + 10 * n ≤ 100000000000 → ∃ s a' sd', Ev (fun k => spec_l1Cur_signal.l0 k sz q (n : Int) l a sd) (s, a', sd') ∧ s.length ≤ 100001 ∧ a ≤ a' ∧ a' ≤ a + 10 * n + 10
  | 0, q, a, sd, hq, h0, h1 => by
    obtain ⟨u, a1, sd1, e1, ha1, hb1, -⟩ := pick_ok hl a sd 16 h0 (by omega) (by omega)
    by_cases c : u = 0
    · obtain ⟨v, a2, sd2, e2, ha2, hb2, -⟩ := among_ok hl a1 sd1 [100000, (-100000), 100001, 4611686018427387904] (by omega) (by omega) (by simp) (by simp)
      refine ⟨q ++ [v], a2, sd2, Ev.step (f := fun _ => some (q ++ [v], a2, sd2)) (fun k => ?_) (Ev.now _), by simp; omega, by omega, by omega⟩
      simp only [spec_l1Cur_signal.l0, e1, e2, Option.bind_some, if_pos c]
      rw [if_neg (by omega), if_pos (by omega)]
    · by_cases d : u = 1
      · obtain ⟨v, a2, sd2, e2, ha2, hb2, hv, hv2⟩ := pick_ok hl a1 sd1 2 (by omega) (by omega) (by omega)
        have e3 : wrap64 (64 + v) = 64 + v := w64 (by omega) (by omega)
        refine ⟨List.replicate (64 + v).toNat 0, a2, sd2, Ev.step (f := fun _ => some (List.replicate (64 + v).toNat 0, a2, sd2)) (fun k => ?_) (Ev.now _), by simp; omega, by omega, by omega⟩
        simp only [spec_l1Cur_signal.l0, e1, e2, Option.bind_some, if_neg c, if_pos d, e3]
        rw [if_neg (by omega), if_pos (by omega), if_pos (by omega)]
      · refine ⟨q, a1, sd1, Ev.step (f := fun _ => some (q, a1, sd1)) (fun k => ?_) (Ev.now _), by omega, by omega, by omega⟩
        simp only [spec_l1Cur_signal.l0, e1, Option.bind_some, if_neg c, if_neg d]
        rw [if_neg (by omega)]
  | n + 1, q, a, sd, hq, h0, h1 => by
    obtain ⟨u, a1, sd1, e1, ha1, hb1, -⟩ := one_ok hl a sd 4 h0 (by omega) (by omega)
    have e3 : wrap64 (((n + 1 : Nat) : Int) - 1) = (n : Int) := by
      rw [w64 (n := ((n + 1 : Nat) : Int) - 1) (by omega) (by omega)]
      omega
    have hn : ((n + 1 : Nat) : Int) > 0 := by omega
    have hql : q.length < 17592186044416 := by omega
    by_cases c : u = true
    · obtain ⟨s, a', sd', h, hs1, ha, hb⟩ := signal_l0 hl sz hs n (q ++ [0]) a1 sd1 (by simp; omega) (by omega) (by omega)
      refine ⟨s, a', sd', Ev.step (fun k => ?_) h, hs1, by omega, by omega⟩
      simp only [spec_l1Cur_signal.l0, e1, Option.bind_some, if_pos c, if_pos hn, if_pos hql, e3]
    · have e4 : wrap64 (wrap64 (2 * sz) + 1) = 2 * sz + 1 := by
        rw [w64 (n := 2 * sz) (by omega) (by omega), w64 (n := 2 * sz + 1) (by omega) (by omega)]
      obtain ⟨v, a2, sd2, e2, ha2, hb2, -⟩ := pick_ok hl a1 sd1 (2 * sz + 1) (by omega) (by omega) (by omega)
      obtain ⟨s, a', sd', h, hs1, ha, hb⟩ := signal_l0 hl sz hs n (q ++ [wrap64 (v - sz)]) a2 sd2 (by simp; omega) (by omega) (by omega)
      refine ⟨s, a', sd', Ev.step (fun k => ?_) h, hs1, by omega, by omega⟩
      simp only [spec_l1Cur_signal.l0, e1, Option.bind_some, if_neg c, if_pos hn, e4, e2, if_pos hql, e3]
theorem signal_ok {l : List Int} (hl : Bytes l) (a sd most sz : Int) (h0 : 0 ≤ a) (h1 : a ≤ 1000000000) (hm : 0 ≤ most ∧ most ≤ 10000) (hs : 1 ≤ sz ∧ sz ≤ 100000) : ∃ s a' sd', Ev (fun k => spec_l1Cur_signal.f k l a sd most sz) (s, a', sd') ∧ s.length ≤ 100001 ∧ a ≤ a' ∧ a' ≤ a + 1000000 := by
  obtain ⟨u, a1, sd1, e1, ha1, hb1, hu, hu2⟩ := pick_ok hl a sd (most + 1) h0 (by omega) (by omega)
  obtain ⟨n, rfl⟩ : ∃ n : Nat, u = (n : Int) := ⟨u.toNat, by omega⟩
  obtain ⟨s, a', sd', h, hs1, ha, hb⟩ := signal_l0 hl sz hs n [] a1 sd1 (by simp; omega) (by omega) (by omega)
  refine ⟨s, a', sd', ?_, hs1, by omega, by omega⟩
  simp only [spec_l1Cur_signal.f]
  rw [w64 (n := most + 1) (by omega) (by omega)]
  exact Ev.dbind e1 h

def lenA (n p q : Nat) : Nat := (n * p + q - 1) / q
theorem lenA_le {n p q : Nat} (hn : n ≤ 64) (hp : p ≤ 8) (hq : 1 ≤ q ∧ q ≤ 8) : lenA n p q ≤ 519 := by
  have h1 : n * p ≤ 64 * 8 := Nat.mul_le_mul hn hp
  exact Nat.le_trans (Nat.div_le_self _ _) (by omega)
theorem src_lt {n p q i : Nat} (hp : 1 ≤ p) (hq : 1 ≤ q) (h : i < lenA n p q) : i * q / p < n := by
  rw [Nat.div_lt_iff_lt_mul hp]
  have h1 : (i + 1) * q ≤ n * p + q - 1 := (Nat.le_div_iff_mul_le hq).1 h
  rw [Nat.add_mul, Nat.one_mul] at h1
  omega
theorem lenF_eq (n p q : Nat) (hn : n ≤ 64) (hp : p ≤ 8) (hq : 1 ≤ q ∧ q ≤ 8) : (if (q : Int) = 0 then (none : Option Int) else some (wrap64 (Int.tdiv (wrap64 (wrap64 (wrap64 ((n : Int) * (p : Int)) + (q : Int)) - 1)) (q : Int)))) = some ((lenA n p q : Nat) : Int) := by
  have h1 : n * p ≤ 64 * 8 := Nat.mul_le_mul hn hp
  have e1 : wrap64 ((n : Int) * (p : Int)) = ((n * p : Nat) : Int) := by
    rw [← Int.natCast_mul]
    exact w64n (by omega)
  have e2 : wrap64 (((n * p : Nat) : Int) + (q : Int)) = ((n * p + q : Nat) : Int) := w64_nat _ _ (by omega)
  have e3 : wrap64 (((n * p + q : Nat) : Int) - 1) = ((n * p + q - 1 : Nat) : Int) := by
    rw [w64 (n := ((n * p + q : Nat) : Int) - 1) (by omega) (by omega)]
    omega
  rw [if_neg (by omega), e1, e2, e3, td, w64n (Nat.le_trans (Nat.div_le_self _ _) (by omega))]
  rfl
theorem src_w {i q : Nat} (hi : i ≤ 1000) (hq : q ≤ 8) : i * q ≤ 8000 := Nat.mul_le_mul hi hq
theorem mul_w {i q : Nat} (hi : i ≤ 1000) (hq : q ≤ 8) : wrap64 ((i : Int) * (q : Int)) = ((i * q : Nat) : Int) := by
  have h := src_w hi hq
  rw [← Int.natCast_mul]
  exact w64n (by omega)
theorem src_e {i p q : Nat} (hi : i ≤ 1000) (hq : q ≤ 8) : wrap64 (Int.tdiv (wrap64 ((i : Int) * (q : Int))) (p : Int)) = ((i * q / p : Nat) : Int) := by
  have h := src_w hi hq
  rw [mul_w hi hq, td]
  exact w64n (Nat.le_trans (Nat.div_le_self _ _) (by omega))
theorem prt_e {i p q : Nat} (hi : i ≤ 1000) (hq : q ≤ 8) : Int.tmod (wrap64 ((i : Int) * (q : Int))) (p : Int) = ((i * q % p : Nat) : Int) := by
  rw [mul_w hi hq, tm]
theorem nx_e {i : Nat} (hi : i ≤ 1000000) : wrap64 ((i : Int) + 1) = ((i + 1 : Nat) : Int) := by
  rw [w64 (n := (i : Int) + 1) (by omega) (by omega)]
  omega
def vH (s : List Int) (p a b : Nat) : Int := rd s (a : Int)
def vN (s : List Int) (p a b : Nat) : Int := if 2 * b < p ∨ a + 1 = s.length then rd s (a : Int) else rd s ((a + 1 : Nat) : Int)
def nxt (s : List Int) (a : Nat) : Nat := if a + 1 < s.length then a + 1 else a
def vL (s : List Int) (p a b : Nat) : Int := (p : Int) * rd s (a : Int) + (b : Int) * (rd s ((nxt s a : Nat) : Int) - rd s (a : Int))
def resM (v : List Int → Nat → Nat → Nat → Int) (s : List Int) (p q : Nat) : List Int := Lf (fun i => v s p (i * q / p) (i * q % p)) (lenA s.length p q)
def samM (v : List Int → Nat → Nat → Nat → Int) (s : List Int) (p q : Int) : List Int × Bool := if (sig s && ratio p q) = true then toldM (resM v s p.toNat q.toNat) else ([], false)
theorem rd_bd {s : List Int} (hs : sig s = true) {a : Nat} (ha : a < s.length) : -100000 ≤ rd s (a : Int) ∧ rd s (a : Int) ≤ 100000 := by
  rw [rd_getD, List.getD_eq_getElem?_getD, List.getElem?_eq_getElem ha]
  exact sig_mem hs _ (List.getElem_mem _)
theorem nxt_lt {s : List Int} {a : Nat} (ha : a < s.length) : nxt s a < s.length := by
  unfold nxt
  split <;> omega
theorem mulN_bd {b : Nat} {x M : Int} (hb : b ≤ 8) (hM : 0 ≤ M) (hx : -M ≤ x ∧ x ≤ M) : -(8 * M) ≤ (b : Int) * x ∧ (b : Int) * x ≤ 8 * M := by
  have h1 : (b : Int) * M ≤ 8 * M := Int.mul_le_mul_of_nonneg_right (by omega) hM
  have h2 : (b : Int) * x ≤ (b : Int) * M := Int.mul_le_mul_of_nonneg_left hx.2 (by omega)
  have h3 : (b : Int) * -M ≤ (b : Int) * x := Int.mul_le_mul_of_nonneg_left hx.1 (by omega)
  rw [Int.mul_neg] at h3
  exact ⟨by omega, by omega⟩
theorem vL_w {s : List Int} (hs : sig s = true) {p a b : Nat} (ha : a < s.length) (hp : p ≤ 8) (hb : b ≤ 8) : wrap64 (wrap64 ((p : Int) * rd s (a : Int)) + wrap64 ((b : Int) * wrap64 (rd s ((nxt s a : Nat) : Int) - rd s (a : Int)))) = vL s p a b := by
  have h1 := rd_bd hs ha
  have h2 := rd_bd hs (nxt_lt ha)
  have h3 := mulN_bd hp (by omega) h1
  have h4 := mulN_bd (x := rd s ((nxt s a : Nat) : Int) - rd s (a : Int)) (M := 200000) hb (by omega) (by omega)
  rw [w64 (n := (p : Int) * rd s (a : Int)) (by omega) (by omega), w64 (n := rd s ((nxt s a : Nat) : Int) - rd s (a : Int)) (by omega) (by omega), w64 (n := (b : Int) * (rd s ((nxt s a : Nat) : Int) - rd s (a : Int))) (by omega) (by omega), w64 (n := (p : Int) * rd s (a : Int) + (b : Int) * (rd s ((nxt s a : Nat) : Int) - rd s (a : Int))) (by omega) (by omega)]
  rfl

theorem imLen_eq (n p q : Nat) (hn : n ≤ 64) (hp : p ≤ 8) (hq : 1 ≤ q ∧ q ≤ 8) : impl_lengthAfter.f (n : Int) (p : Int) (q : Int) = some ((lenA n p q : Nat) : Int) := by
  simp only [impl_lengthAfter.f]
  exact lenF_eq n p q hn hp hq

theorem rsLen_eq (n p q : Nat) (hn : n ≤ 64) (hp : p ≤ 8) (hq : 1 ≤ q ∧ q ≤ 8) : spec_rsLength.f (n : Int) (p : Int) (q : Int) = some ((lenA n p q : Nat) : Int) := by
  simp only [spec_rsLength.f]
  exact lenF_eq n p q hn hp hq

theorem cHold_eq {s : List Int} (hs : sig s = true) {p a b : Nat} (ha : a < s.length) (hp : p ≤ 8) (hb : b < p) : impl_HoldSamples_c1.f (a : Int) (b : Int) s = some (vH s p a b) := by
  simp only [impl_HoldSamples_c1.f]
  rw [if_pos (by omega), if_pos (by omega)]
  rfl

theorem cNear_eq {s : List Int} (hs : sig s = true) {p a b : Nat} (ha : a < s.length) (hp : p ≤ 8) (hb : b < p) : impl_NearSamples_c1.f (a : Int) (b : Int) (p : Int) s = some (vN s p a b) := by
  have hl := sig_len hs
  have e1 : wrap64 (2 * (b : Int)) = 2 * (b : Int) := w64 (by omega) (by omega)
  have e2 : wrap64 ((s.length : Int) - 1) = (s.length : Int) - 1 := w64 (by omega) (by omega)
  have e3 : wrap64 ((a : Int) + 1) = ((a + 1 : Nat) : Int) := nx_e (by omega)
  simp only [impl_NearSamples_c1.f, e1, e2, e3, vN]
  by_cases c : 2 * b < p
  · rw [if_pos (by omega), if_pos (by omega), if_pos (by omega), if_pos (.inl c)]
  · rw [if_neg (by omega)]
    by_cases d : a + 1 = s.length
    · rw [if_pos (by omega), if_pos (by omega), if_pos (by omega), if_pos (.inr d)]
    · rw [if_neg (by omega), if_pos (by omega), if_pos (by omega), if_neg (by omega)]

theorem cLine_eq {s : List Int} (hs : sig s = true) {p a b : Nat} (ha : a < s.length) (hp : p ≤ 8) (hb : b < p) : impl_LineSamples_c1.f (a : Int) (b : Int) s (p : Int) = some (vL s p a b) := by
  have hl := sig_len hs
  have e2 : wrap64 ((s.length : Int) - 1) = (s.length : Int) - 1 := w64 (by omega) (by omega)
  have e3 : wrap64 ((a : Int) + 1) = ((a + 1 : Nat) : Int) := nx_e (by omega)
  have e4 : mn ((a + 1 : Nat) : Int) ((s.length : Int) - 1) = ((nxt s a : Nat) : Int) := by
    unfold mn nxt
    split <;> split <;> omega
  have hn := nxt_lt ha
  simp only [impl_LineSamples_c1.f, e2, e3, e4]
  rw [if_pos (by omega), if_pos (by omega), if_pos (by omega), if_pos (by omega), vL_w hs ha hp (by omega)]

theorem resHoldSamples_l0 {s : List Int} (hs : sig s = true) {p q : Nat} (hp : 1 ≤ p ∧ p ≤ 8) (hq : 1 ≤ q ∧ q ≤ 8) : ∀ (d j : Nat), j + d = lenA s.length p q →
    Ev (fun k => impl_resample_impl_HoldSamples_c1.l0 k s (p : Int) (q : Int) (Lf (fun i => vH s p (i * q / p) (i * q % p)) j) ((lenA s.length p q : Nat) : Int) (j : Int)) (toldM (resM vH s p q))
  | 0, j, hj => by
    have hL := lenA_le (sig_len hs) hp.2 hq
    have ej : j = lenA s.length p q := hj
    refine Ev.step (fun k => by simp only [impl_resample_impl_HoldSamples_c1.l0]; rfl) ?_
    refine Ev.ff (by omega) ?_
    rw [ej]
    exact Ev.bind (impl_told_ev _ (by rw [Lf_length]; omega)) (Ev.now _)
  | d + 1, j, hj => by
    have hL := lenA_le (sig_len hs) hp.2 hq
    have ha := src_lt (i := j) hp.1 hq.1 (show j < lenA s.length p q by omega)
    have hb : j * q % p < p := Nat.mod_lt _ hp.1
    have next := resHoldSamples_l0 hs hp hq d (j + 1) (by omega)
    rw [Lf_succ] at next
    refine Ev.step (fun k => by simp only [impl_resample_impl_HoldSamples_c1.l0]; rfl) ?_
    rw [src_e (by omega) hq.2, prt_e (by omega) hq.2, nx_e (by omega)]
    exact Ev.tt (by omega) (Ev.ff (by omega) (Ev.dbind (cHold_eq hs ha hp.2 hb) (Ev.tt (by rw [Lf_length]; omega) next)))
theorem impl_HoldSamples_ev (s : List Int) (p q : Int) (hs : s.length ≤ 140737488351232) : Ev (fun k => impl_HoldSamples.f k s p q) (samM vH s p q) := by
  simp only [impl_HoldSamples.f]
  refine Ev.bind (a := samM vH s p q) ?_ (Ev.now _)
  simp only [impl_resample_impl_HoldSamples_c1.f]
  refine Ev.bind (impl_isSignal_ev s hs) ?_
  by_cases c : sig s = true
  · refine Ev.tt c (Ev.dbind (impl_isRatio_eq p q) (Ev.step (fun k => by simp only [impl_resample_impl_HoldSamples_c1.j0]; rfl) ?_))
    by_cases d : ratio p q = true
    · have d' := ratio_iff.1 d
      obtain ⟨p', rfl⟩ : ∃ n : Nat, p = (n : Int) := ⟨p.toNat, by omega⟩
      obtain ⟨q', rfl⟩ : ∃ n : Nat, q = (n : Int) := ⟨q.toNat, by omega⟩
      refine Ev.ff (by rw [d]; simp) (Ev.dbind (imLen_eq _ _ _ (sig_len c) (by omega) (by omega)) ?_)
      have h := resHoldSamples_l0 c (p := p') (q := q') (by omega) (by omega) (lenA s.length p' q') 0 (by omega)
      refine Ev.to h ?_
      rw [samM, if_pos (by rw [c, d]; rfl)]
      rfl
    · refine Ev.tt (by simp [d]) (Ev.to (Ev.now _) ?_)
      rw [samM, if_neg (by simp [d])]
  · refine Ev.ff c (Ev.to (Ev.step (f := fun _ => some (([] : List Int), false)) (fun k => by simp [impl_resample_impl_HoldSamples_c1.j0]) (Ev.now _)) ?_)
    rw [samM, if_neg (by simp [c])]

theorem resNearSamples_l0 {s : List Int} (hs : sig s = true) {p q : Nat} (hp : 1 ≤ p ∧ p ≤ 8) (hq : 1 ≤ q ∧ q ≤ 8) : ∀ (d j : Nat), j + d = lenA s.length p q →
    Ev (fun k => impl_resample_impl_NearSamples_c1.l0 k s (p : Int) (q : Int) (Lf (fun i => vN s p (i * q / p) (i * q % p)) j) ((lenA s.length p q : Nat) : Int) (j : Int)) (toldM (resM vN s p q))
  | 0, j, hj => by
    have hL := lenA_le (sig_len hs) hp.2 hq
    have ej : j = lenA s.length p q := hj
    refine Ev.step (fun k => by simp only [impl_resample_impl_NearSamples_c1.l0]; rfl) ?_
    refine Ev.ff (by omega) ?_
    rw [ej]
    exact Ev.bind (impl_told_ev _ (by rw [Lf_length]; omega)) (Ev.now _)
  | d + 1, j, hj => by
    have hL := lenA_le (sig_len hs) hp.2 hq
    have ha := src_lt (i := j) hp.1 hq.1 (show j < lenA s.length p q by omega)
    have hb : j * q % p < p := Nat.mod_lt _ hp.1
    have next := resNearSamples_l0 hs hp hq d (j + 1) (by omega)
    rw [Lf_succ] at next
    refine Ev.step (fun k => by simp only [impl_resample_impl_NearSamples_c1.l0]; rfl) ?_
    rw [src_e (by omega) hq.2, prt_e (by omega) hq.2, nx_e (by omega)]
    exact Ev.tt (by omega) (Ev.ff (by omega) (Ev.dbind (cNear_eq hs ha hp.2 hb) (Ev.tt (by rw [Lf_length]; omega) next)))
theorem impl_NearSamples_ev (s : List Int) (p q : Int) (hs : s.length ≤ 140737488351232) : Ev (fun k => impl_NearSamples.f k s p q) (samM vN s p q) := by
  simp only [impl_NearSamples.f]
  refine Ev.bind (a := samM vN s p q) ?_ (Ev.now _)
  simp only [impl_resample_impl_NearSamples_c1.f]
  refine Ev.bind (impl_isSignal_ev s hs) ?_
  by_cases c : sig s = true
  · refine Ev.tt c (Ev.dbind (impl_isRatio_eq p q) (Ev.step (fun k => by simp only [impl_resample_impl_NearSamples_c1.j0]; rfl) ?_))
    by_cases d : ratio p q = true
    · have d' := ratio_iff.1 d
      obtain ⟨p', rfl⟩ : ∃ n : Nat, p = (n : Int) := ⟨p.toNat, by omega⟩
      obtain ⟨q', rfl⟩ : ∃ n : Nat, q = (n : Int) := ⟨q.toNat, by omega⟩
      refine Ev.ff (by rw [d]; simp) (Ev.dbind (imLen_eq _ _ _ (sig_len c) (by omega) (by omega)) ?_)
      have h := resNearSamples_l0 c (p := p') (q := q') (by omega) (by omega) (lenA s.length p' q') 0 (by omega)
      refine Ev.to h ?_
      rw [samM, if_pos (by rw [c, d]; rfl)]
      rfl
    · refine Ev.tt (by simp [d]) (Ev.to (Ev.now _) ?_)
      rw [samM, if_neg (by simp [d])]
  · refine Ev.ff c (Ev.to (Ev.step (f := fun _ => some (([] : List Int), false)) (fun k => by simp [impl_resample_impl_NearSamples_c1.j0]) (Ev.now _)) ?_)
    rw [samM, if_neg (by simp [c])]

theorem resLineSamples_l0 {s : List Int} (hs : sig s = true) {p q : Nat} (hp : 1 ≤ p ∧ p ≤ 8) (hq : 1 ≤ q ∧ q ≤ 8) : ∀ (d j : Nat), j + d = lenA s.length p q →
    Ev (fun k => impl_resample_impl_LineSamples_c1.l0 k s (p : Int) (q : Int) (Lf (fun i => vL s p (i * q / p) (i * q % p)) j) ((lenA s.length p q : Nat) : Int) (j : Int)) (toldM (resM vL s p q))
  | 0, j, hj => by
    have hL := lenA_le (sig_len hs) hp.2 hq
    have ej : j = lenA s.length p q := hj
    refine Ev.step (fun k => by simp only [impl_resample_impl_LineSamples_c1.l0]; rfl) ?_
    refine Ev.ff (by omega) ?_
    rw [ej]
    exact Ev.bind (impl_told_ev _ (by rw [Lf_length]; omega)) (Ev.now _)
  | d + 1, j, hj => by
    have hL := lenA_le (sig_len hs) hp.2 hq
    have ha := src_lt (i := j) hp.1 hq.1 (show j < lenA s.length p q by omega)
    have hb : j * q % p < p := Nat.mod_lt _ hp.1
    have next := resLineSamples_l0 hs hp hq d (j + 1) (by omega)
    rw [Lf_succ] at next
    refine Ev.step (fun k => by simp only [impl_resample_impl_LineSamples_c1.l0]; rfl) ?_
    rw [src_e (by omega) hq.2, prt_e (by omega) hq.2, nx_e (by omega)]
    exact Ev.tt (by omega) (Ev.ff (by omega) (Ev.dbind (cLine_eq hs ha hp.2 hb) (Ev.tt (by rw [Lf_length]; omega) next)))
theorem impl_LineSamples_ev (s : List Int) (p q : Int) (hs : s.length ≤ 140737488351232) : Ev (fun k => impl_LineSamples.f k s p q) (samM vL s p q) := by
  simp only [impl_LineSamples.f]
  refine Ev.bind (a := samM vL s p q) ?_ (Ev.now _)
  simp only [impl_resample_impl_LineSamples_c1.f]
  refine Ev.bind (impl_isSignal_ev s hs) ?_
  by_cases c : sig s = true
  · refine Ev.tt c (Ev.dbind (impl_isRatio_eq p q) (Ev.step (fun k => by simp only [impl_resample_impl_LineSamples_c1.j0]; rfl) ?_))
    by_cases d : ratio p q = true
    · have d' := ratio_iff.1 d
      obtain ⟨p', rfl⟩ : ∃ n : Nat, p = (n : Int) := ⟨p.toNat, by omega⟩
      obtain ⟨q', rfl⟩ : ∃ n : Nat, q = (n : Int) := ⟨q.toNat, by omega⟩
      refine Ev.ff (by rw [d]; simp) (Ev.dbind (imLen_eq _ _ _ (sig_len c) (by omega) (by omega)) ?_)
      have h := resLineSamples_l0 c (p := p') (q := q') (by omega) (by omega) (lenA s.length p' q') 0 (by omega)
      refine Ev.to h ?_
      rw [samM, if_pos (by rw [c, d]; rfl)]
      rfl
    · refine Ev.tt (by simp [d]) (Ev.to (Ev.now _) ?_)
      rw [samM, if_neg (by simp [d])]
  · refine Ev.ff c (Ev.to (Ev.step (f := fun _ => some (([] : List Int), false)) (fun k => by simp [impl_resample_impl_LineSamples_c1.j0]) (Ev.now _)) ?_)
    rw [samM, if_neg (by simp [c])]

theorem specHold_l0 {s : List Int} (hs : sig s = true) {p q : Nat} (hp : 1 ≤ p ∧ p ≤ 8) (hq : 1 ≤ q ∧ q ≤ 8) : ∀ (d j : Nat), j + d = lenA s.length p q →
    Ev (fun k => spec_HoldSamples.l0 k s (p : Int) (q : Int) (Lf (fun i => vH s p (i * q / p) (i * q % p)) j) (j : Int)) (toldM (resM vH s p q))
  | 0, j, hj => by
    have hL := lenA_le (sig_len hs) hp.2 hq
    have ej : j = lenA s.length p q := hj
    refine Ev.step (fun k => by simp only [spec_HoldSamples.l0]; rfl) ?_
    refine Ev.dbind (rsLen_eq _ _ _ (sig_len hs) hp.2 hq) (Ev.ff (by omega) ?_)
    rw [ej]
    exact Ev.bind (spec_wdIf_ev _ (by rw [Lf_length]; omega)) (Ev.now _)
  | d + 1, j, hj => by
    have hL := lenA_le (sig_len hs) hp.2 hq
    have ha := src_lt (i := j) hp.1 hq.1 (show j < lenA s.length p q by omega)
    have next := specHold_l0 hs hp hq d (j + 1) (by omega)
    rw [Lf_succ] at next
    refine Ev.step (fun k => by simp only [spec_HoldSamples.l0]; rfl) ?_
    rw [src_e (by omega) hq.2, nx_e (by omega)]
    exact Ev.dbind (rsLen_eq _ _ _ (sig_len hs) hp.2 hq) (Ev.tt (by first | exact Int.natCast_nonneg _ | omega) (Ev.ff (by omega) (Ev.tt (by first | exact Int.natCast_nonneg _ | omega) (Ev.tt (by first | exact Int.natCast_nonneg _ | omega) (Ev.tt (by rw [Lf_length]; omega) next)))))

theorem specNear_l0 {s : List Int} (hs : sig s = true) {p q : Nat} (hp : 1 ≤ p ∧ p ≤ 8) (hq : 1 ≤ q ∧ q ≤ 8) : ∀ (d j : Nat), j + d = lenA s.length p q →
    Ev (fun k => spec_NearSamples.l0 k s (p : Int) (q : Int) (Lf (fun i => vN s p (i * q / p) (i * q % p)) j) (j : Int)) (toldM (resM vN s p q))
  | 0, j, hj => by
    have hL := lenA_le (sig_len hs) hp.2 hq
    have ej : j = lenA s.length p q := hj
    refine Ev.step (fun k => by simp only [spec_NearSamples.l0]; rfl) ?_
    refine Ev.dbind (rsLen_eq _ _ _ (sig_len hs) hp.2 hq) (Ev.ff (by omega) ?_)
    rw [ej]
    exact Ev.bind (spec_wdIf_ev _ (by rw [Lf_length]; omega)) (Ev.now _)
  | d + 1, j, hj => by
    have hL := lenA_le (sig_len hs) hp.2 hq
    have hl := sig_len hs
    have ha := src_lt (i := j) hp.1 hq.1 (show j < lenA s.length p q by omega)
    have hb : j * q % p < p := Nat.mod_lt _ hp.1
    have next := specNear_l0 hs hp hq d (j + 1) (by omega)
    rw [Lf_succ] at next
    refine Ev.step (fun k => by simp only [spec_NearSamples.l0]; rfl) ?_
    rw [src_e (by omega) hq.2, prt_e (by omega) hq.2, nx_e (i := j) (by omega), nx_e (i := j * q / p) (by omega), w64 (n := 2 * ((j * q % p : Nat) : Int)) (by omega) (by omega)]
    refine Ev.dbind (rsLen_eq _ _ _ hl hp.2 hq) (Ev.tt (by first | exact Int.natCast_nonneg _ | omega) (Ev.ff (by omega) ?_))
    by_cases c : 2 * (j * q % p) < p
    · have e : vN s p (j * q / p) (j * q % p) = rd s ((j * q / p : Nat) : Int) := by rw [vN, if_pos (.inl c)]
      rw [e] at next
      exact Ev.ff (by omega) (Ev.tt (by first | exact Int.natCast_nonneg _ | omega) (Ev.tt (by first | exact Int.natCast_nonneg _ | omega) (Ev.tt (by rw [Lf_length]; omega) next)))
    · refine Ev.tt (by omega) ?_
      by_cases g : j * q / p + 1 < s.length
      · have e : vN s p (j * q / p) (j * q % p) = rd s ((j * q / p + 1 : Nat) : Int) := by rw [vN, if_neg (by omega)]
        rw [e] at next
        exact Ev.tt (by first | exact Int.natCast_nonneg _ | omega) (Ev.tt (by first | exact Int.natCast_nonneg _ | omega) (Ev.tt (by rw [Lf_length]; omega) next))
      · have e : vN s p (j * q / p) (j * q % p) = rd s ((j * q / p : Nat) : Int) := by rw [vN, if_pos (by omega)]
        rw [e] at next
        exact Ev.ff (by omega) (Ev.tt (by first | exact Int.natCast_nonneg _ | omega) (Ev.tt (by first | exact Int.natCast_nonneg _ | omega) (Ev.tt (by rw [Lf_length]; omega) next)))

theorem line_mix {p b x y : Int} : (p - b) * x + b * y = p * x + b * (y - x) := by
  rw [Int.sub_mul, Int.mul_sub]
  omega
theorem line_w {s : List Int} (hs : sig s = true) {p a b c : Nat} (ha : a < s.length) (hc : c < s.length) (hp : p ≤ 8) (hb : b < p) (e : c = nxt s a) : wrap64 (wrap64 (wrap64 ((p : Int) - (b : Int)) * rd s (a : Int)) + wrap64 ((b : Int) * rd s (c : Int))) = vL s p a b := by
  have h1 := rd_bd hs ha
  have h2 := rd_bd hs hc
  have ed : wrap64 ((p : Int) - (b : Int)) = ((p - b : Nat) : Int) := by
    rw [w64 (n := (p : Int) - (b : Int)) (by omega) (by omega)]
    omega
  have h3 := mulN_bd (b := p - b) (by omega) (by omega) h1
  have h4 := mulN_bd (b := b) (by omega) (by omega) h2
  rw [ed, w64 (n := ((p - b : Nat) : Int) * rd s (a : Int)) (by omega) (by omega), w64 (n := (b : Int) * rd s (c : Int)) (by omega) (by omega), w64 (n := ((p - b : Nat) : Int) * rd s (a : Int) + (b : Int) * rd s (c : Int)) (by omega) (by omega)]
  rw [show ((p - b : Nat) : Int) = (p : Int) - (b : Int) by omega, line_mix, vL, e]
theorem specLine_l0 {s : List Int} (hs : sig s = true) {p q : Nat} (hp : 1 ≤ p ∧ p ≤ 8) (hq : 1 ≤ q ∧ q ≤ 8) : ∀ (d j : Nat), j + d = lenA s.length p q →
    Ev (fun k => spec_rsLine.l0 k s (p : Int) (q : Int) (Lf (fun i => vL s p (i * q / p) (i * q % p)) j) (j : Int)) (resM vL s p q)
  | 0, j, hj => by
    have hL := lenA_le (sig_len hs) hp.2 hq
    have ej : j = lenA s.length p q := hj
    refine Ev.step (fun k => by simp only [spec_rsLine.l0]; rfl) ?_
    refine Ev.dbind (rsLen_eq _ _ _ (sig_len hs) hp.2 hq) (Ev.ff (by omega) ?_)
    rw [ej]
    exact Ev.now _
  | d + 1, j, hj => by
    have hL := lenA_le (sig_len hs) hp.2 hq
    have hl := sig_len hs
    have ha := src_lt (i := j) hp.1 hq.1 (show j < lenA s.length p q by omega)
    have hb : j * q % p < p := Nat.mod_lt _ hp.1
    have next := specLine_l0 hs hp hq d (j + 1) (by omega)
    rw [Lf_succ] at next
    refine Ev.step (fun k => by simp only [spec_rsLine.l0]; rfl) ?_
    rw [src_e (by omega) hq.2, prt_e (by omega) hq.2, nx_e (i := j) (by omega), nx_e (i := j * q / p) (by omega)]
    refine Ev.dbind (rsLen_eq _ _ _ hl hp.2 hq) (Ev.tt (by first | exact Int.natCast_nonneg _ | omega) (Ev.ff (by omega) ?_))
    by_cases g : j * q / p + 1 < s.length
    · rw [line_w hs (c := j * q / p + 1) ha g hp.2 hb (by rw [nxt, if_pos g])]
      exact Ev.tt (by first | exact Int.natCast_nonneg _ | omega) (Ev.tt (by first | exact Int.natCast_nonneg _ | omega) (Ev.tt (by first | exact Int.natCast_nonneg _ | omega) (Ev.tt (by first | exact Int.natCast_nonneg _ | omega) (Ev.tt (by rw [Lf_length]; omega) next))))
    · rw [line_w hs (c := j * q / p) ha ha hp.2 hb (by rw [nxt, if_neg g])]
      exact Ev.ff (by omega) (Ev.tt (by first | exact Int.natCast_nonneg _ | omega) (Ev.tt (by first | exact Int.natCast_nonneg _ | omega) (Ev.tt (by rw [Lf_length]; omega) next)))
theorem spec_rsLine_ev {s : List Int} (hs : sig s = true) {p q : Nat} (hp : 1 ≤ p ∧ p ≤ 8) (hq : 1 ≤ q ∧ q ≤ 8) : Ev (fun k => spec_rsLine.f k s (p : Int) (q : Int)) (resM vL s p q) :=
  specLine_l0 hs hp hq (lenA s.length p q) 0 (by omega)
theorem spec_lineT_ev (s : List Int) (p q : Int) (hs : s.length ≤ 140737488351232) : Ev (fun k => (spec_rsGood.f k s p q).bind fun t => if t = true then (spec_rsLine.f k s p q).bind fun u => (spec_wdIf.f k u).bind fun b => some (b.1, b.2) else some (([] : List Int), false)) (samM vL s p q) := by
  refine Ev.bind (spec_rsGood_ev s p q hs) ?_
  by_cases c : (sig s && ratio p q) = true
  · have c' := Bool.and_eq_true_iff.1 c
    have d' := ratio_iff.1 c'.2
    obtain ⟨p', rfl⟩ : ∃ n : Nat, p = (n : Int) := ⟨p.toNat, by omega⟩
    obtain ⟨q', rfl⟩ : ∃ n : Nat, q = (n : Int) := ⟨q.toNat, by omega⟩
    have hL := lenA_le (n := s.length) (p := p') (q := q') (sig_len c'.1) (by omega) (by omega)
    refine Ev.tt c (Ev.bind (spec_rsLine_ev c'.1 (by omega) (by omega)) (Ev.to (Ev.bind (spec_wdIf_ev _ (by rw [resM, Lf_length]; omega)) (Ev.now _)) ?_))
    rw [samM, if_pos c]
    rfl
  · refine Ev.ff c (Ev.to (Ev.now _) ?_)
    rw [samM, if_neg c]

theorem spec_LineSamples_ev (s : List Int) (p q : Int) (hs : s.length ≤ 140737488351232) : Ev (fun k => spec_LineSamples.f k s p q) (samM vL s p q) := by
  simp only [spec_LineSamples.f]
  exact spec_lineT_ev s p q hs

theorem spec_LinesOfSame_ev (s : List Int) (p : Int) (hs : s.length ≤ 140737488351232) : Ev (fun k => spec_LinesOfSame.f k s p) (samM vL s p 1) := by
  simp only [spec_LinesOfSame.f]
  exact spec_lineT_ev s p 1 hs

theorem impl_LinesOfSame_ev (s : List Int) (p : Int) (hs : s.length ≤ 140737488351232) : Ev (fun k => impl_LinesOfSame.f k s p) (samM vL s p 1) := by
  simp only [impl_LinesOfSame.f]
  exact Ev.bind (impl_LineSamples_ev s p 1 hs) (Ev.now _)

theorem samM_len (v : List Int → Nat → Nat → Nat → Int) (s : List Int) (p q : Int) : (samM v s p q).1.length ≤ 64 := by
  unfold samM
  split
  · exact toldM_len _
  · simp
theorem LinesOfSame_agree (s : List Int) (p : Int) (hs : s.length ≤ 1048576) : ∃ r, Ev (fun k => spec_LinesOfSame.f k s p) r ∧ Ev (fun k => impl_LinesOfSame.f k s p) r ∧ r.1.length ≤ 17592186044415 :=
  ⟨samM vL s p 1, spec_LinesOfSame_ev s p (by omega), impl_LinesOfSame_ev s p (by omega), by have := samM_len vL s p 1; omega⟩

theorem spec_HoldSamples_ev (s : List Int) (p q : Int) (hs : s.length ≤ 140737488351232) : Ev (fun k => spec_HoldSamples.f k s p q) (samM vH s p q) := by
  simp only [spec_HoldSamples.f]
  refine Ev.bind (spec_rsGood_ev s p q hs) ?_
  by_cases c : (sig s && ratio p q) = true
  · have c' := Bool.and_eq_true_iff.1 c
    have d' := ratio_iff.1 c'.2
    obtain ⟨p', rfl⟩ : ∃ n : Nat, p = (n : Int) := ⟨p.toNat, by omega⟩
    obtain ⟨q', rfl⟩ : ∃ n : Nat, q = (n : Int) := ⟨q.toNat, by omega⟩
    refine Ev.tt c (Ev.to (specHold_l0 c'.1 (p := p') (q := q') (by omega) (by omega) (lenA s.length p' q') 0 (by omega)) ?_)
    rw [samM, if_pos c]
    rfl
  · refine Ev.ff c (Ev.to (Ev.now _) ?_)
    rw [samM, if_neg c]

theorem spec_NearSamples_ev (s : List Int) (p q : Int) (hs : s.length ≤ 140737488351232) : Ev (fun k => spec_NearSamples.f k s p q) (samM vN s p q) := by
  simp only [spec_NearSamples.f]
  refine Ev.bind (spec_rsGood_ev s p q hs) ?_
  by_cases c : (sig s && ratio p q) = true
  · have c' := Bool.and_eq_true_iff.1 c
    have d' := ratio_iff.1 c'.2
    obtain ⟨p', rfl⟩ : ∃ n : Nat, p = (n : Int) := ⟨p.toNat, by omega⟩
    obtain ⟨q', rfl⟩ : ∃ n : Nat, q = (n : Int) := ⟨q.toNat, by omega⟩
    refine Ev.tt c (Ev.to (specNear_l0 c'.1 (p := p') (q := q') (by omega) (by omega) (lenA s.length p' q') 0 (by omega)) ?_)
    rw [samM, if_pos c]
    rfl
  · refine Ev.ff c (Ev.to (Ev.now _) ?_)
    rw [samM, if_neg c]

theorem drawRatio_ok {l : List Int} (hl : Bytes l) (a sd : Int) (h0 : 0 ≤ a) (h1 : a ≤ 1000000000) : ∃ p q a' sd', spec_l1Cur_ratio.f l a sd = some (p, q, a', sd') ∧ a ≤ a' ∧ a' ≤ a + 10 := by
  obtain ⟨u, a1, sd1, e1, ha1, hb1, -⟩ := one_ok hl a sd 12 h0 (by omega) (by omega)
  by_cases c : u = true
  · obtain ⟨v, a2, sd2, e2, ha2, hb2, -⟩ := among_ok hl a1 sd1 [0, 1, 8, 9] (by omega) (by omega) (by simp) (by simp)
    obtain ⟨x, a3, sd3, e3, ha3, hb3, -⟩ := among_ok hl a2 sd2 [0, 1, 8, 9] (by omega) (by omega) (by simp) (by simp)
    refine ⟨v, x, a3, sd3, ?_, by omega, by omega⟩
    simp only [spec_l1Cur_ratio.f, e1, e2, e3, Option.bind_some, if_pos c]
  · obtain ⟨v, a2, sd2, e2, ha2, hb2, -⟩ := pick_ok hl a1 sd1 4 (by omega) (by omega) (by omega)
    obtain ⟨x, a3, sd3, e3, ha3, hb3, -⟩ := pick_ok hl a2 sd2 4 (by omega) (by omega) (by omega)
    refine ⟨wrap64 (1 + v), wrap64 (1 + x), a3, sd3, ?_, by omega, by omega⟩
    simp only [spec_l1Cur_ratio.f, e1, e2, e3, Option.bind_some, if_neg c]

theorem drawHold_ok {l : List Int} (hl : Bytes l) : ∃ s p q, Ev (fun k => spec_DrawHoldSamples.f k l) (s, p, q) ∧ s.length ≤ 100001 := by
  obtain ⟨p, q, a1, sd1, e1, ha1, hb1⟩ := drawRatio_ok hl 0 0 (by omega) (by omega)
  obtain ⟨s, a2, sd2, e2, hs, -, -⟩ := signal_ok hl a1 sd1 12 50 (by omega) (by omega) (by omega) (by omega)
  refine ⟨s, p, q, ?_, hs⟩
  simp only [spec_DrawHoldSamples.f]
  exact Ev.dbind e1 (Ev.bind e2 (Ev.now _))

theorem drawLines_ok {l : List Int} (hl : Bytes l) : ∃ s p, Ev (fun k => spec_DrawLinesOfSame.f k l) (s, p) ∧ s.length ≤ 100001 := by
  obtain ⟨p, q, a1, sd1, e1, ha1, hb1⟩ := drawRatio_ok hl 0 0 (by omega) (by omega)
  obtain ⟨s, a2, sd2, e2, hs, -, -⟩ := signal_ok hl a1 sd1 10 50 (by omega) (by omega) (by omega) (by omega)
  refine ⟨s, p, ?_, hs⟩
  simp only [spec_DrawLinesOfSame.f]
  exact Ev.dbind e1 (Ev.bind e2 (Ev.now _))

theorem drawLength_ok {l : List Int} (hl : Bytes l) : ∃ n p q, spec_DrawLengthAfter.f l = some (n, p, q) := by
  obtain ⟨p, q, a1, sd1, e1, ha1, hb1⟩ := drawRatio_ok hl 0 0 (by omega) (by omega)
  obtain ⟨u, a2, sd2, e2, ha2, hb2, -⟩ := one_ok hl a1 sd1 10 (by omega) (by omega) (by omega)
  by_cases c : u = true
  · obtain ⟨v, a3, sd3, e3, ha3, hb3, -⟩ := among_ok hl a2 sd2 [(-1), 0, 64, 65] (by omega) (by omega) (by simp) (by simp)
    exact ⟨v, p, q, by simp only [spec_DrawLengthAfter.f, e1, e2, e3, Option.bind_some, if_pos c]⟩
  · obtain ⟨v, a3, sd3, e3, ha3, hb3, -⟩ := pick_ok hl a2 sd2 20 (by omega) (by omega) (by omega)
    exact ⟨v, p, q, by simp only [spec_DrawLengthAfter.f, e1, e2, e3, Option.bind_some, if_neg c]⟩

theorem drawSource_ok {l : List Int} (hl : Bytes l) : ∃ n p q, spec_DrawSourceOf.f l = some (n, p, q) := by
  obtain ⟨p, q, a1, sd1, e1, ha1, hb1⟩ := drawRatio_ok hl 0 0 (by omega) (by omega)
  obtain ⟨u, a2, sd2, e2, ha2, hb2, -⟩ := one_ok hl a1 sd1 10 (by omega) (by omega) (by omega)
  by_cases c : u = true
  · obtain ⟨v, a3, sd3, e3, ha3, hb3, -⟩ := among_ok hl a2 sd2 [(-1), 0, 1000, 1001] (by omega) (by omega) (by simp) (by simp)
    exact ⟨v, p, q, by simp only [spec_DrawSourceOf.f, e1, e2, e3, Option.bind_some, if_pos c]⟩
  · obtain ⟨v, a3, sd3, e3, ha3, hb3, -⟩ := pick_ok hl a2 sd2 40 (by omega) (by omega) (by omega)
    exact ⟨v, p, q, by simp only [spec_DrawSourceOf.f, e1, e2, e3, Option.bind_some, if_neg c]⟩

theorem drawLeast_ok {l : List Int} (hl : Bytes l) : ∃ p q, spec_DrawLeastRatio.f l = some (p, q) := by
  obtain ⟨u, a2, sd2, e2, ha2, hb2, -⟩ := one_ok hl 0 0 4 (by omega) (by omega) (by omega)
  by_cases c : u = true
  · obtain ⟨p, q, a1, sd1, e1, ha1, hb1⟩ := drawRatio_ok hl a2 sd2 (by omega) (by omega)
    exact ⟨p, q, by simp only [spec_DrawLeastRatio.f, e1, e2, Option.bind_some, if_pos c]⟩
  · obtain ⟨v, a3, sd3, e3, ha3, hb3, -⟩ := pick_ok hl a2 sd2 8 (by omega) (by omega) (by omega)
    obtain ⟨x, a4, sd4, e4, ha4, hb4, -⟩ := pick_ok hl a3 sd3 8 (by omega) (by omega) (by omega)
    exact ⟨wrap64 (1 + v), wrap64 (1 + x), by simp only [spec_DrawLeastRatio.f, e2, e3, e4, Option.bind_some, if_neg c]⟩

def lengthM (n p q : Int) : Int × Bool := if 0 ≤ n ∧ n ≤ 64 ∧ ratio p q = true then ((lenA n.toNat p.toNat q.toNat : Nat), true) else (0, false)
theorem impl_LengthAfter_eq (n p q : Int) : impl_LengthAfter.f n p q = some (lengthM n p q) := by
  simp only [impl_LengthAfter.f, impl_in_eq, impl_isRatio_eq, Option.bind_some, lengthM]
  by_cases c : 0 ≤ n ∧ n ≤ 64
  · rw [if_pos (by simpa using c)]
    by_cases d : ratio p q = true
    · have d' := ratio_iff.1 d
      have := imLen_eq n.toNat p.toNat q.toNat (by omega) (by omega) (by omega)
      rw [show ((n.toNat : Nat) : Int) = n by omega, show ((p.toNat : Nat) : Int) = p by omega, show ((q.toNat : Nat) : Int) = q by omega] at this
      rw [if_pos d, this, if_pos ⟨c.1, c.2, d⟩]
      rfl
    · rw [if_neg d, if_neg (fun h => d h.2.2)]
  · rw [if_neg (by simpa using c), if_neg (fun h => c ⟨h.1, h.2.1⟩)]
theorem spec_LengthAfter_eq (n p q : Int) : spec_LengthAfter.f n p q = some (lengthM n p q) := by
  simp only [spec_LengthAfter.f, spec_l1In_eq, spec_rsRatio_eq, Option.bind_some, lengthM]
  by_cases c : 0 ≤ n ∧ n ≤ 64
  · rw [if_pos (by simpa using c)]
    by_cases d : ratio p q = true
    · have d' := ratio_iff.1 d
      have := rsLen_eq n.toNat p.toNat q.toNat (by omega) (by omega) (by omega)
      rw [show ((n.toNat : Nat) : Int) = n by omega, show ((p.toNat : Nat) : Int) = p by omega, show ((q.toNat : Nat) : Int) = q by omega] at this
      rw [if_pos d, this, if_pos ⟨c.1, c.2, d⟩]
      rfl
    · rw [if_neg d, if_neg (fun h => d h.2.2)]
  · rw [if_neg (by simpa using c), if_neg (fun h => c ⟨h.1, h.2.1⟩)]

def sourceM (n p q : Int) : Int × Int × Bool := if 0 ≤ n ∧ n ≤ 1000 ∧ ratio p q = true then (wrap64 (Int.tdiv (wrap64 (n * q)) p), Int.tmod (wrap64 (n * q)) p, true) else (0, 0, false)
theorem impl_SourceOf_eq (n p q : Int) : impl_SourceOf.f n p q = some (sourceM n p q) := by
  simp only [impl_SourceOf.f, impl_in_eq, impl_isRatio_eq, Option.bind_some, sourceM]
  by_cases c : 0 ≤ n ∧ n ≤ 1000
  · rw [if_pos (by simpa using c)]
    by_cases d : ratio p q = true
    · have d' := ratio_iff.1 d
      rw [if_pos d, if_neg (by omega), if_pos ⟨c.1, c.2, d⟩]
    · rw [if_neg d, if_neg (fun h => d h.2.2)]
  · rw [if_neg (by simpa using c), if_neg (fun h => c ⟨h.1, h.2.1⟩)]
theorem spec_SourceOf_eq (n p q : Int) : spec_SourceOf.f n p q = some (sourceM n p q) := by
  simp only [spec_SourceOf.f, spec_l1In_eq, spec_rsRatio_eq, Option.bind_some, sourceM]
  by_cases c : 0 ≤ n ∧ n ≤ 1000
  · rw [if_pos (by simpa using c)]
    by_cases d : ratio p q = true
    · have d' := ratio_iff.1 d
      rw [if_pos d, if_neg (by omega), if_pos ⟨c.1, c.2, d⟩]
    · rw [if_neg d, if_neg (fun h => d h.2.2)]
  · rw [if_neg (by simpa using c), if_neg (fun h => c ⟨h.1, h.2.1⟩)]

theorem gcd_stp (a b : Nat) : Nat.gcd a (b + 1) = Nat.gcd (b + 1) (a % (b + 1)) := by
  rw [Nat.gcd_comm a, Nat.gcd_rec (b + 1) a, Nat.gcd_comm]
theorem impl_gcd_l0 : ∀ (n b a : Nat), b ≤ n → Ev (fun k => impl_gcd.l0 k (a : Int) (b : Int)) ((Nat.gcd a b : Nat) : Int)
  | _, 0, a, _ => by
    refine Ev.to (Ev.step (f := fun _ => some (a : Int)) (fun k => ?_) (Ev.now _)) (by simp)
    simp [impl_gcd.l0]
  | 0, b + 1, a, h => by omega
  | n + 1, b + 1, a, h => by
    have hm : a % (b + 1) < b + 1 := Nat.mod_lt _ (by omega)
    have ih := impl_gcd_l0 n (a % (b + 1)) (b + 1) (by omega)
    refine Ev.step (fun k => by simp only [impl_gcd.l0]; rfl) ?_
    rw [tm, gcd_stp]
    exact Ev.ff (by omega) ih
theorem spec_gcd_l0 (p q : Int) : ∀ (n b a : Nat), b ≤ n → 1 ≤ Nat.gcd a b → Ev (fun k => spec_LeastRatio.l0 k p q (a : Int) (b : Int)) (wrap64 (Int.tdiv p ((Nat.gcd a b : Nat) : Int)), wrap64 (Int.tdiv q ((Nat.gcd a b : Nat) : Int)), true)
  | _, 0, a, _, hg => by
    rw [Nat.gcd_zero_right] at hg ⊢
    refine Ev.step (fun k => by simp only [spec_LeastRatio.l0]; rfl) ?_
    exact Ev.ff (by omega) (Ev.ff (by omega) (Ev.now _))
  | 0, b + 1, a, h, hg => by omega
  | n + 1, b + 1, a, h, hg => by
    have hm : a % (b + 1) < b + 1 := Nat.mod_lt _ (by omega)
    rw [gcd_stp] at hg ⊢
    have ih := spec_gcd_l0 p q n (a % (b + 1)) (b + 1) (by omega) hg
    refine Ev.step (fun k => by simp only [spec_LeastRatio.l0]; rfl) ?_
    rw [tm]
    exact Ev.tt (by omega) (Ev.ff (by omega) ih)
theorem laws_iCommon_ev : ∀ (n b a : Nat), b ≤ n → Ev (fun k => laws_iCommon.l0 k (a : Int) (b : Int)) ((Nat.gcd a b : Nat) : Int)
  | _, 0, a, _ => by
    refine Ev.to (Ev.step (f := fun _ => some (a : Int)) (fun k => ?_) (Ev.now _)) (by simp)
    simp [laws_iCommon.l0]
  | 0, b + 1, a, h => by omega
  | n + 1, b + 1, a, h => by
    have hm : a % (b + 1) < b + 1 := Nat.mod_lt _ (by omega)
    have ih := laws_iCommon_ev n (a % (b + 1)) (b + 1) (by omega)
    refine Ev.step (fun k => by simp only [laws_iCommon.l0]; rfl) ?_
    rw [tm, gcd_stp]
    exact Ev.tt (by omega) (Ev.ff (by omega) ih)
def leastM (p q : Int) : Int × Int × Bool := if ratio p q = true then (((p.toNat / Nat.gcd p.toNat q.toNat : Nat) : Int), ((q.toNat / Nat.gcd p.toNat q.toNat : Nat) : Int), true) else (0, 0, false)
theorem size_eq (x : Int) (h0 : 0 ≤ x) (h1 : x ≤ 8) : impl_size.f x = some x := by
  simp only [impl_size.f, mx]
  rw [w64 (n := -x) (by omega) (by omega)]
  split <;> congr 1 <;> omega
theorem least_div (p q : Nat) (hp : 1 ≤ p ∧ p ≤ 8) : wrap64 (Int.tdiv (p : Int) (q : Int)) = ((p / q : Nat) : Int) := by
  rw [td]
  exact w64n (Nat.le_trans (Nat.div_le_self _ _) (by omega))
theorem impl_LeastRatio_ev (p q : Int) : Ev (fun k => impl_LeastRatio.f k p q) (leastM p q) := by
  simp only [impl_LeastRatio.f]
  refine Ev.dbind (impl_isRatio_eq p q) ?_
  by_cases d : ratio p q = true
  · have d' := ratio_iff.1 d
    obtain ⟨p', rfl⟩ : ∃ n : Nat, p = (n : Int) := ⟨p.toNat, by omega⟩
    obtain ⟨q', rfl⟩ : ∃ n : Nat, q = (n : Int) := ⟨q.toNat, by omega⟩
    have hg : 1 ≤ Nat.gcd p' q' := Nat.gcd_pos_of_pos_left _ (by omega)
    refine Ev.tt d (Ev.bind (a := ((Nat.gcd p' q' : Nat) : Int)) ?_ (Ev.ff (by omega) ?_))
    · simp only [impl_gcd.f]
      exact Ev.dbind (size_eq _ (by omega) (by omega)) (Ev.dbind (size_eq _ (by omega) (by omega)) (impl_gcd_l0 q' q' p' (by omega)))
    · rw [least_div p' _ (by omega), least_div q' _ (by omega)]
      refine Ev.to (Ev.now _) ?_
      rw [leastM, if_pos d]
      simp
  · refine Ev.ff d (Ev.to (Ev.now _) ?_)
    rw [leastM, if_neg d]
theorem spec_LeastRatio_ev (p q : Int) : Ev (fun k => spec_LeastRatio.f k p q) (leastM p q) := by
  simp only [spec_LeastRatio.f]
  refine Ev.dbind (spec_rsRatio_eq p q) ?_
  by_cases d : ratio p q = true
  · have d' := ratio_iff.1 d
    obtain ⟨p', rfl⟩ : ∃ n : Nat, p = (n : Int) := ⟨p.toNat, by omega⟩
    obtain ⟨q', rfl⟩ : ∃ n : Nat, q = (n : Int) := ⟨q.toNat, by omega⟩
    have hg : 1 ≤ Nat.gcd p' q' := Nat.gcd_pos_of_pos_left _ (by omega)
    refine Ev.tt d (Ev.to (spec_gcd_l0 _ _ q' q' p' (by omega) hg) ?_)
    rw [least_div p' _ (by omega), least_div q' _ (by omega), leastM, if_pos d]
    simp
  · refine Ev.ff d (Ev.to (Ev.now _) ?_)
    rw [leastM, if_neg d]

theorem ceil_same (n p q g : Nat) (hg : 1 ≤ g) (hq : 1 ≤ q) : lenA n (p * g) (q * g) = lenA n p q := by
  unfold lenA
  have e : (n * (p * g) + q * g - 1) / (q * g) = ((n * (p * g) + q * g - 1) / g) / q := by
    rw [Nat.div_div_eq_div_mul, Nat.mul_comm g q]
  rw [e]
  congr 1
  have e2 : n * (p * g) + q * g = (n * p + q) * g := by rw [Nat.add_mul, Nat.mul_assoc]
  rw [e2]
  have h1 : 1 ≤ n * p + q := by omega
  have e3 : (n * p + q) * g - 1 = (g - 1) + g * (n * p + q - 1) := by
    obtain ⟨m, hm⟩ : ∃ m, n * p + q = m + 1 := ⟨n * p + q - 1, by omega⟩
    rw [hm, Nat.add_mul, Nat.mul_comm m g]
    simp only [Nat.add_sub_cancel]
    omega
  rw [e3, Nat.add_mul_div_left _ _ (by omega), Nat.div_eq_of_lt (by omega)]
  omega
theorem rd_resM (v : List Int → Nat → Nat → Nat → Int) (s : List Int) (p q j : Nat) (h : j < lenA s.length p q) : rd (resM v s p q) (j : Int) = v s p (j * q / p) (j * q % p) := rd_Lf _ _ _ h
theorem resM_length (v : List Int → Nat → Nat → Nat → Int) (s : List Int) (p q : Nat) : (resM v s p q).length = lenA s.length p q := Lf_length _ _
theorem hold_same (s : List Int) (p q g : Nat) (hg : 1 ≤ g) (hq : 1 ≤ q) : resM vH s (p * g) (q * g) = resM vH s p q := by
  unfold resM
  rw [ceil_same s.length p q g hg hq]
  refine Lf_congr fun n hn => ?_
  unfold vH
  rw [← Nat.mul_assoc, Nat.mul_div_mul_right _ _ hg]
theorem sig_resM {v : List Int → Nat → Nat → Nat → Int} {s : List Int} {p q : Nat} (hs : sig s = true) (hp : 1 ≤ p ∧ p ≤ 8) (hq : 1 ≤ q ∧ q ≤ 8) (hv : ∀ a b, a < s.length → b < p → -100000 ≤ v s p a b ∧ v s p a b ≤ 100000) : sig (resM v s p q) = decide (lenA s.length p q ≤ 64) := by
  have h : ∀ x ∈ resM v s p q, -100000 ≤ x ∧ x ≤ 100000 := by
    intro x hx
    simp only [resM, Lf, List.mem_map, List.mem_range] at hx
    obtain ⟨i, hi, rfl⟩ := hx
    exact hv _ _ (src_lt hp.1 hq.1 hi) (Nat.mod_lt _ hp.1)
  by_cases c : lenA s.length p q ≤ 64
  · rw [decide_eq_true c, sig_iff, resM_length]
    exact ⟨c, h⟩
  · rw [decide_eq_false c]
    cases e : sig (resM v s p q) with
    | false => rfl
    | true => exact absurd (sig_len e) (by rw [resM_length]; exact c)
theorem vH_bd {s : List Int} {p : Nat} (hs : sig s = true) : ∀ a b, a < s.length → b < p → -100000 ≤ vH s p a b ∧ vH s p a b ≤ 100000 := fun a b ha _ => rd_bd hs ha
theorem vN_or {s : List Int} {p a b : Nat} (ha : a < s.length) : vN s p a b = rd s (a : Int) ∨ vN s p a b = rd s ((nxt s a : Nat) : Int) := by
  unfold vN nxt
  by_cases c : 2 * b < p ∨ a + 1 = s.length
  · rw [if_pos c]
    exact .inl rfl
  · rw [if_neg c, if_pos (by omega)]
    exact .inr rfl
theorem vN_bd {s : List Int} {p : Nat} (hs : sig s = true) : ∀ a b, a < s.length → b < p → -100000 ≤ vN s p a b ∧ vN s p a b ≤ 100000 := by
  intro a b ha _
  rcases vN_or (p := p) (b := b) ha with e | e
  · rw [e]
    exact rd_bd hs ha
  · rw [e]
    exact rd_bd hs (nxt_lt ha)
theorem vL_mid {s : List Int} {p a b : Nat} (hb : b ≤ p) : (vL s p a b ≥ (p : Int) * rd s (a : Int) ∨ vL s p a b ≥ (p : Int) * rd s ((nxt s a : Nat) : Int)) ∧ (vL s p a b ≤ (p : Int) * rd s (a : Int) ∨ vL s p a b ≤ (p : Int) * rd s ((nxt s a : Nat) : Int)) := by
  have e : ∀ x y : Int, (p : Int) * y = (p : Int) * x + (p : Int) * (y - x) := by
    intro x y
    rw [Int.mul_sub]
    omega
  have e1 := e (rd s (a : Int)) (rd s ((nxt s a : Nat) : Int))
  unfold vL
  rw [e1]
  generalize rd s ((nxt s a : Nat) : Int) - rd s (a : Int) = d
  generalize (p : Int) * rd s (a : Int) = u
  by_cases c : 0 ≤ d
  · have h1 : 0 ≤ (b : Int) * d := Int.mul_nonneg (by omega) c
    have h2 : (b : Int) * d ≤ (p : Int) * d := Int.mul_le_mul_of_nonneg_right (by omega) c
    exact ⟨.inl (by omega), .inr (by omega)⟩
  · have h1 : 0 ≤ (b : Int) * -d := Int.mul_nonneg (by omega) (by omega)
    have h2 : (b : Int) * -d ≤ (p : Int) * -d := Int.mul_le_mul_of_nonneg_right (by omega) (by omega)
    rw [Int.mul_neg] at h1 h2
    rw [Int.mul_neg] at h2
    exact ⟨.inr (by omega), .inl (by omega)⟩
theorem pmul_w {s : List Int} (hs : sig s = true) {p a : Nat} (ha : a < s.length) (hp : p ≤ 8) : wrap64 ((p : Int) * rd s (a : Int)) = (p : Int) * rd s (a : Int) := by
  have h3 := mulN_bd hp (by omega) (rd_bd hs ha)
  exact w64 (by omega) (by omega)
theorem cmp_ev {g : Nat → Option Bool} {v x y : Int} (h1 : v ≥ x ∨ v ≥ y) (h2 : v ≤ x ∨ v ≤ y) (hg : Ev g true) : Ev (fun k => if v < x then (if v < y then some false else (if v > x then (if v > y then some false else g k) else g k)) else (if v > x then (if v > y then some false else g k) else g k)) true := by
  have t2 : Ev (fun k => if v > x then (if v > y then some false else g k) else g k) true := by
    by_cases c : v > x
    · exact Ev.tt c (Ev.ff (by omega) hg)
    · exact Ev.ff c hg
  by_cases c : v < x
  · exact Ev.tt c (Ev.ff (by omega) t2)
  · exact Ev.ff c t2
theorem law_j6 {l : List Int} (hl : Bytes l) : Ev (fun k => laws_FnRatesChanged.j6 k l) true := by
  obtain ⟨n, p, q, d1⟩ := drawLength_ok hl
  obtain ⟨n2, p2, q2, d2⟩ := drawSource_ok hl
  obtain ⟨t, k1, d3, ht⟩ := drawLines_ok hl
  obtain ⟨u, v, d4⟩ := drawLeast_ok hl
  refine Ev.step (fun k => by simp only [laws_FnRatesChanged.j6]; rfl) ?_
  refine Ev.dbind d1 (Ev.dbind (impl_LengthAfter_eq _ _ _) (Ev.dbind (spec_LengthAfter_eq _ _ _) (Ev.dbind d2 (Ev.dbind (impl_SourceOf_eq _ _ _) (Ev.dbind (spec_SourceOf_eq _ _ _) (Ev.bind d3 (Ev.bind (impl_LinesOfSame_ev t k1 (by omega)) (Ev.bind (spec_LinesOfSame_ev t k1 (by omega)) (Ev.dbind d4 (Ev.bind (impl_LeastRatio_ev u v) (Ev.bind (spec_LeastRatio_ev u v) ?_)))))))))))
  dsimp only
  have hlen := samM_len vL t k1 1
  refine Ev.ff (by simp) (Ev.tt rfl (Ev.ff (by simp) (Ev.tt rfl (Ev.tt rfl (Ev.ff (by simp) (Ev.bind (laws_iSame_ev _ (by omega)) (Ev.tt rfl (Ev.ff (by simp) (Ev.tt rfl (Ev.tt rfl ?_))))))))))
  have j7 : Ev (fun k => laws_FnRatesChanged.j7 k t k1 (samM vL t k1 1).1 (samM vL t k1 1).2 false) true := by
    refine Ev.step (fun k => by simp only [laws_FnRatesChanged.j7]; rfl) ?_
    refine Ev.ff (by simp) ?_
    by_cases c : (samM vL t k1 1).2 = true
    · exact Ev.tt c (Ev.bind (impl_LineSamples_ev t k1 1 (by omega)) (Ev.tt c (Ev.bind (laws_iSame_ev _ (by omega)) (Ev.now _))))
    · exact Ev.ff c (Ev.now _)
  by_cases c : ratio u v = true
  · have d' := ratio_iff.1 c
    obtain ⟨p', rfl⟩ : ∃ n : Nat, u = (n : Int) := ⟨u.toNat, by omega⟩
    obtain ⟨q', rfl⟩ : ∃ n : Nat, v = (n : Int) := ⟨v.toNat, by omega⟩
    have hg : 1 ≤ Nat.gcd p' q' := Nat.gcd_pos_of_pos_left _ (by omega)
    have e : leastM (p' : Int) (q' : Int) = (((p' / Nat.gcd p' q' : Nat) : Int), ((q' / Nat.gcd p' q' : Nat) : Int), true) := by
      rw [leastM, if_pos c]
      simp
    rw [e]
    dsimp only
    have h1 : p' / Nat.gcd p' q' ≤ 8 := Nat.le_trans (Nat.div_le_self _ _) (by omega)
    have h2 : q' / Nat.gcd p' q' ≤ 8 := Nat.le_trans (Nat.div_le_self _ _) (by omega)
    have ec : Nat.gcd (p' / Nat.gcd p' q') (q' / Nat.gcd p' q') = 1 := Nat.gcd_div_gcd_div_gcd_of_pos_left (by omega)
    have ex : p' / Nat.gcd p' q' * q' = q' / Nat.gcd p' q' * p' := by
      have e1 := Nat.div_mul_cancel (Nat.gcd_dvd_left p' q')
      have e2 := Nat.div_mul_cancel (Nat.gcd_dvd_right p' q')
      have : p' / Nat.gcd p' q' * (q' / Nat.gcd p' q' * Nat.gcd p' q') = q' / Nat.gcd p' q' * (p' / Nat.gcd p' q' * Nat.gcd p' q') := by
        rw [← Nat.mul_assoc, ← Nat.mul_assoc, Nat.mul_comm (p' / Nat.gcd p' q')]
      rwa [e1, e2] at this
    refine Ev.tt (by first | trivial | rfl) (Ev.tt ?_ (Ev.bind (a := 1) ?_ ?_))
    · rw [mul_w (by omega) (by omega), mul_w (by omega) (by omega), ex]
    · have := laws_iCommon_ev (q' / Nat.gcd p' q') (q' / Nat.gcd p' q') (p' / Nat.gcd p' q') (by omega)
      rw [ec] at this
      exact this
    · exact j7
  · have e : leastM u v = (0, 0, false) := by rw [leastM, if_neg c]
    rw [e]
    exact Ev.ff (by simp) j7
theorem law_step {l s L H N : List Int} {z : Bool} {n p q j a b : Nat} {V : Int} {M : Int} (ha : a < s.length) (hls : s.length ≤ 64) (hb : b < p) (hp : 1 ≤ p ∧ p ≤ 8) (hn : n ≤ 64) (hlt : j < n)
    (es : impl_SourceOf.f (j : Int) (p : Int) (q : Int) = some ((a : Int), (b : Int), true))
    (hmul : wrap64 (wrap64 ((a : Int) * (p : Int)) + (b : Int)) = wrap64 ((j : Int) * (q : Int)))
    (lH : H.length = n) (lN : N.length = n) (lL : z = true → L.length = n)
    (eH : rd H (j : Int) = rd s (a : Int)) (eN : rd N (j : Int) = V) (eL : z = true → rd L (j : Int) = M)
    (eN0 : b = 0 → V = rd s (a : Int)) (eM0 : b = 0 → M = (p : Int) * rd s (a : Int)) (hor : V = rd s (a : Int) ∨ V = rd s ((nxt s a : Nat) : Int))
    (hmid : (M ≥ (p : Int) * rd s (a : Int) ∨ M ≥ (p : Int) * rd s ((nxt s a : Nat) : Int)) ∧ (M ≤ (p : Int) * rd s (a : Int) ∨ M ≤ (p : Int) * rd s ((nxt s a : Nat) : Int)))
    (hpa : wrap64 ((p : Int) * rd s (a : Int)) = (p : Int) * rd s (a : Int)) (hpn : wrap64 ((p : Int) * rd s ((nxt s a : Nat) : Int)) = (p : Int) * rd s ((nxt s a : Nat) : Int))
    (next : Ev (fun k => laws_FnRatesChanged.l0 k l s (p : Int) (q : Int) H N L z (n : Int) ((j + 1 : Nat) : Int)) true) :
    Ev (fun k => laws_FnRatesChanged.l0 k l s (p : Int) (q : Int) H N L z (n : Int) (j : Int)) true := by
  have hnx := nxt_lt ha
  have hnxt : nxt s a = if a + 1 < s.length then a + 1 else a := rfl
  have ew : wrap64 ((a : Int) + 1) = ((a + 1 : Nat) : Int) := nx_e (Nat.le_trans (Nat.le_of_lt ha) (Nat.le_trans hls (by decide)))
  have ej : wrap64 ((j : Int) + 1) = ((j + 1 : Nat) : Int) := nx_e (Nat.le_trans (Nat.le_of_lt hlt) (Nat.le_trans hn (by decide)))
  have a0 : (0 : Int) ≤ (a : Int) := Int.natCast_nonneg _
  have ai : (a : Int) < (s.length : Int) := Int.ofNat_lt.2 ha
  have x0 : (0 : Int) ≤ ((nxt s a : Nat) : Int) := Int.natCast_nonneg _
  have xi : ((nxt s a : Nat) : Int) < (s.length : Int) := Int.ofNat_lt.2 hnx
  have j0 : (0 : Int) ≤ (j : Int) := Int.natCast_nonneg _
  have jH : (j : Int) < (H.length : Int) := by rw [lH]; exact Int.ofNat_lt.2 hlt
  have jN : (j : Int) < (N.length : Int) := by rw [lN]; exact Int.ofNat_lt.2 hlt
  have b0 : b = 0 → (b : Int) = 0 := fun h => by rw [h]; rfl
  have b1 : b ≠ 0 → ¬ (b : Int) = 0 := fun h g => h (Int.ofNat_inj.1 g)
  have jn : (j : Int) < (n : Int) := Int.ofNat_lt.2 hlt
  have j5 : Ev (fun k => laws_FnRatesChanged.j5 k l s (p : Int) (q : Int) H N L z (j : Int) (a : Int) (b : Int) ((nxt s a : Nat) : Int) (n : Int) (j : Int) false) true := by
    refine Ev.step (fun k => by simp only [laws_FnRatesChanged.j5]; rfl) ?_
    rw [hpa, hpn, ej]
    refine Ev.ff (by simp) ?_
    by_cases cz : z = true
    · have jL : (j : Int) < (L.length : Int) := by rw [lL cz]; exact jn
      rw [eL cz]
      have tail := cmp_ev hmid.1 hmid.2 next
      refine Ev.tt cz (Ev.tt a0 (Ev.tt ai (Ev.tt x0 (Ev.tt xi ?_))))
      by_cases cb : b = 0
      · exact Ev.tt (b0 cb) (Ev.tt j0 (Ev.tt jL (Ev.tt (eM0 cb) tail)))
      · exact Ev.ff (b1 cb) (Ev.tt j0 (Ev.tt jL tail))
    · exact Ev.ff cz next
  have j4 : Ev (fun k => laws_FnRatesChanged.j4 k l s (p : Int) (q : Int) H N L z (j : Int) (a : Int) (b : Int) ((nxt s a : Nat) : Int) (n : Int) (j : Int)) true := by
    refine Ev.step (fun k => by simp only [laws_FnRatesChanged.j4]; rfl) ?_
    rw [eN]
    refine Ev.tt j0 (Ev.tt jN (Ev.tt a0 (Ev.tt ai ?_)))
    by_cases cn : V = rd s (a : Int)
    · exact Ev.tt cn j5
    · have cx : V = rd s ((nxt s a : Nat) : Int) := hor.resolve_left cn
      refine Ev.ff cn (Ev.tt x0 (Ev.tt xi ?_))
      rw [cx, bne_self_eq_false]
      exact j5
  have j3 : Ev (fun k => laws_FnRatesChanged.j3 k l s (p : Int) (q : Int) H N L z (j : Int) (a : Int) (b : Int) (n : Int) (j : Int) false) true := by
    refine Ev.step (fun k => by simp only [laws_FnRatesChanged.j3]; rfl) ?_
    rw [ew]
    refine Ev.ff (by simp) ?_
    by_cases cs : a + 1 < s.length
    · rw [hnxt, if_pos cs] at j4
      exact Ev.tt (Int.ofNat_lt.2 cs) j4
    · rw [hnxt, if_neg cs] at j4
      exact Ev.ff (fun h => cs (Int.ofNat_lt.1 h)) j4
  refine Ev.step (fun k => by simp only [laws_FnRatesChanged.l0]; rfl) ?_
  refine Ev.tt jn (Ev.dbind es ?_)
  dsimp only
  rw [eH, eN]
  refine Ev.tt (by first | trivial | rfl) (Ev.ff (Int.not_le.2 ai) (Ev.tt hmul (Ev.tt j0 (Ev.tt jH (Ev.tt a0 (Ev.tt ai (Ev.tt rfl ?_)))))))
  by_cases cb : b = 0
  · refine Ev.tt (b0 cb) (Ev.tt jN ?_)
    rw [eN0 cb, bne_self_eq_false]
    exact j3
  · exact Ev.ff (b1 cb) j3
theorem law_l0 {l s L : List Int} {z : Bool} (hl : Bytes l) (hs : sig s = true) {p q : Nat} (hp : 1 ≤ p ∧ p ≤ 8) (hq : 1 ≤ q ∧ q ≤ 8) (hn : lenA s.length p q ≤ 64) (hz : z = true → L = resM vL s p q) : ∀ (d j : Nat), j + d = lenA s.length p q →
    Ev (fun k => laws_FnRatesChanged.l0 k l s (p : Int) (q : Int) (resM vH s p q) (resM vN s p q) L z ((lenA s.length p q : Nat) : Int) (j : Int)) true
  | 0, j, hj => by
    have c : ratio (p : Int) (q : Int) = true := ratio_iff.2 ⟨by omega, by omega⟩
    have hg : 1 ≤ Nat.gcd p q := Nat.gcd_pos_of_pos_left _ (by omega)
    have e : leastM (p : Int) (q : Int) = (((p / Nat.gcd p q : Nat) : Int), ((q / Nat.gcd p q : Nat) : Int), true) := by
      rw [leastM, if_pos c]
      simp
    have h1 : p / Nat.gcd p q ≤ 8 := Nat.le_trans (Nat.div_le_self _ _) (by omega)
    have h2 : q / Nat.gcd p q ≤ 8 := Nat.le_trans (Nat.div_le_self _ _) (by omega)
    have h3 : 1 ≤ p / Nat.gcd p q := Nat.div_pos (Nat.le_of_dvd (by omega) (Nat.gcd_dvd_left p q)) hg
    have h4 : 1 ≤ q / Nat.gcd p q := Nat.div_pos (Nat.le_of_dvd (by omega) (Nat.gcd_dvd_right p q)) hg
    have eh : resM vH s (p / Nat.gcd p q) (q / Nat.gcd p q) = resM vH s p q := by
      have := hold_same s (p / Nat.gcd p q) (q / Nat.gcd p q) (Nat.gcd p q) hg h4
      rw [Nat.div_mul_cancel (Nat.gcd_dvd_left p q), Nat.div_mul_cancel (Nat.gcd_dvd_right p q)] at this
      exact this.symm
    have c2 : ratio ((p / Nat.gcd p q : Nat) : Int) ((q / Nat.gcd p q : Nat) : Int) = true := ratio_iff.2 ⟨by omega, by omega⟩
    have es : samM vH s ((p / Nat.gcd p q : Nat) : Int) ((q / Nat.gcd p q : Nat) : Int) = (resM vH s p q, true) := by
      rw [samM, if_pos (by rw [hs, c2]; rfl)]
      simp only [Int.toNat_natCast]
      rw [eh, toldM, if_pos (by rw [sig_resM hs hp hq (vH_bd hs)]; exact decide_eq_true hn)]
    have hh := impl_HoldSamples_ev s ((p / Nat.gcd p q : Nat) : Int) ((q / Nat.gcd p q : Nat) : Int) (by have := sig_len hs; omega)
    rw [es] at hh
    have hlr := impl_LeastRatio_ev (p : Int) (q : Int)
    rw [e] at hlr
    refine Ev.step (fun k => by simp only [laws_FnRatesChanged.l0]; rfl) ?_
    refine Ev.ff (by omega) (Ev.bind hlr (Ev.bind hh (Ev.tt rfl (Ev.tt rfl (Ev.bind (laws_iSame_ev _ (by rw [resM_length]; omega)) (Ev.tt rfl (law_j6 hl)))))))
  | d + 1, j, hj => by
    have hlt : j < lenA s.length p q := by omega
    have ha := src_lt hp.1 hq.1 hlt
    have hb : j * q % p < p := Nat.mod_lt _ hp.1
    have hls := sig_len hs
    have c : ratio (p : Int) (q : Int) = true := ratio_iff.2 ⟨by omega, by omega⟩
    have es : impl_SourceOf.f (j : Int) (p : Int) (q : Int) = some (((j * q / p : Nat) : Int), ((j * q % p : Nat) : Int), true) := by
      rw [impl_SourceOf_eq, sourceM, if_pos ⟨by omega, by omega, c⟩, src_e (by omega) hq.2, prt_e (by omega) hq.2]
    have hmul : wrap64 (wrap64 (((j * q / p : Nat) : Int) * (p : Int)) + ((j * q % p : Nat) : Int)) = wrap64 ((j : Int) * (q : Int)) := by
      have hdm : j * q / p * p + j * q % p = j * q := by rw [Nat.mul_comm]; exact Nat.div_add_mod _ _
      have hw := src_w (i := j) (q := q) (by omega) hq.2
      have h8 : j * q % p ≤ 8 := by omega
      rw [mul_w (by omega) hp.2, w64_nat _ _ (by omega), hdm, mul_w (by omega) hq.2]
    exact law_step ha hls hb hp hn hlt es hmul (resM_length _ _ _ _) (resM_length _ _ _ _) (fun h => by rw [hz h, resM_length]) (rd_resM vH s p q j hlt) (rd_resM vN s p q j hlt) (fun h => by rw [hz h]; exact rd_resM vL s p q j hlt)
      (fun h => by rw [vN, if_pos (.inl (by rw [h]; omega))]) (fun h => by rw [vL, h]; simp) (vN_or ha) (vL_mid (by omega)) (pmul_w hs ha hp.2) (pmul_w hs (nxt_lt ha) hp.2) (law_l0 hl hs hp hq hn hz d (j + 1) (by omega))
theorem FnRatesChanged : laws_FnRatesChanged.Pure := by
  intro l l2 h1 h2 h3 h4 h5 h6
  apply Ev.rounds
  simp only [laws_FnRatesChanged.f]
  refine Ev.dbind (laws_big_eq l l2 (by omega) (by omega)) ?_
  by_cases big : 1048576 < l.length + l2.length
  · exact Ev.tt (by simpa using big) (Ev.now _)
  refine Ev.ff (by simpa using big) ?_
  have hl : Bytes l := bytes_of (by omega) h3
  have hl2 : Bytes l2 := bytes_of (by omega) h6
  obtain ⟨s, p, q, hd, hs⟩ := drawHold_ok hl
  have hH := samM_len vH s p q
  have hN := samM_len vN s p q
  have hL := samM_len vL s p q
  refine Ev.bind hd (Ev.bind (impl_HoldSamples_ev s p q (by omega)) (Ev.bind (spec_HoldSamples_ev s p q (by omega)) (Ev.bind (impl_NearSamples_ev s p q (by omega)) (Ev.bind (spec_NearSamples_ev s p q (by omega)) (Ev.bind (impl_LineSamples_ev s p q (by omega)) (Ev.bind (spec_LineSamples_ev s p q (by omega)) ?_))))))
  dsimp only
  refine Ev.ff (by simp) (Ev.bind (laws_iSame_ev _ (by omega)) (Ev.tt rfl (Ev.ff (by simp) (Ev.bind (laws_iSame_ev _ (by omega)) (Ev.tt rfl (Ev.ff (by simp) (Ev.bind (laws_iSame_ev _ (by omega)) (Ev.tt rfl ?_))))))))
  by_cases c : (sig s && ratio p q) = true
  · have c' := Bool.and_eq_true_iff.1 c
    have d' := ratio_iff.1 c'.2
    obtain ⟨p', rfl⟩ : ∃ n : Nat, p = (n : Int) := ⟨p.toNat, by omega⟩
    obtain ⟨q', rfl⟩ : ∃ n : Nat, q = (n : Int) := ⟨q.toNat, by omega⟩
    have hp : 1 ≤ p' ∧ p' ≤ 8 := by omega
    have hq : 1 ≤ q' ∧ q' ≤ 8 := by omega
    have eH : samM vH s (p' : Int) (q' : Int) = toldM (resM vH s p' q') := by rw [samM, if_pos c]; rfl
    have eN : samM vN s (p' : Int) (q' : Int) = toldM (resM vN s p' q') := by rw [samM, if_pos c]; rfl
    have eL : samM vL s (p' : Int) (q' : Int) = toldM (resM vL s p' q') := by rw [samM, if_pos c]; rfl
    have gH := sig_resM (q := q') c'.1 hp hq (vH_bd c'.1)
    have gN := sig_resM (q := q') c'.1 hp hq (vN_bd c'.1)
    rw [eH, eN, eL]
    by_cases n : lenA s.length p' q' ≤ 64
    · rw [decide_eq_true n] at gH gN
      have tH : toldM (resM vH s p' q') = (resM vH s p' q', true) := by rw [toldM, if_pos gH]
      have tN : toldM (resM vN s p' q') = (resM vN s p' q', true) := by rw [toldM, if_pos gN]
      rw [tH, tN]
      obtain ⟨L, z, tL, hz⟩ : ∃ L z, toldM (resM vL s p' q') = (L, z) ∧ (z = true → L = resM vL s p' q') := by
        by_cases g : sig (resM vL s p' q') = true
        · exact ⟨_, _, by rw [toldM, if_pos g], fun _ => rfl⟩
        · exact ⟨_, _, by rw [toldM, if_neg g], fun h => by simp at h⟩
      rw [tL]
      dsimp only
      have hlen := impl_LengthAfter_eq (s.length : Int) (p' : Int) (q' : Int)
      have hsl := sig_len c'.1
      rw [lengthM, if_pos ⟨by omega, by omega, c'.2⟩] at hlen
      simp only [Int.toNat_natCast] at hlen
      have j1 : Ev (fun k => laws_FnRatesChanged.j1 k l2 s (p' : Int) (q' : Int) (resM vH s p' q') (resM vN s p' q') L z false) true := by
        refine Ev.step (fun k => by simp only [laws_FnRatesChanged.j1]; rfl) ?_
        refine Ev.ff (by simp) ?_
        rw [resM_length]
        exact law_l0 hl2 c'.1 hp hq n hz (lenA s.length p' q') 0 (by omega)
      have j0 : Ev (fun k => laws_FnRatesChanged.j0 k l2 s (p' : Int) (q' : Int) (resM vH s p' q') true (resM vN s p' q') L z false) true := by
        refine Ev.step (fun k => by simp only [laws_FnRatesChanged.j0]; rfl) ?_
        refine Ev.ff (by simp) (Ev.tt (by first | trivial | rfl) (Ev.dbind hlen (Ev.tt (by first | trivial | rfl) (Ev.tt (by rw [resM_length]) (Ev.tt (by rw [resM_length]) ?_)))))
        by_cases cz : z = true
        · refine Ev.tt cz ?_
          rw [hz cz, resM_length]
          rw [hz cz] at j1
          simpa using j1
        · exact Ev.ff cz j1
      refine Ev.ff (by simp) ?_
      by_cases cz : z = true
      · exact Ev.tt cz j0
      · exact Ev.ff cz j0
    · rw [decide_eq_false n] at gH gN
      have gL : ¬ sig (resM vL s p' q') = true := fun h => n (by have := sig_len h; rw [resM_length] at this; exact this)
      have tH : toldM (resM vH s p' q') = ([], false) := by rw [toldM, if_neg (by rw [gH]; decide)]
      have tN : toldM (resM vN s p' q') = ([], false) := by rw [toldM, if_neg (by rw [gN]; decide)]
      have tL : toldM (resM vL s p' q') = ([], false) := by rw [toldM, if_neg gL]
      rw [tH, tN, tL]
      refine Ev.ff (by simp) (Ev.ff (by simp) (Ev.step (fun k => by simp only [laws_FnRatesChanged.j0]; rfl) (Ev.ff (by simp) (Ev.ff (by simp) (law_j6 hl2)))))
  · have e : ∀ v, samM v s p q = ([], false) := fun v => by rw [samM, if_neg c]
    rw [e, e, e]
    refine Ev.ff (by simp) (Ev.ff (by simp) (Ev.step (fun k => by simp only [laws_FnRatesChanged.j0]; rfl) (Ev.ff (by simp) (Ev.ff (by simp) (law_j6 hl2)))))

end Go.Proofs.Ytjplcongellcmaa.Pure
