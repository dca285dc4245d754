/- Filters in words are exact where nothing is shifted and words are wide, wrapped ones are exact ones wrapped, and bits are enough. Conditions: none beyond those that the statement itself prints. -/
import Derived.Test.YtjplcongellcmaaPFnFiltersInWordsx14
namespace Go.Proofs.Ytjplcongellcmaa.Pure
open Go.RowKit Go.Proofs.Ytjplcongellcmaa.PFnFiltersInWords Go.Proofs.YtjplcongellcmaaW.PrintWords Go.Proofs.YtjplcongellcmaaW.PrintLast Go.Proofs.YtjplcongellcmaaW.PrintMore
set_option linter.unusedVariables false
set_option linter.unusedSimpArgs false

theorem w64 {n : Int} (h1 : -9223372036854775808 ≤ n) (h2 : n ≤ 9223372036854775807) : wrap64 n = n := by
  unfold wrap64
  omega
theorem Ev.to {α : Type} {g : Nat → Option α} {r r' : α} (h : Ev g r) (e : r = r') : Ev g r' := e ▸ h
theorem Ev.const {α : Type} {g : Option α} {r : α} (h : g = some r) : Ev (fun _ => g) r := ⟨0, fun _ _ => h⟩
theorem Ev.dbind {α β : Type} {g : Option α} {f : Nat → α → Option β} {a : α} {r : β} (h : g = some a) (k : Ev (fun n => f n a) r) : Ev (fun n => g.bind (f n)) r :=
  Ev.bind (g := fun _ => g) (Ev.const h) k
theorem Ev.tt {α : Type} {c : Prop} {_ : Decidable c} {g f : Nat → Option α} {r : α} (h : c) (k : Ev g r) : Ev (fun n => if c then g n else f n) r := by
  simpa only [if_pos h] using k
theorem Ev.ff {α : Type} {c : Prop} {_ : Decidable c} {g f : Nat → Option α} {r : α} (h : ¬ c) (k : Ev f r) : Ev (fun n => if c then g n else f n) r := by
  simpa only [if_neg h] using k
theorem rd_mid (p t : List Int) (x : Int) : rd (p ++ x :: t) (p.length : Int) = x := by
  simp [rd]
theorem lt_mid {α : Type} (p t : List α) (x : α) : (p.length : Int) < ((p ++ x :: t).length : Int) := by
  simp
  omega
theorem nx_mid {α : Type} (p t : List α) (x : α) (h : (p ++ x :: t).length ≤ 140737488351232) : wrap64 ((p.length : Int) + 1) = ((p ++ [x]).length : Int) := by
  simp at h ⊢
  exact w64 (by omega) (by omega)
theorem ap_mid {α : Type} (p t : List α) (x : α) : p ++ x :: t = (p ++ [x]) ++ t := by simp
theorem w64_nat (a b : Nat) (h : a + b ≤ 1000000000) : wrap64 ((a : Int) + (b : Int)) = ((a + b : Nat) : Int) := by
  rw [w64 (n := (a : Int) + (b : Int)) (by omega) (by omega)]
  omega
theorem w64_suc {α : Type} (q : List α) (x : α) (h : q.length ≤ 1000000000) : wrap64 ((q.length : Int) + 1) = ((q ++ [x]).length : Int) := by
  rw [w64 (n := (q.length : Int) + 1) (by omega) (by omega)]
  simp
theorem ar1 {a b c d : Nat} (h1 : a + 1 ≤ c) (h2 : b + 1 ≤ d) : ((a + b : Nat) : Int) < ((c + d - 1 : Nat) : Int) := by omega
theorem ar2 {a b c d : Nat} (h1 : a + 1 ≤ c) (h2 : b + 1 ≤ d) : a + b < c + d - 1 := by omega
theorem ar3 (a b : Nat) : ¬ (a ≤ a + b ∧ a + b - a < b) := by omega
theorem ar4 {v M : Int} (h : -M ≤ v ∧ v ≤ M) (hm : M ≤ 4000000000000000000) : wrap64 v = v := w64 (by omega) (by omega)
theorem ar5 {c v P M H : Int} (hc : -P ≤ c ∧ c ≤ P) (hv : -M ≤ v ∧ v ≤ M) (hp : P + M ≤ H) (hH : H ≤ 4000000000000000000) : wrap64 (c + v) = c + v := w64 (by omega) (by omega)
theorem ar6 {a b : Nat} {M : Int} (h : a + 1 ≤ b) (hM : 0 ≤ M) : (a : Int) * M + M ≤ (b : Int) * M := by
  have h1 : ((a : Int) + 1) * M ≤ (b : Int) * M := Int.mul_le_mul_of_nonneg_right (by omega) hM
  rw [Int.add_mul, Int.one_mul] at h1
  exact h1
theorem ar7 {a b c d : Nat} (h1 : a + 1 ≤ c) (h2 : b + 1 ≤ d) (h : c + d ≤ 100000000) : a + b ≤ 1000000000 := by omega
theorem ar8 {a c d : Nat} (h1 : a + 1 ≤ c) (h : c + d ≤ 100000000) : a ≤ 1000000000 := by omega
theorem tm (a b : Nat) : Int.tmod (a : Int) (b : Int) = ((a % b : Nat) : Int) := (Int.ofNat_tmod a b).symm
theorem td (a b : Nat) : Int.tdiv (a : Int) (b : Int) = ((a / b : Nat) : Int) := (Int.ofNat_tdiv a b).symm
theorem w64n {a : Nat} (h : a ≤ 1000000000) : wrap64 (a : Int) = (a : Int) := w64 (by omega) (by omega)

def backOf (n : Int) : Int × Bool := if n = 3 then (-1, true) else if n = 4 then (0, true) else if n = 6 then (1, true) else (0, false)
def tnF (c : Int) : List Int → Int → Int → Int × Int
  | [], y, z => (y, z)
  | x :: t, y, z => tnF c t (wrap64 ((wrap64 (x + (wrap64 (c * y)))) - z)) y
def sig (l : List Int) : Bool := decide (l.length ≤ 64) && l.all fun x => decide (-100000 ≤ x) && decide (x ≤ 100000)
def toneStates (l : List Int) (n : Int) : Int × Int × Bool := if (backOf n).2 = true then (if sig l = true then ((tnF (backOf n).1 l 0 0).1, (tnF (backOf n).1 l 0 0).2, true) else (0, 0, false)) else (0, 0, false)
theorem sig_len {l : List Int} (h : sig l = true) : l.length ≤ 64 := by
  simp [sig] at h
  exact h.1
theorem sig_mem {l : List Int} (h : sig l = true) : ∀ x ∈ l, -100000 ≤ x ∧ x ≤ 100000 := by
  simp [sig] at h
  exact h.2
def isBits (l : List Int) : Bool := decide (l.length ≤ 200) && l.all fun x => decide (x = 1 ∨ x = -1)
theorem isBits_len {l : List Int} (h : isBits l = true) : l.length ≤ 200 := by
  simp [isBits] at h
  exact h.1
theorem isBits_mem {l : List Int} (h : isBits l = true) : ∀ x ∈ l, x = 1 ∨ x = -1 := by
  simp [isBits] at h
  exact h.2
def toldM (l : List Int) : List Int × Bool := if sig l = true then (l, true) else ([], false)
theorem toldM_len (l : List Int) : (toldM l).1.length ≤ 64 := by
  unfold toldM
  split
  · exact sig_len ‹_›
  · simp
def bitM (x v : Int) : Int := if x ≥ v then 1 else -1
theorem bitM_cases (x v : Int) : bitM x v = 1 ∨ bitM x v = -1 := by
  unfold bitM
  split <;> simp
def tkS (st last : Int) (fixed : Bool) (bit : Int) : Int :=
  if fixed = true then st else if last = 0 then st else if bit = last then (if 2 * st ≤ 4096 then 2 * st else 4096) else (if 1 ≤ st / 2 then st / 2 else 1)
theorem tkS_bd {st last : Int} {fixed : Bool} {bit : Int} (h0 : 1 ≤ st) (h1 : st ≤ 4096) : 1 ≤ tkS st last fixed bit ∧ tkS st last fixed bit ≤ 4096 := by
  unfold tkS
  repeat' split
  all_goals omega
theorem mul_bit {st bit : Int} (hb : bit = 1 ∨ bit = -1) : st * bit = st ∨ st * bit = -st := by
  rcases hb with rfl | rfl
  · left; omega
  · right; omega
/-- bit, value and step behind each sample -/
def codeM (fixed : Bool) : List Int → Int → Int → Int → List (Int × Int × Int)
  | [], _, _, _ => []
  | x :: t, v, st, last =>
    let b := bitM x v
    let s := tkS st last fixed b
    (b, v + s * b, s) :: codeM fixed t (v + s * b) s b
theorem codeM_length (fixed : Bool) : ∀ (l : List Int) (v st last : Int), (codeM fixed l v st last).length = l.length
  | [], _, _, _ => rfl
  | x :: t, v, st, last => by simp [codeM, codeM_length fixed t]
def fixM (st : Int) : List Int → Int → List Int
  | [], _ => []
  | x :: t, v => bitM x v :: fixM st t (v + bitM x v * st)
theorem fixM_length (st : Int) : ∀ (l : List Int) (v : Int), (fixM st l v).length = l.length
  | [], _ => rfl
  | x :: t, v => by simp [fixM, fixM_length st t]
def fixedBits (l : List Int) (st : Int) : List Int × Bool := if sig l = true ∧ 1 ≤ st ∧ st ≤ 4096 then (fixM st l 0, true) else ([], false)
def decM (fixed : Bool) : List Int → Int → Int → Int → List (Int × Int)
  | [], _, _, _ => []
  | b :: t, v, st, last => (v + tkS st last fixed b * b, tkS st last fixed b) :: decM fixed t (v + tkS st last fixed b * b) (tkS st last fixed b) b
theorem decM_length (fixed : Bool) : ∀ (l : List Int) (v st last : Int), (decM fixed l v st last).length = l.length
  | [], _, _, _ => rfl
  | x :: t, v, st, last => by simp [decM, decM_length fixed t]
def gapM : List Int → List Int → List Int
  | x :: t, y :: u => (x - y) :: gapM t u
  | _, _ => []
theorem gapM_length : ∀ (l m : List Int), l.length = m.length → (gapM l m).length = l.length
  | [], m, _ => by cases m <;> simp [gapM]
  | x :: t, [], h => by simp at h
  | x :: t, y :: u, h => by
    simp at h
    simp [gapM, gapM_length t u h]
theorem codeM_val (fixed : Bool) : ∀ (l : List Int) (v st last : Int) (n : Int), 1 ≤ st → st ≤ 4096 → -4096 * n ≤ v → v ≤ 4096 * n → ∀ y ∈ (codeM fixed l v st last).map (·.2.1), -4096 * (n + l.length) ≤ y ∧ y ≤ 4096 * (n + l.length)
  | [], _, _, _, _, _, _, _, _, y, hy => by simp [codeM] at hy
  | x :: t, v, st, last, n, h0, h1, hv0, hv1, y, hy => by
    have hb := bitM_cases x v
    have hk := tkS_bd (last := last) (fixed := fixed) (bit := bitM x v) h0 h1
    have hm := mul_bit (st := tkS st last fixed (bitM x v)) hb
    simp only [codeM, List.map_cons, List.mem_cons] at hy
    rcases hy with rfl | hy
    · simp; omega
    · have := codeM_val fixed t _ _ _ (n + 1) hk.1 hk.2 (by omega) (by omega) y hy
      simp; omega
def stepOk (st : Int) : Bool := decide (1 ≤ st) && decide (st ≤ 4096)
theorem stepOk_iff {st : Int} : stepOk st = true ↔ 1 ≤ st ∧ st ≤ 4096 := by simp [stepOk]
def stepBits (l : List Int) (st : Int) : List Int × Bool := if sig l = true then (if stepOk st = true then ((codeM false l 0 st 0).map (·.1), true) else ([], false)) else ([], false)
def stepValues (l : List Int) (st : Int) : List Int × Bool := if isBits l = true then (if stepOk st = true then toldM ((decM false l 0 st 0).map (·.1)) else ([], false)) else ([], false)
def stepsOfBits (l : List Int) (st : Int) : List Int × Bool := if isBits l = true then (if stepOk st = true then toldM ((decM false l 0 st 0).map (·.2)) else ([], false)) else ([], false)
def fixedValues (l : List Int) (st : Int) : List Int × Bool := if isBits l = true then (if stepOk st = true then toldM ((decM true l 0 st 0).map (·.1)) else ([], false)) else ([], false)
def stepGaps (l : List Int) (st : Int) : List Int × Bool := if sig l = true then (if stepOk st = true then toldM (gapM l ((codeM false l 0 st 0).map (·.2.1))) else ([], false)) else ([], false)
def wts (l : List Int) : Bool := decide (1 ≤ l.length) && decide (l.length ≤ 9) && l.all fun x => decide (-1000 ≤ x) && decide (x ≤ 1000)
theorem wts_len {l : List Int} (h : wts l = true) : 1 ≤ l.length ∧ l.length ≤ 9 := by
  simp [wts] at h
  exact ⟨h.1.1, h.1.2⟩
theorem wts_mem {l : List Int} (h : wts l = true) : ∀ x ∈ l, -1000 ≤ x ∧ x ≤ 1000 := by
  simp [wts] at h
  exact h.2
def ratio (p q : Int) : Bool := (decide (1 ≤ p) && decide (p ≤ 8)) && (decide (1 ≤ q) && decide (q ≤ 8))
theorem ratio_iff {p q : Int} : ratio p q = true ↔ (1 ≤ p ∧ p ≤ 8) ∧ (1 ≤ q ∧ q ≤ 8) := by simp [ratio]
def rsOk (h l : List Int) (p q : Int) : Bool := wts h && ((sig l && ratio p q) && decide ((l.length : Int) * p ≤ 64))
def peakM : List Int → Nat → Nat
  | [], m => m
  | x :: t, m => peakM t (max m x.natAbs)

def cv : List Int → List Int → Nat → Int
  | [], _, _ => 0
  | w :: _, s, 0 => w * s.getD 0 0
  | w :: h, s, n + 1 => w * s.getD (n + 1) 0 + cv h s n
def Lf (f : Nat → Int) (N : Nat) : List Int := (List.range N).map f
theorem Lf_length (f : Nat → Int) (N : Nat) : (Lf f N).length = N := by simp [Lf]
theorem rd_Lf (f : Nat → Int) (N i : Nat) (h : i < N) : rd (Lf f N) (i : Int) = f i := by
  simp [rd, Lf, h]
theorem set_Lf (f : Nat → Int) (N i : Nat) (v : Int) : (Lf f N).set i v = Lf (fun n => if n = i then v else f n) N := by
  apply List.ext_getElem
  · simp [Lf]
  · intro n h1 h2
    simp [Lf, List.getElem_set]
    by_cases c : i = n
    · simp [c]
    · rw [if_neg c, if_neg (fun h => c h.symm)]
theorem Lf_congr {f g : Nat → Int} {N : Nat} (h : ∀ n, n < N → f n = g n) : Lf f N = Lf g N := by
  apply List.ext_getElem
  · simp [Lf]
  · intro n h1 h2
    simp [Lf] at h1 ⊢
    exact h n h1
theorem cv_snoc (s : List Int) (w : Int) : ∀ (p : List Int) (n : Nat), cv (p ++ [w]) s n = cv p s n + (if p.length ≤ n then w * s.getD (n - p.length) 0 else 0)
  | [], 0 => by simp [cv]
  | [], n + 1 => by simp [cv]
  | a :: p, 0 => by simp [cv]
  | a :: p, n + 1 => by
    simp only [List.cons_append, cv, cv_snoc s w p n, List.length_cons, Nat.add_le_add_iff_right, Nat.add_sub_add_right]
    omega
theorem getD_bd {s : List Int} {a M : Int} (hM : 0 ≤ M) (h : ∀ x ∈ s, -M ≤ a * x ∧ a * x ≤ M) (n : Nat) : -M ≤ a * s.getD n 0 ∧ a * s.getD n 0 ≤ M := by
  rw [List.getD_eq_getElem?_getD]
  by_cases c : n < s.length
  · rw [List.getElem?_eq_getElem c]
    exact h _ (List.getElem_mem c)
  · rw [List.getElem?_eq_none (by omega)]
    simp
    omega
theorem cv_bd {s : List Int} {M : Int} (hM : 0 ≤ M) : ∀ (h : List Int) (n : Nat), (∀ a ∈ h, ∀ x ∈ s, -M ≤ a * x ∧ a * x ≤ M) → -(h.length * M) ≤ cv h s n ∧ cv h s n ≤ h.length * M
  | [], n, hb => by simp [cv]
  | a :: h, 0, hb => by
    have h1 := getD_bd hM (hb a (by simp)) 0
    have h2 : 0 ≤ (h.length : Int) * M := Int.mul_nonneg (by omega) hM
    simp only [cv, List.length_cons, Int.natCast_add, Int.add_mul]
    omega
  | a :: h, n + 1, hb => by
    have h1 := getD_bd hM (hb a (by simp)) (n + 1)
    have h2 := cv_bd hM h n (fun b hbm => hb b (by simp [hbm]))
    simp only [cv, List.length_cons, Int.natCast_add, Int.add_mul]
    omega
def conv (h s : List Int) : List Int := if s = [] then [] else Lf (cv h s) (h.length + s.length - 1)
theorem conv_length (h s : List Int) (hs : s ≠ []) : (conv h s).length = h.length + s.length - 1 := by
  rw [conv, if_neg hs, Lf_length]
/-- what stands in the list when the weights p are done, and of the weight w the samples q -/
def cvi (p q s : List Int) (w : Int) (n : Nat) : Int := cv p s n + (if p.length ≤ n ∧ n - p.length < q.length then w * s.getD (n - p.length) 0 else 0)
theorem cvi_nil (p s : List Int) (w : Int) : cvi p [] s w = cv p s := by
  funext n
  simp [cvi]
theorem cvi_all (p s : List Int) (w : Int) (n : Nat) : cvi p s s w n = cv (p ++ [w]) s n := by
  rw [cv_snoc, cvi]
  by_cases c : p.length ≤ n
  · by_cases d : n - p.length < s.length
    · rw [if_pos ⟨c, d⟩, if_pos c]
    · rw [if_neg (fun h => d h.2), if_pos c, List.getD_eq_getElem?_getD, List.getElem?_eq_none (by omega)]
      simp
  · rw [if_neg (fun h => c h.1), if_neg c]
theorem getD_mid (q t : List Int) (x : Int) : (q ++ x :: t).getD q.length 0 = x := by simp
theorem cvi_step (p q t : List Int) (w x : Int) (n : Nat) : (if n = p.length + q.length then cvi p q (q ++ x :: t) w n + w * x else cvi p q (q ++ x :: t) w n) = cvi p (q ++ [x]) (q ++ x :: t) w n := by
  unfold cvi
  by_cases c : n = p.length + q.length
  · subst c
    have e : p.length + q.length - p.length = q.length := by omega
    rw [if_pos rfl, e, getD_mid, if_neg (by omega), if_pos ⟨by omega, by simp⟩]
    omega
  · rw [if_neg c]
    by_cases d : p.length ≤ n ∧ n - p.length < q.length
    · rw [if_pos d, if_pos ⟨d.1, by simp; omega⟩]
    · rw [if_neg d, if_neg (fun h => d ⟨h.1, by have := h.2; simp at this; omega⟩)]
theorem Lf_succ (f : Nat → Int) (n : Nat) : Lf f (n + 1) = Lf f n ++ [f n] := by simp [Lf, List.range_succ]
def dropN (len rate first : Nat) : Nat := (len - first + rate - 1) / rate
theorem dropN_lt {len rate first j : Nat} (hr : 1 ≤ rate) : j < dropN len rate first ↔ first + j * rate < len := by
  unfold dropN
  rw [Nat.lt_iff_add_one_le, Nat.le_div_iff_mul_le (by omega), Nat.add_mul]
  omega
def dropM (l : List Int) (rate first : Nat) : List Int := Lf (fun j => l.getD (first + j * rate) 0) (dropN l.length rate first)
theorem dropM_length (l : List Int) (rate first : Nat) : (dropM l rate first).length = dropN l.length rate first := Lf_length _ _
theorem dropN_le {len rate first : Nat} (hr : 1 ≤ rate) : dropN len rate first ≤ len := by
  apply Nat.le_of_not_lt
  intro h
  have := (dropN_lt hr).1 h
  have h2 : len * 1 ≤ len * rate := Nat.mul_le_mul_left len hr
  omega
def stuffM (p : Nat) : List Int → List Int
  | [] => []
  | x :: t => (x :: List.replicate (p - 1) 0) ++ stuffM p t
theorem stuffM_length (p : Nat) (hp : 1 ≤ p) : ∀ l : List Int, (stuffM p l).length = l.length * p
  | [] => by simp [stuffM]
  | x :: t => by
    simp only [stuffM, List.length_append, List.length_cons, List.length_replicate, stuffM_length p hp t, Nat.add_mul]
    omega
theorem stuffM_snoc (p : Nat) (x : Int) : ∀ l : List Int, stuffM p (l ++ [x]) = stuffM p l ++ (x :: List.replicate (p - 1) 0)
  | [] => by simp [stuffM]
  | y :: t => by simp [stuffM, stuffM_snoc p x t]
theorem rd_getD (l : List Int) (i : Nat) : rd l (i : Int) = l.getD i 0 := by simp [rd]
theorem stuffM_sig (p : Nat) : ∀ l : List Int, (∀ x ∈ l, -100000 ≤ x ∧ x ≤ 100000) → ∀ x ∈ stuffM p l, -100000 ≤ x ∧ x ≤ 100000
  | [], _, x, h => by simp [stuffM] at h
  | y :: t, hl, x, h => by
    simp only [stuffM, List.mem_append, List.mem_cons, List.mem_replicate] at h
    rcases h with (rfl | ⟨_, rfl⟩) | h
    · exact hl _ (by simp)
    · omega
    · exact stuffM_sig p t (fun z hz => hl z (by simp [hz])) x h
theorem sig_iff {l : List Int} : sig l = true ↔ l.length ≤ 64 ∧ ∀ x ∈ l, -100000 ≤ x ∧ x ≤ 100000 := by simp [sig]
theorem ediv_bd {x b : Int} (hb : 0 < b) (hx : -4611686018427387904 ≤ x ∧ x ≤ 4611686018427387904) : -4611686018427387905 ≤ x / b ∧ x / b ≤ 4611686018427387905 := by
  have h0 := Int.emod_nonneg x (show b ≠ 0 by omega)
  have h1 := Int.emod_lt_of_pos x hb
  have h2 := Int.emod_add_mul_ediv x b
  constructor
  · apply Int.not_lt.1
    intro h
    have : b * (x / b) ≤ 1 * (x / b) := Int.mul_le_mul_of_nonpos_right (by omega) (by omega)
    have h3 : b * (x / b) ≤ b * (-4611686018427387906) := Int.mul_le_mul_of_nonneg_left (by omega) (by omega)
    omega
  · apply Int.not_lt.1
    intro h
    have h3 : 1 * (x / b) ≤ b * (x / b) := Int.mul_le_mul_of_nonneg_right (by omega) (by omega)
    omega
def atM (s : List Int) (i : Int) : Int := if 0 ≤ i then s.getD i.toNat 0 else 0
theorem getD_all {l : List Int} {M : Int} (hM : 0 ≤ M) (h : ∀ x ∈ l, -M ≤ x ∧ x ≤ M) (n : Nat) : -M ≤ l.getD n 0 ∧ l.getD n 0 ≤ M := by
  rw [List.getD_eq_getElem?_getD]
  by_cases c : n < l.length
  · rw [List.getElem?_eq_getElem c]
    exact h _ (List.getElem_mem c)
  · rw [List.getElem?_eq_none (by omega)]
    simp
    omega
def totL : List (List Int) → Nat
  | [] => 0
  | x :: t => x.length + totL t

theorem spec_l1In_eq (a b c : Int) : spec_l1In.f a b c = some (decide (b ≤ a) && decide (a ≤ c)) := by
  unfold spec_l1In.f
  by_cases h : b ≤ a <;> simp [h]

theorem impl_in_eq (a b c : Int) : impl_in.f a b c = some (decide (b ≤ a) && decide (a ≤ c)) := by
  unfold impl_in.f
  by_cases h : b ≤ a <;> simp [h]

theorem spec_l1All_l0 (lo hi : Int) (l : List Int) (hl : l.length ≤ 140737488351232) : ∀ (t p : List Int), l = p ++ t → Ev (fun k => spec_l1All.l0 k lo hi l (l.length : Int) (p.length : Int)) (t.all fun x => decide (lo ≤ x) && decide (x ≤ hi))
  | [], p, h => by
    apply Ev.step (f := fun _ => some _)
    · intro k
      subst h
      simp [spec_l1All.l0]; rfl
    · exact Ev.now _
  | x :: t, p, h => by
    have e1 : (p.length : Int) < (l.length : Int) := by rw [h]; exact lt_mid p t x
    have e2 : rd l (p.length : Int) = x := by rw [h]; exact rd_mid p t x
    have e3 : wrap64 ((p.length : Int) + 1) = ((p ++ [x]).length : Int) := nx_mid p t x (h ▸ hl)
    by_cases c : (decide (lo ≤ x) && decide (x ≤ hi)) = true
    · refine Ev.to (Ev.step (fun k => ?_) (spec_l1All_l0 lo hi l hl t (p ++ [x]) (by simp [h]))) (by rw [List.all_cons, c, Bool.true_and])
      simp only [spec_l1All.l0, if_pos e1, if_pos (Int.natCast_nonneg _), e2, e3, spec_l1In_eq, Option.bind_some, if_pos c]
    · refine Ev.to (Ev.step (fun k => ?_) (Ev.now false)) (by rw [List.all_cons, Bool.eq_false_iff.mpr c, Bool.false_and])
      simp only [spec_l1All.l0, if_pos e1, if_pos (Int.natCast_nonneg _), e2, e3, spec_l1In_eq, Option.bind_some, if_neg c]
theorem spec_l1All_ev (l : List Int) (lo hi : Int) (hl : l.length ≤ 140737488351232) : Ev (fun k => spec_l1All.f k l lo hi) (l.all fun x => decide (lo ≤ x) && decide (x ≤ hi)) := by
  simpa [spec_l1All.f] using spec_l1All_l0 lo hi l hl l [] rfl

theorem spec_wdSignal_ev (l : List Int) (hl : l.length ≤ 140737488351232) : Ev (fun k => spec_wdSignal.f k l) (sig l) := by
  simp only [spec_wdSignal.f]
  by_cases c : (l.length : Int) ≤ 64
  · refine Ev.tt c (Ev.bind (spec_l1All_ev l (-100000) 100000 hl) (Ev.to (Ev.now _) ?_))
    simp [sig]; omega
  · refine Ev.ff c (Ev.to (Ev.now _) ?_)
    simp [sig]; omega

theorem impl_isSignal_c1_eq (x : Int) : impl_isSignal_c1.f x = some (!(decide (-100000 ≤ x) && decide (x ≤ 100000))) := by
  unfold impl_isSignal_c1.f
  rw [impl_in_eq]
  rfl
theorem indexSignal_l0 (l : List Int) (hl : l.length ≤ 140737488351232) : ∀ (t p : List Int), l = p ++ t → ∃ r, Ev (fun k => slices_IndexFunc_int_int_impl_isSignal_c1.l0 k l (l.length : Int) (p.length : Int)) r ∧ (decide (r ≥ 0) = !(t.all fun x => decide (-100000 ≤ x) && decide (x ≤ 100000)))
  | [], p, h => by
    refine ⟨-1, Ev.step (f := fun _ => some (-1)) ?_ (Ev.now _), by simp⟩
    intro k
    subst h
    simp [slices_IndexFunc_int_int_impl_isSignal_c1.l0]
  | x :: t, p, h => by
    have e1 : (p.length : Int) < (l.length : Int) := by rw [h]; exact lt_mid p t x
    have e2 : rd l (p.length : Int) = x := by rw [h]; exact rd_mid p t x
    have e3 : wrap64 ((p.length : Int) + 1) = ((p ++ [x]).length : Int) := nx_mid p t x (h ▸ hl)
    by_cases c : (decide (-100000 ≤ x) && decide (x ≤ 100000)) = true
    · obtain ⟨r, h1, h2⟩ := indexSignal_l0 l hl t (p ++ [x]) (by simp [h])
      refine ⟨r, Ev.step (fun k => ?_) h1, by rw [h2, List.all_cons, c, Bool.true_and]⟩
      simp only [slices_IndexFunc_int_int_impl_isSignal_c1.l0, if_pos e1, if_pos (Int.natCast_nonneg _), e2, e3, impl_isSignal_c1_eq, c, Option.bind_some, Bool.not_true]
      rfl
    · have c := Bool.eq_false_iff.mpr c
      refine ⟨(p.length : Int), Ev.step (fun k => ?_) (Ev.now _), by rw [List.all_cons, c]; simp⟩
      simp only [slices_IndexFunc_int_int_impl_isSignal_c1.l0, if_pos e1, if_pos (Int.natCast_nonneg _), e2, e3, impl_isSignal_c1_eq, c, Option.bind_some, Bool.not_false]
      rfl
theorem impl_isSignal_ev (l : List Int) (hl : l.length ≤ 140737488351232) : Ev (fun k => impl_isSignal.f k l) (sig l) := by
  simp only [impl_isSignal.f]
  by_cases c : (l.length : Int) ≤ 64
  · obtain ⟨r, h1, h2⟩ := indexSignal_l0 l hl l [] rfl
    refine Ev.tt c (Ev.bind (a := decide (r ≥ 0)) ?_ (Ev.to (Ev.now _) ?_))
    · simp only [slices_ContainsFunc_int_int_impl_isSignal_c1.f, slices_IndexFunc_int_int_impl_isSignal_c1.f]
      exact Ev.bind h1 (Ev.now _)
    · rw [h2]; simp [sig]; omega
  · refine Ev.ff c (Ev.to (Ev.now _) ?_)
    simp [sig]; omega

theorem impl_told_ev (l : List Int) (hl : l.length ≤ 140737488351232) : Ev (fun k => impl_told.f k l) (toldM l) := by
  simp only [impl_told.f, toldM]
  refine Ev.bind (impl_isSignal_ev l hl) ?_
  by_cases c : sig l = true
  · exact Ev.tt c (Ev.to (Ev.now _) (by rw [if_pos c]))
  · exact Ev.ff c (Ev.to (Ev.now _) (by rw [if_neg c]))

theorem spec_weGood_ev (l : List Int) (hl : l.length ≤ 140737488351232) : Ev (fun k => spec_weGood.f k l) (wts l) := by
  simp only [spec_weGood.f]
  refine Ev.dbind (spec_l1In_eq _ 1 9) ?_
  by_cases c : (decide (1 ≤ (l.length : Int)) && decide ((l.length : Int) ≤ 9)) = true
  · refine Ev.tt c (Ev.bind (spec_l1All_ev l (-1000) 1000 hl) (Ev.to (Ev.now _) ?_))
    simp at c
    simp [wts]; omega
  · refine Ev.ff c (Ev.to (Ev.now _) ?_)
    simp at c
    simp [wts]; omega

theorem impl_isWeights_c1_eq (x : Int) : impl_isWeights_c1.f x = some (!(decide (-1000 ≤ x) && decide (x ≤ 1000))) := by
  unfold impl_isWeights_c1.f
  rw [impl_in_eq]
  rfl
theorem indexWeights_l0 (l : List Int) (hl : l.length ≤ 140737488351232) : ∀ (t p : List Int), l = p ++ t → ∃ r, Ev (fun k => slices_IndexFunc_int_int_impl_isWeights_c1.l0 k l (l.length : Int) (p.length : Int)) r ∧ (decide (r ≥ 0) = !(t.all fun x => decide (-1000 ≤ x) && decide (x ≤ 1000)))
  | [], p, h => by
    refine ⟨-1, Ev.step (f := fun _ => some (-1)) ?_ (Ev.now _), by simp⟩
    intro k
    subst h
    simp [slices_IndexFunc_int_int_impl_isWeights_c1.l0]
  | x :: t, p, h => by
    have e1 : (p.length : Int) < (l.length : Int) := by rw [h]; exact lt_mid p t x
    have e2 : rd l (p.length : Int) = x := by rw [h]; exact rd_mid p t x
    have e3 : wrap64 ((p.length : Int) + 1) = ((p ++ [x]).length : Int) := nx_mid p t x (h ▸ hl)
    by_cases c : (decide (-1000 ≤ x) && decide (x ≤ 1000)) = true
    · obtain ⟨r, h1, h2⟩ := indexWeights_l0 l hl t (p ++ [x]) (by simp [h])
      refine ⟨r, Ev.step (fun k => ?_) h1, by rw [h2, List.all_cons, c, Bool.true_and]⟩
      simp only [slices_IndexFunc_int_int_impl_isWeights_c1.l0, if_pos e1, if_pos (Int.natCast_nonneg _), e2, e3, impl_isWeights_c1_eq, c, Option.bind_some, Bool.not_true]
      rfl
    · have c := Bool.eq_false_iff.mpr c
      refine ⟨(p.length : Int), Ev.step (fun k => ?_) (Ev.now _), by rw [List.all_cons, c]; simp⟩
      simp only [slices_IndexFunc_int_int_impl_isWeights_c1.l0, if_pos e1, if_pos (Int.natCast_nonneg _), e2, e3, impl_isWeights_c1_eq, c, Option.bind_some, Bool.not_false]
      rfl
theorem impl_isWeights_ev (l : List Int) (hl : l.length ≤ 140737488351232) : Ev (fun k => impl_isWeights.f k l) (wts l) := by
  simp only [impl_isWeights.f]
  refine Ev.dbind (impl_in_eq _ 1 9) ?_
  by_cases c : (decide (1 ≤ (l.length : Int)) && decide ((l.length : Int) ≤ 9)) = true
  · obtain ⟨r, h1, h2⟩ := indexWeights_l0 l hl l [] rfl
    refine Ev.tt c (Ev.bind (a := decide (r ≥ 0)) ?_ (Ev.to (Ev.now _) ?_))
    · simp only [slices_ContainsFunc_int_int_impl_isWeights_c1.f, slices_IndexFunc_int_int_impl_isWeights_c1.f]
      exact Ev.bind h1 (Ev.now _)
    · rw [h2]
      simp at c
      simp [wts]; omega
  · refine Ev.ff c (Ev.to (Ev.now _) ?_)
    simp at c
    simp [wts]; omega

theorem impl_answer_l1 (h s : List Int) (M : Int) (hM : 0 ≤ M) (hM1 : (h.length : Int) * M ≤ 4000000000000000000) (hMM : M ≤ 4000000000000000000) (hb : ∀ a ∈ h, ∀ x ∈ s, -M ≤ a * x ∧ a * x ≤ M) (hN : h.length + s.length ≤ 100000000) (hs : s ≠ [])
    (p : List Int) (w : Int) (u : List Int) (hp : h = p ++ w :: u) (r : List Int) : ∀ (t q : List Int), s = q ++ t →
    Ev (fun k => impl_answer.l0 k s (Lf (cv (p ++ [w]) s) (h.length + s.length - 1)) h (h.length : Int) (wrap64 ((p.length : Int) + 1))) r →
    Ev (fun k => impl_answer.l1 k s (Lf (cvi p q s w) (h.length + s.length - 1)) (p.length : Int) w h (h.length : Int) (p.length : Int) s (s.length : Int) (q.length : Int)) r
  | [], q, hq, hr => by
    have e : q = s := by rw [hq]; simp
    subst e
    refine Ev.step (fun k => ?_) hr
    have e : Lf (cvi p q q w) (h.length + q.length - 1) = Lf (cv (p ++ [w]) q) (h.length + q.length - 1) := Lf_congr (fun n _ => cvi_all p q w n)
    rw [e]
    simp [impl_answer.l1]
  | x :: t, q, hq, hr => by
    have hps : p.length + 1 ≤ h.length := by rw [hp]; simp
    have hqs : q.length + 1 ≤ s.length := by rw [hq]; simp
    have e1 : (q.length : Int) < (s.length : Int) := Int.ofNat_lt.2 hqs
    have e2 : rd s (q.length : Int) = x := by rw [hq]; exact rd_mid q t x
    have e3 : wrap64 ((q.length : Int) + 1) = ((q ++ [x]).length : Int) := w64_suc q x (ar8 (d := h.length) hqs (by rw [Nat.add_comm]; exact hN))
    have e4 : wrap64 ((q.length : Int) + (p.length : Int)) = ((p.length + q.length : Nat) : Int) := (w64_nat _ _ (ar7 hqs hps (by rw [Nat.add_comm]; exact hN))).trans (by rw [Nat.add_comm])
    have e5 : ((p.length + q.length : Nat) : Int) < ((Lf (cvi p q s w) (h.length + s.length - 1)).length : Int) := by rw [Lf_length]; exact ar1 hps hqs
    have e6 : rd (Lf (cvi p q s w) (h.length + s.length - 1)) ((p.length + q.length : Nat) : Int) = cvi p q s w (p.length + q.length) := rd_Lf _ _ _ (ar2 hps hqs)
    have hwx := hb w (by rw [hp]; simp) x (by rw [hq]; simp)
    have e7 : wrap64 (w * x) = w * x := ar4 hwx hMM
    have e8 : cvi p q s w (p.length + q.length) = cv p s (p.length + q.length) := by
      unfold cvi
      rw [if_neg (ar3 _ _), Int.add_zero]
    have hcv := cv_bd hM p (p.length + q.length) (fun a ha => hb a (by rw [hp]; simp [ha]))
    have hpm := ar6 hps hM
    have e9 : wrap64 (cvi p q s w (p.length + q.length) + w * x) = cvi p q s w (p.length + q.length) + w * x := by
      rw [e8]
      exact ar5 hcv hwx hpm hM1
    have e10 : (Lf (cvi p q s w) (h.length + s.length - 1)).set (((p.length + q.length : Nat) : Int).toNat) (cvi p q s w (p.length + q.length) + w * x) = Lf (cvi p (q ++ [x]) s w) (h.length + s.length - 1) := by
      rw [Int.toNat_natCast, set_Lf]
      apply Lf_congr
      intro n _
      have := cvi_step p q t w x n
      rw [← hq] at this
      rw [← this]
      by_cases c : n = p.length + q.length
      · rw [if_pos c, if_pos c, c]
      · rw [if_neg c, if_neg c]
    refine Ev.step (fun k => ?_) (impl_answer_l1 h s M hM hM1 hMM hb hN hs p w u hp r t (q ++ [x]) (by simp [hq]) hr)
    simp only [impl_answer.l1, if_pos e1, if_pos (Int.natCast_nonneg _), e2, e3, e4, if_pos e5, e6, e7, e9, e10]
theorem impl_answer_l0 (h s : List Int) (M : Int) (hM : 0 ≤ M) (hM1 : (h.length : Int) * M ≤ 4000000000000000000) (hMM : M ≤ 4000000000000000000) (hb : ∀ a ∈ h, ∀ x ∈ s, -M ≤ a * x ∧ a * x ≤ M) (hN : h.length + s.length ≤ 100000000) (hs : s ≠ []) :
    ∀ (u p : List Int), h = p ++ u → Ev (fun k => impl_answer.l0 k s (Lf (cv p s) (h.length + s.length - 1)) h (h.length : Int) (p.length : Int)) (Lf (cv h s) (h.length + s.length - 1))
  | [], p, hp => by
    have e : p = h := by rw [hp]; simp
    subst e
    refine Ev.step (f := fun _ => some _) (fun k => ?_) (Ev.now _)
    simp [impl_answer.l0]
  | w :: u, p, hp => by
    have hps : p.length + 1 ≤ h.length := by rw [hp]; simp
    have e1 : (p.length : Int) < (h.length : Int) := Int.ofNat_lt.2 hps
    have e2 : rd h (p.length : Int) = w := by rw [hp]; exact rd_mid p u w
    have e3 : wrap64 ((p.length : Int) + 1) = ((p ++ [w]).length : Int) := w64_suc p w (ar8 hps hN)
    have ih := impl_answer_l0 h s M hM hM1 hMM hb hN hs u (p ++ [w]) (by simp [hp])
    rw [← e3] at ih
    have hh := impl_answer_l1 h s M hM hM1 hMM hb hN hs p w u hp _ s [] rfl ih
    rw [cvi_nil] at hh
    refine Ev.step (fun k => ?_) hh
    simp only [impl_answer.l0, if_pos e1, if_pos (Int.natCast_nonneg _), e2]
    rfl
theorem impl_answer_ev (h s : List Int) (M : Int) (hM : 0 ≤ M) (hM1 : (h.length : Int) * M ≤ 4000000000000000000) (hMM : M ≤ 4000000000000000000) (hb : ∀ a ∈ h, ∀ x ∈ s, -M ≤ a * x ∧ a * x ≤ M) (hN : h.length + s.length ≤ 100000000) : Ev (fun k => impl_answer.f k h s) (conv h s) := by
  simp only [impl_answer.f, conv]
  by_cases c : s = []
  · subst c
    exact Ev.tt (by simp) (Ev.now _)
  · rw [if_neg c]
    have hs1 : 1 ≤ s.length := by
      cases s with
      | nil => exact absurd rfl c
      | cons a t => simp
    have e : wrap64 ((wrap64 ((h.length : Int) + (s.length : Int))) - 1) = ((h.length + s.length - 1 : Nat) : Int) := by
      rw [w64 (n := (h.length : Int) + (s.length : Int)) (by omega) (by omega), w64 (n := (h.length : Int) + (s.length : Int) - 1) (by omega) (by omega)]
      omega
    refine Ev.ff (by omega) ?_
    rw [e]
    refine Ev.tt (by omega) (Ev.tt (by omega) ?_)
    rw [Int.toNat_natCast]
    have e2 : List.replicate (h.length + s.length - 1) (0 : Int) = Lf (cv [] s) (h.length + s.length - 1) := by
      apply List.ext_getElem
      · simp [Lf]
      · intro n h1 h2
        simp [Lf, cv]
    rw [e2]
    exact impl_answer_l0 h s M hM hM1 hMM hb hN c h [] rfl

theorem impl_size_eq (x : Int) (h : -1000000000000000000 ≤ x ∧ x ≤ 1000000000000000000) : impl_size.f x = some (x.natAbs : Int) := by
  unfold impl_size.f mx
  rw [w64 (n := -x) (by omega) (by omega)]
  by_cases c : x < -x
  · rw [if_pos c]; simp; omega
  · rw [if_neg c]; simp; omega

/-- What a cursor gives: a value with P, and at most c steps further. -/
def Dr {α : Type} (P : α → Prop) (c : Int) (a : Int) (g : Option (α × Int × Int)) : Prop := ∃ v a' sd, g = some (v, a', sd) ∧ a ≤ a' ∧ a' ≤ a + c ∧ P v
theorem u64_bd (n : Int) : 0 ≤ IntKind.u64.wrap n ∧ IntKind.u64.wrap n < 18446744073709551616 := by
  simp only [IntKind.wrap, IntKind.bits, IntKind.signed]
  simp
  omega
theorem u64_and255 (x : Int) (h0 : 0 ≤ x) (h1 : x < 18446744073709551616) : Go.bits .and .u64 x 255 = x % 256 :=
  bits_mask .u64 64 (by decide) (fun n h0 h1 => by
    simp only [IntKind.wrap, IntKind.bits, IntKind.signed]
    simp
    omega) 8 (by decide) x h0 h1
def Bytes (l : List Int) : Prop := l.length ≤ 1048576 ∧ ∀ x ∈ l, 0 ≤ x ∧ x ≤ 255
theorem next_ok {l : List Int} (hl : Bytes l) (a sd : Int) (h0 : 0 ≤ a) (h1 : a ≤ 1000000000000000) : Dr (fun v => 0 ≤ v ∧ v ≤ 255) 1 a (spec_l1Cur_next.f l a sd) := by
  have hw : wrap64 (a + 1) = a + 1 := w64 (by omega) (by omega)
  have hm : ∀ y : Int, 0 ≤ wrap64 (Go.bits .and .u64 (IntKind.u64.wrap y / 1099511627776) 255) ∧ wrap64 (Go.bits .and .u64 (IntKind.u64.wrap y / 1099511627776) 255) ≤ 255 := by
    intro y
    have hy := u64_bd y
    rw [u64_and255 _ (by omega) (by omega), w64 (n := IntKind.u64.wrap y / 1099511627776 % 256) (by omega) (by omega)]
    omega
  unfold spec_l1Cur_next.f
  by_cases c : a < (l.length : Int)
  · have hr : 0 ≤ rd l a ∧ rd l a ≤ 255 := by
      obtain ⟨n, rfl⟩ : ∃ n : Nat, a = (n : Int) := ⟨a.toNat, by omega⟩
      have hn : n < l.length := by omega
      rw [rd_getD, List.getD_eq_getElem?_getD, List.getElem?_eq_getElem hn]
      exact hl.2 _ (List.getElem_mem hn)
    rw [if_pos c, if_pos h0, hw, if_pos (by omega), w64 (n := rd l a) (by omega) (by omega)]
    exact ⟨_, _, _, rfl, by omega, by omega, hr⟩
  · rw [if_neg c, hw]
    by_cases d : a + 1 ≤ (l.length : Int)
    · omega
    · rw [if_neg d]
      exact ⟨_, _, _, rfl, by omega, by omega, hm _⟩

theorem pick_ok {l : List Int} (hl : Bytes l) (a sd n : Int) (h0 : 0 ≤ a) (h1 : a ≤ 100000000000000) (hn : n ≤ 1000000) : Dr (fun v => 0 ≤ v ∧ (v < n ∨ v = 0)) 2 a (spec_l1Cur_pick.f l a sd n) := by
  unfold spec_l1Cur_pick.f
  by_cases c : n ≤ 1
  · rw [if_pos c]
    exact ⟨_, _, _, rfl, by omega, by omega, by omega, .inr rfl⟩
  · rw [if_neg c]
    obtain ⟨v, a', sd', e, ha, hb, hv⟩ := next_ok hl a sd h0 (by omega)
    rw [e]
    simp only [Option.bind_some]
    have hn0 : ¬ n = 0 := by omega
    by_cases d : n > 200
    · rw [if_pos d]
      obtain ⟨v2, a2, sd2, e2, ha2, hb2, hv2⟩ := next_ok hl a' sd' (by omega) (by omega)
      rw [e2]
      simp only [Option.bind_some]
      rw [if_neg hn0, w64 (n := v * 256) (by omega) (by omega), w64 (n := v * 256 + v2) (by omega) (by omega), Int.tmod_eq_emod_of_nonneg (by omega)]
      have := Int.emod_nonneg (v * 256 + v2) hn0
      have := Int.emod_lt_of_pos (v * 256 + v2) (show 0 < n by omega)
      exact ⟨_, _, _, rfl, by omega, by omega, by omega, .inl (by omega)⟩
    · rw [if_neg d, if_neg hn0, Int.tmod_eq_emod_of_nonneg (by omega)]
      have := Int.emod_nonneg v hn0
      have := Int.emod_lt_of_pos v (show 0 < n by omega)
      exact ⟨_, _, _, rfl, by omega, by omega, by omega, .inl (by omega)⟩

theorem among_ok {l : List Int} (hl : Bytes l) (a sd : Int) (m : List Int) (h0 : 0 ≤ a) (h1 : a ≤ 100000000000000) (hm : 1 ≤ m.length) (hm2 : m.length ≤ 1000) : Dr (fun v => v ∈ m) 2 a (spec_l1Cur_among.f l a sd m) := by
  unfold spec_l1Cur_among.f
  obtain ⟨v, a', sd', e, ha, hb, hv, hv2⟩ := pick_ok hl a sd (m.length : Int) h0 h1 (by omega)
  rw [e]
  simp only [Option.bind_some]
  rw [if_pos hv, if_pos (by omega)]
  refine ⟨_, _, _, rfl, ha, hb, ?_⟩
  obtain ⟨n, rfl⟩ : ∃ n : Nat, v = (n : Int) := ⟨v.toNat, by omega⟩
  have hn : n < m.length := by omega
  rw [rd_getD, List.getD_eq_getElem?_getD, List.getElem?_eq_getElem hn]
  exact List.getElem_mem hn

theorem one_ok {l : List Int} (hl : Bytes l) (a sd n : Int) (h0 : 0 ≤ a) (h1 : a ≤ 100000000000000) (hn : n ≤ 1000000) : Dr (fun _ => True) 2 a (spec_l1Cur_one.f l a sd n) := by
  unfold spec_l1Cur_one.f
  obtain ⟨v, a', sd', e, ha, hb, hv, hv2⟩ := pick_ok hl a sd n h0 h1 hn
  rw [e]
  simp only [Option.bind_some]
  exact ⟨_, _, _, rfl, ha, hb, trivial⟩

theorem mode_ok {l : List Int} (hl : Bytes l) (a sd : Int) (h0 : 0 ≤ a) (h1 : a ≤ 10000000000000) : Dr (fun v => -1 ≤ v ∧ v ≤ 3) 10 a (spec_l1Cur_mode.f l a sd) := by
  unfold spec_l1Cur_mode.f
  obtain ⟨u, a2, sd2, e2, ha2, hb2, hu⟩ := among_ok hl a sd [0, 1, 2, 0, 1, 2, 0, 1, 2, 3, (-1)] h0 (by omega) (by simp) (by simp)
  rw [e2]
  simp only [Option.bind_some]
  refine ⟨_, _, _, rfl, by omega, by omega, ?_⟩
  simp at hu
  omega

theorem laws_big_eq (l m : List Int) (hl : l.length ≤ 140737488355328) (hm : m.length ≤ 140737488355328) : laws_big.f l m = some (decide (1048576 < l.length + m.length)) := by
  unfold laws_big.f
  by_cases c : (l.length : Int) > 1048576
  · rw [if_pos c]
    simp; omega
  · rw [if_neg c, w64 (n := 1048576 - (l.length : Int)) (by omega) (by omega)]
    simp; omega
theorem bytes_of {l : List Int} (h : l.length ≤ 1048576) (hx : ∀ x ∈ l, (Lit.int .u8 x).wf = true) : Bytes l := by
  refine ⟨h, fun x hxl => ?_⟩
  have := hx x hxl
  simp [Lit.wf, IntKind.min, IntKind.max, IntKind.signed, IntKind.bits] at this
  omega

/-- A number shifted: down, to the nearest one, towards 0. -/
def shM (x b mode : Int) : Int := if mode = 1 ∧ b ≤ 2 * (x % b) ∧ 0 < x % b then x / b + 1 else if mode = 2 ∧ x < 0 ∧ 0 < x % b then x / b + 1 else x / b
theorem div_uniq {x b q r : Int} (h : x = q * b + r) (h0 : 0 ≤ r) (h1 : r < b) : x / b = q := by
  have hb : 0 < b := by omega
  exact ((Int.ediv_emod_unique hb).2 ⟨by rw [h, Int.mul_comm]; omega, h0, h1⟩).1
theorem pow2_pos (s : Nat) : (0 : Int) < 2 ^ s := Int.pow_pos (by decide)
theorem pow2_le {s : Nat} (h : s ≤ 20) : (2 : Int) ^ s ≤ 1048576 := by
  have h1 : (2 : Nat) ^ s ≤ 2 ^ 20 := Nat.pow_le_pow_right (by decide) h
  have h3 : (2 : Int) ^ s = (((2 : Nat) ^ s : Nat) : Int) := by simp
  rw [h3]
  have h2 : (2 : Nat) ^ 20 = 1048576 := by decide
  omega
theorem shl_one {s : Nat} (h : s ≤ 20) : shl .i64 1 (s : Int) = 2 ^ s := by
  unfold shl
  have h1 : min ((s : Int)).toNat IntKind.i64.bits = s := by
    simp [IntKind.bits]; omega
  rw [h1, Int.one_mul, IntKind.wrap_i64]
  have := pow2_pos s
  have := pow2_le h
  omega
theorem shl_mul {s : Nat} (h : s ≤ 20) (y : Int) (h1 : -9223372036854775808 ≤ y * 2 ^ s) (h2 : y * 2 ^ s ≤ 9223372036854775807) : shl .i64 y (s : Int) = y * 2 ^ s := by
  unfold shl
  have e : min ((s : Int)).toNat IntKind.i64.bits = s := by
    simp [IntKind.bits]; omega
  rw [e, IntKind.wrap_i64]
  omega
theorem shr_div {s : Nat} (h : s ≤ 20) (y : Int) : shr .i64 y (s : Int) = y / 2 ^ s := by
  unfold shr
  have e : min ((s : Int)).toNat IntKind.i64.bits = s := by
    simp [IntKind.bits]; omega
  rw [e]
theorem mod_eq (x b : Int) : x = (x / b) * b + x % b := by
  have := Int.emod_add_mul_ediv x b
  rw [Int.mul_comm] at this
  omega

theorem impl_shifted_ev (x : Int) (s : Nat) (mode : Int) (hs : s ≤ 20) (hx : -4611686018427387904 ≤ x ∧ x ≤ 4611686018427387904) : Ev (fun k => impl_shifted.f k x (s : Int) mode) (shM x (2 ^ s) mode) := by
  have hb := pow2_pos s
  have hb2 := pow2_le hs
  have hr0 := Int.emod_nonneg x (show (2 : Int) ^ s ≠ 0 by omega)
  have hr1 := Int.emod_lt_of_pos x hb
  have hd := mod_eq x (2 ^ s)
  simp only [impl_shifted.f]
  by_cases c : mode = 1
  · refine Ev.tt c ?_
    by_cases d : (s : Int) > 0
    · obtain ⟨m, rfl⟩ : ∃ m, s = m + 1 := ⟨s - 1, by omega⟩
      have e1 : wrap64 (((m + 1 : Nat) : Int) - 1) = (m : Int) := by
        rw [w64 (n := ((m + 1 : Nat) : Int) - 1) (by omega) (by omega)]
        omega
      have hp : (2 : Int) ^ (m + 1) = 2 * 2 ^ m := by rw [Int.pow_succ]; omega
      have hpm := pow2_pos m
      have e2 : wrap64 (x + 2 ^ m) = x + 2 ^ m := w64 (by omega) (by omega)
      refine Ev.step (f := fun _ => some (shM x (2 ^ (m + 1)) mode)) (fun k => ?_) (Ev.now _)
      simp only [impl_shifted.j0, e1, shl_one (s := m) (by omega), e2, shr_div hs]
      rw [if_pos (by simp), if_pos (Int.natCast_nonneg _), if_pos (Int.natCast_nonneg _)]
      congr 1
      unfold shM
      by_cases g : (2 : Int) ^ (m + 1) ≤ 2 * (x % 2 ^ (m + 1)) ∧ 0 < x % 2 ^ (m + 1)
      · rw [if_pos ⟨c, g⟩]
        refine div_uniq (r := x % 2 ^ (m + 1) - 2 ^ m) ?_ (by omega) (by omega)
        rw [Int.add_mul]
        omega
      · rw [if_neg (fun h => g h.2), if_neg (fun h => by omega)]
        refine div_uniq (r := x % 2 ^ (m + 1) + 2 ^ m) (by omega) (by omega) (by omega)
    · have e : s = 0 := by omega
      subst e
      refine Ev.step (f := fun _ => some (shM x (2 ^ 0) mode)) (fun k => ?_) (Ev.now _)
      simp only [impl_shifted.j0, shr_div (s := 0) (by omega)]
      rw [if_neg (by simp), if_neg (by omega), if_pos (by omega)]
      congr 1
      unfold shM
      rw [if_neg (fun h => by have := h.2.2; simp at this), if_neg (fun h => by omega)]
  · refine Ev.ff c ?_
    refine Ev.step (f := fun _ => some (shM x (2 ^ s) mode)) (fun k => ?_) (Ev.now _)
    simp only [impl_shifted.j0, shr_div hs]
    rw [if_neg (by decide)]
    have hS : shM x (2 ^ s) mode = if mode = 2 ∧ x < 0 ∧ 0 < x % 2 ^ s then x / 2 ^ s + 1 else x / 2 ^ s := by
      unfold shM
      rw [if_neg (fun h => c h.1)]
    rw [hS]
    clear hS
    by_cases d : mode = 2
    · rw [if_pos d]
      by_cases g : x < 0
      · rw [if_pos g, if_pos (Int.natCast_nonneg _), w64 (n := -x) (by omega) (by omega)]
        by_cases r : 0 < x % 2 ^ s
        · rw [if_pos ⟨d, g, r⟩]
          have e : (-x) / 2 ^ s = -(x / 2 ^ s) - 1 := by
            refine div_uniq (r := 2 ^ s - x % 2 ^ s) ?_ (by omega) (by omega)
            rw [Int.sub_mul, Int.neg_mul]
            omega
          have hq : -4611686018427387905 ≤ x / 2 ^ s ∧ x / 2 ^ s ≤ 4611686018427387905 := ediv_bd hb hx
          rw [e, w64 (n := -(-(x / 2 ^ s) - 1)) (by omega) (by omega)]
          congr 1
          omega
        · rw [if_neg (fun h => r h.2.2)]
          have e : (-x) / 2 ^ s = -(x / 2 ^ s) := by
            refine div_uniq (r := 0) ?_ (by omega) (by omega)
            rw [Int.neg_mul]
            omega
          have hq : -4611686018427387905 ≤ x / 2 ^ s ∧ x / 2 ^ s ≤ 4611686018427387905 := ediv_bd hb hx
          rw [e, w64 (n := -(-(x / 2 ^ s))) (by omega) (by omega)]
          congr 1
          omega
      · rw [if_neg g, if_pos (Int.natCast_nonneg _), if_neg (fun h => g h.2.1)]
    · rw [if_neg d, if_pos (Int.natCast_nonneg _), if_neg (fun h => d h.1)]

theorem spec_wdShift_ev (x : Int) (s : Nat) (mode : Int) (hs : s ≤ 20) (hx : -4611686018427387904 ≤ x ∧ x ≤ 4611686018427387904) : Ev (fun k => spec_wdShift.f k x (s : Int) mode) (shM x (2 ^ s) mode) := by
  have hb := pow2_pos s
  have hb2 := pow2_le hs
  have hr0 := Int.emod_nonneg x (show (2 : Int) ^ s ≠ 0 by omega)
  have hr1 := Int.emod_lt_of_pos x hb
  have hd := mod_eq x (2 ^ s)
  have hq : -4611686018427387905 ≤ x / 2 ^ s ∧ x / 2 ^ s ≤ 4611686018427387905 := ediv_bd hb hx
  have key : ∀ d : Int, d = x / 2 ^ s → Ev (fun k => spec_wdShift.j0 k x mode (2 ^ s) d) (shM x (2 ^ s) mode) := by
    intro d e
    subst e
    have e1 : wrap64 (x / 2 ^ s * 2 ^ s) = x / 2 ^ s * 2 ^ s := w64 (by omega) (by omega)
    have e2 : wrap64 (x - x / 2 ^ s * 2 ^ s) = x % 2 ^ s := by
      rw [w64 (n := x - x / 2 ^ s * 2 ^ s) (by omega) (by omega)]
      omega
    have e3 : wrap64 (2 * (x % 2 ^ s)) = 2 * (x % 2 ^ s) := w64 (by omega) (by omega)
    have e4 : wrap64 (x / 2 ^ s + 1) = x / 2 ^ s + 1 := w64 (by omega) (by omega)
    have j1 : ∀ f : Bool, (f = true ↔ mode = 1 ∧ 2 ^ s ≤ 2 * (x % 2 ^ s) ∧ 0 < x % 2 ^ s) → Ev (fun k => spec_wdShift.j1 k x mode (x / 2 ^ s) (x % 2 ^ s) f) (shM x (2 ^ s) mode) := by
      intro f hf
      refine Ev.step (f := fun _ => some (shM x (2 ^ s) mode)) (fun k => ?_) (Ev.now _)
      simp only [spec_wdShift.j1, e4]
      unfold shM
      by_cases g : f = true
      · rw [if_pos g, if_pos (hf.1 g)]
      · rw [if_neg g, if_neg (fun h => g (hf.2 h))]
        by_cases m2 : mode = 2
        · rw [if_pos m2]
          by_cases x0 : x < 0
          · rw [if_pos x0]
            by_cases r0 : x % 2 ^ s > 0
            · rw [if_pos r0, if_pos ⟨m2, x0, r0⟩]
            · rw [if_neg r0, if_neg (fun h => r0 h.2.2)]
          · rw [if_neg x0, if_neg (fun h => x0 h.2.1)]
        · rw [if_neg m2, if_neg (fun h => m2 h.1)]
    by_cases m1 : mode = 1
    · by_cases g : 2 * (x % 2 ^ s) ≥ 2 ^ s
      · refine Ev.step (fun k => ?_) (j1 (decide (x % 2 ^ s > 0)) (by simp only [decide_eq_true_eq]; exact ⟨fun h => ⟨m1, g, h⟩, fun h => h.2.2⟩))
        simp only [spec_wdShift.j0, e1, e2, e3, if_pos m1, if_pos g]
      · refine Ev.step (fun k => ?_) (j1 false (by simp; intro _ h; omega))
        simp only [spec_wdShift.j0, e1, e2, e3, if_pos m1, if_neg g]
    · refine Ev.step (fun k => ?_) (j1 false (by simp; intro h; exact absurd h m1))
      simp only [spec_wdShift.j0, e1, e2, e3, if_neg m1]
  simp only [spec_wdShift.f, shl_one hs]
  refine Ev.tt (Int.natCast_nonneg _) (Ev.ff (by omega) ?_)
  by_cases g : Int.tmod x (2 ^ s) < 0
  · refine Ev.tt g (key _ ?_)
    have hx0 : x < 0 := by
      apply Int.not_le.1
      intro h
      have := Int.tmod_nonneg (2 ^ s) h
      omega
    have e := Int.tdiv_eq_ediv (a := x) (b := 2 ^ s)
    have e0 : ¬ (0 ≤ x ∨ (2 : Int) ^ s ∣ x) := by
      rintro (h | h)
      · omega
      · rw [Int.tmod_eq_zero_of_dvd h] at g
        omega
    rw [if_neg e0, Int.sign_eq_one_of_pos hb] at e
    rw [e, w64 (n := x / 2 ^ s + 1) (by omega) (by omega), w64 (n := x / 2 ^ s + 1 - 1) (by omega) (by omega)]
    omega
  · refine Ev.ff g (key _ ?_)
    have e := Int.tdiv_eq_ediv (a := x) (b := 2 ^ s)
    have e0 : 0 ≤ x ∨ (2 : Int) ^ s ∣ x := by
      by_cases h : 0 ≤ x
      · exact .inl h
      · right
        have h2 : Int.tmod x (2 ^ s) ≤ 0 := by
          have := Int.tmod_nonneg (2 ^ s) (show 0 ≤ -x by omega)
          rw [Int.neg_tmod] at this
          omega
        exact Int.dvd_of_tmod_eq_zero (by omega)
    rw [if_pos e0] at e
    rw [e, w64 (n := x / 2 ^ s + 0) (by omega) (by omega)]
    omega

def numOk (x : Int) : Bool := decide (-1000000000000 ≤ x) && decide (x ≤ 1000000000000)
def modeOk (s mode : Int) : Bool := (decide (0 ≤ s) && decide (s ≤ 20)) && (decide (0 ≤ mode) && decide (mode ≤ 2))
theorem numOk_iff {x : Int} : numOk x = true ↔ -1000000000000 ≤ x ∧ x ≤ 1000000000000 := by simp [numOk]
theorem modeOk_iff {s m : Int} : modeOk s m = true ↔ (0 ≤ s ∧ s ≤ 20) ∧ (0 ≤ m ∧ m ≤ 2) := by simp [modeOk]

def roundM (x s mode : Int) : Int × Bool := if numOk x = true then (if modeOk s mode = true then (shM x (2 ^ s.toNat) mode, true) else (0, false)) else (0, false)
theorem impl_isNumber_eq (x : Int) : impl_isNumber.f x = some (numOk x) := by
  unfold impl_isNumber.f
  rw [impl_in_eq]
  rfl
theorem impl_isShift_eq (s m : Int) : impl_isShift.f s m = some (modeOk s m) := by
  unfold impl_isShift.f modeOk
  rw [impl_in_eq]
  simp only [Option.bind_some, impl_in_eq]
  by_cases c : (decide (0 ≤ s) && decide (s ≤ 20)) = true
  · rw [if_pos c, c, Bool.true_and]
  · rw [if_neg c, Bool.eq_false_iff.mpr c, Bool.false_and]
theorem impl_RoundShift_ev (x s m : Int) : Ev (fun k => impl_RoundShift.f k x s m) (roundM x s m) := by
  simp only [impl_RoundShift.f, roundM]
  refine Ev.dbind (impl_isNumber_eq x) ?_
  by_cases c : numOk x = true
  · rw [if_pos c]
    refine Ev.tt c (Ev.dbind (impl_isShift_eq s m) ?_)
    by_cases d : modeOk s m = true
    · rw [if_pos d]
      have d' := modeOk_iff.1 d
      have c' := numOk_iff.1 c
      obtain ⟨n, rfl⟩ : ∃ n : Nat, s = (n : Int) := ⟨s.toNat, by omega⟩
      rw [Int.toNat_natCast]
      exact Ev.tt d (Ev.bind (impl_shifted_ev x n m (by omega) (by omega)) (Ev.now _))
    · rw [if_neg d]
      exact Ev.ff d (Ev.now _)
  · rw [if_neg c]
    exact Ev.ff c (Ev.now _)

theorem spec_wdMode_eq (s m : Int) : spec_wdMode.f s m = some (modeOk s m) := by
  unfold spec_wdMode.f modeOk
  rw [spec_l1In_eq]
  simp only [Option.bind_some, spec_l1In_eq]
  by_cases c : (decide (0 ≤ s) && decide (s ≤ 20)) = true
  · rw [if_pos c, c, Bool.true_and]
  · rw [if_neg c, Bool.eq_false_iff.mpr c, Bool.false_and]

def goodB (b : Int) : Bool := decide (2 ≤ b) && decide (b ≤ 16)
def hf (b : Int) : Int := 2 ^ (b - 1).toNat
def fitH (h : Int) (w : Bool) (x : Int) : Int := if w = true then (x + h) % (2 * h) - h else if x < -h then -h else if h - 1 < x then h - 1 else x
theorem goodB_iff {b : Int} : goodB b = true ↔ 2 ≤ b ∧ b ≤ 16 := by simp [goodB]
theorem half {b : Int} (g : goodB b = true) : (2 ≤ hf b ∧ hf b ≤ 32768) ∧ wrap64 (b - 1) = b - 1 ∧ 0 ≤ b - 1 ∧ shl .i64 1 (b - 1) = hf b ∧ 0 ≤ b ∧ shl .i64 1 b = 2 * hf b := by
  have g' := goodB_iff.1 g
  obtain ⟨n, rfl⟩ : ∃ n : Nat, b = ((n + 1 : Nat) : Int) := ⟨(b - 1).toNat, by omega⟩
  have e : ((n + 1 : Nat) : Int) - 1 = (n : Int) := by omega
  have eh : hf ((n + 1 : Nat) : Int) = 2 ^ n := by rw [hf, e, Int.toNat_natCast]
  have h1 : (2 : Nat) ^ n ≤ 2 ^ 15 := Nat.pow_le_pow_right (by decide) (by omega)
  have h2 : (2 : Nat) ^ 1 ≤ 2 ^ n := Nat.pow_le_pow_right (by decide) (by omega)
  have h3 : (2 : Int) ^ n = (((2 : Nat) ^ n : Nat) : Int) := by simp
  have h4 : (2 : Nat) ^ 15 = 32768 := by decide
  have h5 : (2 : Nat) ^ 1 = 2 := by decide
  rw [eh, e, shl_one (s := n) (by omega), shl_one (s := n + 1) (by omega), Int.pow_succ]
  refine ⟨⟨by omega, by omega⟩, w64 (by omega) (by omega), by omega, rfl, by omega, by omega⟩
theorem mod_uniq {x b q r : Int} (h : x = q * b + r) (h0 : 0 ≤ r) (h1 : r < b) : x % b = r := by
  have hb : 0 < b := by omega
  exact ((Int.ediv_emod_unique (q := q) hb).2 ⟨by rw [h, Int.mul_comm]; omega, h0, h1⟩).2
theorem tmod_fix (a n : Int) (hn : 0 < n) (hn2 : n ≤ 1000000000) : Int.tmod (wrap64 (Int.tmod a n + n)) n = a % n := by
  have h0 := Int.emod_nonneg a (show n ≠ 0 by omega)
  have h1 := Int.emod_lt_of_pos a hn
  have e := Int.tmod_eq_emod (a := a) (b := n)
  have hb : Int.tmod a n = a % n ∨ Int.tmod a n = a % n - n := by
    rw [e]
    split
    · left; omega
    · right; omega
  rcases hb with hb | hb
  · rw [hb, w64 (n := a % n + n) (by omega) (by omega), Int.tmod_eq_emod_of_nonneg (by omega)]
    simp
  · rw [hb, Int.sub_add_cancel, w64 (n := a % n) (by omega) (by omega), Int.tmod_eq_emod_of_nonneg (by omega)]
    simp
theorem fitH_bd (h : Int) (w : Bool) (x : Int) (hh : 1 ≤ h) : -h ≤ fitH h w x ∧ fitH h w x ≤ h - 1 := by
  have h0 := Int.emod_nonneg (x + h) (show 2 * h ≠ 0 by omega)
  have h1 := Int.emod_lt_of_pos (x + h) (show 0 < 2 * h by omega)
  unfold fitH
  split
  · omega
  · split
    · omega
    · split <;> omega
theorem fitH_id (h : Int) (w : Bool) (x : Int) (h0 : -h ≤ x) (h1 : x ≤ h - 1) : fitH h w x = x := by
  unfold fitH
  by_cases c : w = true
  · rw [if_pos c, mod_uniq (x := x + h) (b := 2 * h) (q := 0) (r := x + h) (by omega) (by omega) (by omega)]
    omega
  · rw [if_neg c, if_neg (by omega), if_neg (by omega)]
theorem fitH_two (h x : Int) (hh : 1 ≤ h) : fitH h true x = if x % (2 * h) > h - 1 then x % (2 * h) - 2 * h else x % (2 * h) := by
  have h0 := Int.emod_nonneg x (show 2 * h ≠ 0 by omega)
  have h1 := Int.emod_lt_of_pos x (show 0 < 2 * h by omega)
  have hd := mod_eq x (2 * h)
  unfold fitH
  rw [if_pos rfl]
  split
  · rw [mod_uniq (x := x + h) (b := 2 * h) (q := x / (2 * h) + 1) (r := x % (2 * h) - h) (by rw [Int.add_mul]; omega) (by omega) (by omega)]
    omega
  · rw [mod_uniq (x := x + h) (b := 2 * h) (q := x / (2 * h)) (r := x % (2 * h) + h) (by omega) (by omega) (by omega)]
    omega
theorem fit_back (h x y : Int) (h0 : -h ≤ x) (h1 : x ≤ h - 1) : fitH h true (fitH h true (x + y) - y) = x := by
  have hd := mod_eq (x + y + h) (2 * h)
  have e : fitH h true (x + y) - y = x - (x + y + h) / (2 * h) * (2 * h) := by
    unfold fitH
    rw [if_pos rfl]
    omega
  rw [e]
  unfold fitH
  rw [if_pos rfl, mod_uniq (x := x - (x + y + h) / (2 * h) * (2 * h) + h) (b := 2 * h) (q := -((x + y + h) / (2 * h))) (r := x + h) (by rw [Int.neg_mul]; omega) (by omega) (by omega)]
  omega
theorem fit_dvd (h x : Int) : ∃ q, x - fitH h true x = 2 * h * q := by
  have hd := mod_eq (x + h) (2 * h)
  refine ⟨(x + h) / (2 * h), ?_⟩
  unfold fitH
  rw [if_pos rfl, Int.mul_comm (2 * h)]
  omega
def inW (b x : Int) : Bool := decide (-(hf b) ≤ x) && decide (x ≤ hf b - 1)
theorem inW_iff {b x : Int} : inW b x = true ↔ -(hf b) ≤ x ∧ x ≤ hf b - 1 := by simp [inW]
theorem ediv_in {x b M : Int} (hb : 0 < b) (hM : 0 ≤ M) (hx : -M ≤ x ∧ x ≤ M) : -M ≤ x / b ∧ x / b ≤ M := by
  have h1 : (-M) * b ≤ (-M) * 1 := Int.mul_le_mul_of_nonpos_left (by omega) (by omega)
  have h2 : M * 1 ≤ M * b := Int.mul_le_mul_of_nonneg_left (by omega) hM
  exact ⟨Int.le_ediv_of_mul_le hb (by omega), Int.ediv_le_of_le_mul hb (by omega)⟩
theorem shM_in {x b M : Int} (m : Int) (hb : 0 < b) (hM : 0 ≤ M) (hx : -M ≤ x ∧ x ≤ M) : -M ≤ shM x b m ∧ shM x b m ≤ M + 1 := by
  have := ediv_in hb hM hx
  unfold shM
  split
  · omega
  · split <;> omega

theorem impl_isWord_eq (b : Int) (w : Bool) : impl_isWord.f b w = some (goodB b) := by
  unfold impl_isWord.f
  rw [impl_in_eq]
  rfl

theorem spec_wdGood_eq (b : Int) (w : Bool) : spec_wdGood.f b w = some (goodB b) := by
  unfold spec_wdGood.f
  rw [spec_l1In_eq]
  rfl

theorem impl_Word_ends_eq {b : Int} (w : Bool) (g : goodB b = true) : impl_Word_ends.f b w = some (-(hf b), hf b - 1) := by
  obtain ⟨h1, h2, h3, h4, h5, h6⟩ := half g
  unfold impl_Word_ends.f
  rw [h2, if_pos h3, h4, w64 (n := -(hf b)) (by omega) (by omega), w64 (n := hf b - 1) (by omega) (by omega)]

theorem impl_mod_eq (a n : Int) (hn : 0 < n) (hn2 : n ≤ 1000000000) : impl_mod.f a n = some (a % n) := by
  unfold impl_mod.f
  rw [if_neg (by omega), tmod_fix a n hn hn2]
theorem impl_Word_fit_eq {b : Int} (w : Bool) (x : Int) (g : goodB b = true) (hx : -4611686018427387904 ≤ x ∧ x ≤ 4611686018427387904) : impl_Word_fit.f b w x = some (fitH (hf b) w x) := by
  obtain ⟨h1, h2, h3, h4, h5, h6⟩ := half g
  have m0 := Int.emod_nonneg (x + hf b) (show 2 * hf b ≠ 0 by omega)
  have m1 := Int.emod_lt_of_pos (x + hf b) (show 0 < 2 * hf b by omega)
  have e1 : x - -(hf b) = x + hf b := by omega
  have e2 : hf b - 1 - -(hf b) = 2 * hf b - 1 := by omega
  have e3 : 2 * hf b - 1 + 1 = 2 * hf b := by omega
  unfold impl_Word_fit.f fitH
  rw [impl_Word_ends_eq w g]
  simp only [Option.bind_some]
  by_cases c : w = true
  · rw [if_pos c, if_pos c, e1, w64 (n := x + hf b) (by omega) (by omega), e2, w64 (n := 2 * hf b - 1) (by omega) (by omega), e3, w64 (n := 2 * hf b) (by omega) (by omega), impl_mod_eq _ _ (by omega) (by omega)]
    simp only [Option.bind_some]
    rw [w64 (n := (x + hf b) % (2 * hf b) + -(hf b)) (by omega) (by omega)]
    congr 1
  · rw [if_neg c, if_neg c]
    congr 1
    unfold mn mx
    repeat' split
    all_goals omega

theorem spec_wdHigh_eq {b : Int} (w : Bool) (g : goodB b = true) : spec_wdHigh.f b w = some (hf b - 1) := by
  obtain ⟨h1, h2, h3, h4, h5, h6⟩ := half g
  unfold spec_wdHigh.f
  rw [h2, if_pos h3, h4, w64 (n := hf b - 1) (by omega) (by omega)]

theorem spec_wdLow_eq {b : Int} (w : Bool) (g : goodB b = true) : spec_wdLow.f b w = some (-(hf b)) := by
  obtain ⟨h1, h2, h3, h4, h5, h6⟩ := half g
  unfold spec_wdLow.f
  rw [h2, if_pos h3, h4, w64 (n := -(hf b)) (by omega) (by omega)]

theorem spec_wdFit_eq {b : Int} (w : Bool) (x : Int) (g : goodB b = true) : spec_wdFit.f b w x = some (fitH (hf b) w x) := by
  obtain ⟨h1, h2, h3, h4, h5, h6⟩ := half g
  unfold spec_wdFit.f
  by_cases c : w = true
  · have m0 := Int.emod_nonneg x (show 2 * hf b ≠ 0 by omega)
    have m1 := Int.emod_lt_of_pos x (show 0 < 2 * hf b by omega)
    rw [if_pos c, if_pos h5, h6, if_neg (by omega), spec_wdHigh_eq w g, tmod_fix x _ (by omega) (by omega)]
    simp only [Option.bind_some]
    rw [c, fitH_two _ _ (by omega)]
    by_cases d : x % (2 * hf b) > hf b - 1
    · rw [if_pos d, if_pos d, w64 (n := x % (2 * hf b) - 2 * hf b) (by omega) (by omega)]
    · rw [if_neg d, if_neg d]
  · rw [if_neg c, spec_wdHigh_eq w g, spec_wdLow_eq w g]
    simp only [Option.bind_some, spec_l1Most.f, spec_l1Least.f]
    unfold fitH
    rw [if_neg c]
    by_cases d : -(hf b) > x
    · rw [if_pos d]
      simp only [Option.bind_some]
      rw [if_neg (show ¬ hf b - 1 < -(hf b) by omega), if_pos (show x < -(hf b) by omega)]
      rfl
    · rw [if_neg d]
      simp only [Option.bind_some]
      rw [if_neg (show ¬ x < -(hf b) by omega)]
      by_cases e : hf b - 1 < x
      · rw [if_pos e, if_pos e]
        rfl
      · rw [if_neg e, if_neg e]
        rfl

def fitN (b : Int) (w : Bool) (x : Int) : Int × Bool := if goodB b = true then (if numOk x = true then (fitH (hf b) w x, true) else (0, false)) else (0, false)
theorem impl_FitNumber_eq (b : Int) (w : Bool) (x : Int) : impl_FitNumber.f b w x = some (fitN b w x) := by
  unfold impl_FitNumber.f fitN
  rw [impl_isWord_eq]
  simp only [Option.bind_some]
  by_cases g : goodB b = true
  · rw [if_pos g, if_pos g, impl_isNumber_eq]
    simp only [Option.bind_some]
    by_cases n : numOk x = true
    · have n' := numOk_iff.1 n
      rw [if_pos n, if_pos n, impl_Word_fit_eq w x g (by omega)]
      rfl
    · rw [if_neg n, if_neg n]
  · rw [if_neg g, if_neg g]

def rangeM (b : Int) : Int × Int × Bool := if goodB b = true then (-(hf b), hf b - 1, true) else (0, 0, false)

theorem impl_RangeOf_eq (b : Int) (w : Bool) : impl_RangeOf.f b w = some (rangeM b) := by
  unfold impl_RangeOf.f rangeM
  rw [impl_isWord_eq]
  simp only [Option.bind_some]
  by_cases g : goodB b = true
  · rw [if_pos g, if_pos g, impl_Word_ends_eq w g]
    rfl
  · rw [if_neg g, if_neg g]

theorem impl_Word_has_eq {b : Int} (w : Bool) (x : Int) (g : goodB b = true) : impl_Word_has.f b w x = some (inW b x) := by
  unfold impl_Word_has.f
  rw [impl_Word_ends_eq w g]
  simp only [Option.bind_some, impl_in_eq]
  rfl

theorem word_ok {l : List Int} (hl : Bytes l) (a sd : Int) (h0 : 0 ≤ a) (h1 : a ≤ 10000000000000) : ∃ b w a' sd', spec_l1Cur_word.f l a sd = some (b, w, a', sd') ∧ a ≤ a' ∧ a' ≤ a + 10 := by
  unfold spec_l1Cur_word.f
  obtain ⟨v, a1, sd1, e1, ha1, hb1, -⟩ := one_ok hl a sd 12 h0 (by omega) (by omega)
  rw [e1]
  simp only [Option.bind_some]
  by_cases c : v = true
  · rw [if_pos c]
    obtain ⟨u, a2, sd2, e2, ha2, hb2, -⟩ := among_ok hl a1 sd1 [(-1), 1, 2, 16, 17, 4611686018427387904] (by omega) (by omega) (by simp) (by simp)
    rw [e2]
    simp only [Option.bind_some]
    obtain ⟨u3, a3, sd3, e3, ha3, hb3, -⟩ := one_ok hl a2 sd2 2 (by omega) (by omega) (by omega)
    rw [e3]
    simp only [Option.bind_some]
    exact ⟨_, _, _, _, rfl, by omega, by omega⟩
  · rw [if_neg c]
    obtain ⟨u, a2, sd2, e2, ha2, hb2, -⟩ := pick_ok hl a1 sd1 7 (by omega) (by omega) (by omega)
    rw [e2]
    simp only [Option.bind_some]
    obtain ⟨u3, a3, sd3, e3, ha3, hb3, -⟩ := one_ok hl a2 sd2 2 (by omega) (by omega) (by omega)
    rw [e3]
    simp only [Option.bind_some]
    exact ⟨_, _, _, _, rfl, by omega, by omega⟩

theorem laws_iSame_l0 (l : List Int) (hl : l.length ≤ 140737488351232) : ∀ (t p : List Int), l = p ++ t → Ev (fun k => laws_iSame.l0 k l l (l.length : Int) (p.length : Int)) true
  | [], p, h => by
    refine Ev.step (f := fun _ => some true) (fun k => ?_) (Ev.now _)
    subst h
    simp [laws_iSame.l0]
  | x :: t, p, h => by
    have e1 : (p.length : Int) < (l.length : Int) := by rw [h]; exact lt_mid p t x
    have e3 : wrap64 ((p.length : Int) + 1) = ((p ++ [x]).length : Int) := nx_mid p t x (h ▸ hl)
    refine Ev.step (fun k => ?_) (laws_iSame_l0 l hl t (p ++ [x]) (by simp [h]))
    simp only [laws_iSame.l0, if_pos e1, if_pos (Int.natCast_nonneg _), e3]
    rw [if_pos trivial]
theorem laws_iSame_ev (l : List Int) (hl : l.length ≤ 140737488351232) : Ev (fun k => laws_iSame.f k l l) true := by
  simp only [laws_iSame.f]
  exact Ev.tt trivial (laws_iSame_l0 l hl l [] rfl)

theorem signal_l0 {l : List Int} (hl : Bytes l) (sz : Int) (hs : 1 ≤ sz ∧ sz ≤ 100000) : ∀ (n : Nat) (q : List Int) (a sd : Int), q.length + n ≤ 100000 → 0 ≤ a → a + 10 * n ≤ 100000000000 → ∃ s a' sd', Ev (fun k => spec_l1Cur_signal.l0 k sz q (n : Int) l a sd) (s, a', sd') ∧ s.length ≤ 100001 ∧ a ≤ a' ∧ a' ≤ a + 10 * n + 10
  | 0, q, a, sd, hq, h0, h1 => by
    obtain ⟨u, a1, sd1, e1, ha1, hb1, -⟩ := pick_ok hl a sd 16 h0 (by omega) (by omega)
    by_cases c : u = 0
    · obtain ⟨v, a2, sd2, e2, ha2, hb2, -⟩ := among_ok hl a1 sd1 [100000, (-100000), 100001, 4611686018427387904] (by omega) (by omega) (by simp) (by simp)
      refine ⟨q ++ [v], a2, sd2, Ev.step (f := fun _ => some (q ++ [v], a2, sd2)) (fun k => ?_) (Ev.now _), by simp; omega, by omega, by omega⟩
      simp only [spec_l1Cur_signal.l0, e1, e2, Option.bind_some, if_pos c]
      rw [if_neg (by omega), if_pos (by omega)]
    · by_cases d : u = 1
      · obtain ⟨v, a2, sd2, e2, ha2, hb2, hv, hv2⟩ := pick_ok hl a1 sd1 2 (by omega) (by omega) (by omega)
        have e3 : wrap64 (64 + v) = 64 + v := w64 (by omega) (by omega)
        refine ⟨List.replicate (64 + v).toNat 0, a2, sd2, Ev.step (f := fun _ => some (List.replicate (64 + v).toNat 0, a2, sd2)) (fun k => ?_) (Ev.now _), by simp; omega, by omega, by omega⟩
        simp only [spec_l1Cur_signal.l0, e1, e2, Option.bind_some, if_neg c, if_pos d, e3]
        rw [if_neg (by omega), if_pos (by omega), if_pos (by omega)]
      · refine ⟨q, a1, sd1, Ev.step (f := fun _ => some (q, a1, sd1)) (fun k => ?_) (Ev.now _), by omega, by omega, by omega⟩
        simp only [spec_l1Cur_signal.l0, e1, Option.bind_some, if_neg c, if_neg d]
        rw [if_neg (by omega)]
  | n + 1, q, a, sd, hq, h0, h1 => by
    obtain ⟨u, a1, sd1, e1, ha1, hb1, -⟩ := one_ok hl a sd 4 h0 (by omega) (by omega)
    have e3 : wrap64 (((n + 1 : Nat) : Int) - 1) = (n : Int) := by
      rw [w64 (n := ((n + 1 : Nat) : Int) - 1) (by omega) (by omega)]
      omega
    have hn : ((n + 1 : Nat) : Int) > 0 := by omega
    have hql : q.length < 17592186044416 := by omega
    by_cases c : u = true
    · obtain ⟨s, a', sd', h, hs1, ha, hb⟩ := signal_l0 hl sz hs n (q ++ [0]) a1 sd1 (by simp; omega) (by omega) (by omega)
      refine ⟨s, a', sd', Ev.step (fun k => ?_) h, hs1, by omega, by omega⟩
      simp only [spec_l1Cur_signal.l0, e1, Option.bind_some, if_pos c, if_pos hn, if_pos hql, e3]
    · have e4 : wrap64 (wrap64 (2 * sz) + 1) = 2 * sz + 1 := by
        rw [w64 (n := 2 * sz) (by omega) (by omega), w64 (n := 2 * sz + 1) (by omega) (by omega)]
      obtain ⟨v, a2, sd2, e2, ha2, hb2, -⟩ := pick_ok hl a1 sd1 (2 * sz + 1) (by omega) (by omega) (by omega)
      obtain ⟨s, a', sd', h, hs1, ha, hb⟩ := signal_l0 hl sz hs n (q ++ [wrap64 (v - sz)]) a2 sd2 (by simp; omega) (by omega) (by omega)
      refine ⟨s, a', sd', Ev.step (fun k => ?_) h, hs1, by omega, by omega⟩
      simp only [spec_l1Cur_signal.l0, e1, Option.bind_some, if_neg c, if_pos hn, e4, e2, if_pos hql, e3]
theorem signal_ok {l : List Int} (hl : Bytes l) (a sd most sz : Int) (h0 : 0 ≤ a) (h1 : a ≤ 1000000000) (hm : 0 ≤ most ∧ most ≤ 10000) (hs : 1 ≤ sz ∧ sz ≤ 100000) : ∃ s a' sd', Ev (fun k => spec_l1Cur_signal.f k l a sd most sz) (s, a', sd') ∧ s.length ≤ 100001 ∧ a ≤ a' ∧ a' ≤ a + 1000000 := by
  obtain ⟨u, a1, sd1, e1, ha1, hb1, hu, hu2⟩ := pick_ok hl a sd (most + 1) h0 (by omega) (by omega)
  obtain ⟨n, rfl⟩ : ∃ n : Nat, u = (n : Int) := ⟨u.toNat, by omega⟩
  obtain ⟨s, a', sd', h, hs1, ha, hb⟩ := signal_l0 hl sz hs n [] a1 sd1 (by simp; omega) (by omega) (by omega)
  refine ⟨s, a', sd', ?_, hs1, by omega, by omega⟩
  simp only [spec_l1Cur_signal.f]
  rw [w64 (n := most + 1) (by omega) (by omega)]
  exact Ev.dbind e1 h

def cvf : List Int → (Nat → Int) → Nat → Int
  | [], _, _ => 0
  | w :: _, f, 0 => w * f 0
  | w :: h, f, n + 1 => w * f (n + 1) + cvf h f n
def gD (l : List Int) (n : Nat) : Int := l.getD n 0
theorem cv_cvf : ∀ (h s : List Int) (n : Nat), cv h s n = cvf h (gD s) n
  | [], s, n => by simp [cv, cvf]
  | w :: h, s, 0 => rfl
  | w :: h, s, n + 1 => by simp only [cv, cvf, cv_cvf h s n]; rfl
theorem cvf_congr {f g : Nat → Int} : ∀ (h : List Int) (n : Nat), (∀ i, i ≤ n → f i = g i) → cvf h f n = cvf h g n
  | [], n, e => rfl
  | w :: h, 0, e => by simp only [cvf, e 0 (Nat.le_refl 0)]
  | w :: h, n + 1, e => by simp only [cvf, e (n + 1) (Nat.le_refl _), cvf_congr h n (fun i hi => e i (by omega))]
theorem cvf_mul (c : Int) (f : Nat → Int) : ∀ (h : List Int) (n : Nat), cvf h (fun i => c * f i) n = c * cvf h f n
  | [], n => by simp [cvf]
  | w :: h, 0 => by simp only [cvf]; grind
  | w :: h, n + 1 => by simp only [cvf, cvf_mul c f h n]; grind
theorem cvf_add (f g : Nat → Int) : ∀ (h : List Int) (n : Nat), cvf h (fun i => f i + g i) n = cvf h f n + cvf h g n
  | [], n => by simp [cvf]
  | w :: h, 0 => by simp only [cvf]; grind
  | w :: h, n + 1 => by simp only [cvf, cvf_add f g h n]; grind
def Sh (f : Nat → Int) : Nat → Int
  | 0 => 0
  | n + 1 => f n
theorem cvf_zero : ∀ (h : List Int) (n : Nat), cvf h (fun _ => 0) n = 0
  | [], n => rfl
  | w :: h, 0 => by simp [cvf]
  | w :: h, n + 1 => by simp [cvf, cvf_zero h n]
theorem cvf_Sh (f : Nat → Int) : ∀ (h : List Int) (n : Nat), cvf h (Sh f) n = Sh (cvf h f) n
  | [], 0 => rfl
  | [], n + 1 => rfl
  | w :: h, 0 => by simp [cvf, Sh]
  | w :: h, 1 => by
    simp only [cvf, Sh, cvf_Sh f h 0]
    simp
  | w :: h, n + 2 => by
    simp only [cvf, Sh, cvf_Sh f h (n + 1)]
theorem cvf_cons (w : Int) (h : List Int) (f : Nat → Int) (n : Nat) : cvf (w :: h) f n = w * f n + Sh (cvf h f) n := by
  cases n <;> simp [cvf, Sh]
theorem cvf_comm (b : List Int) (f : Nat → Int) : ∀ (a : List Int) (n : Nat), cvf b (cvf a f) n = cvf a (cvf b f) n
  | [], n => cvf_zero b n
  | w :: a, n => by
    rw [cvf_congr (g := fun i => (fun i => w * f i) i + Sh (cvf a f) i) b n (fun i _ => cvf_cons w a f i), cvf_add, cvf_mul, cvf_Sh, cvf_cons]
    congr 1
    cases n with
    | zero => rfl
    | succ n => exact cvf_comm b f a n
def dl (n : Nat) : Int := if n = 0 then 1 else 0
theorem cvf_dl : ∀ (h : List Int) (n : Nat), cvf h dl n = gD h n
  | [], n => by simp [cvf, gD]
  | w :: h, 0 => by simp [cvf, dl, gD]
  | w :: h, n + 1 => by
    simp only [cvf, cvf_dl h n]
    simp [dl, gD]
theorem cvf_far : ∀ (h : List Int) (s : List Int) (n : Nat), s ≠ [] → h.length + s.length - 1 ≤ n → cvf h (gD s) n = 0
  | [], s, n, _, _ => rfl
  | w :: h, s, 0, hs, hn => by
    have : 1 ≤ s.length := by cases s <;> simp_all
    simp only [List.length_cons] at hn
    omega
  | w :: h, s, n + 1, hs, hn => by
    have h1 : 1 ≤ s.length := by cases s <;> simp_all
    simp only [List.length_cons] at hn
    have e : gD s (n + 1) = 0 := by
      rw [gD, List.getD_eq_getElem?_getD, List.getElem?_eq_none (by omega)]
      rfl
    rw [cvf, e, cvf_far h s n hs (by omega)]
    simp
theorem gD_Lf (f : Nat → Int) (N n : Nat) : gD (Lf f N) n = if n < N then f n else 0 := by
  by_cases c : n < N
  · rw [if_pos c, gD, List.getD_eq_getElem?_getD]
    simp [Lf, c]
  · rw [if_neg c, gD, List.getD_eq_getElem?_getD, List.getElem?_eq_none (by rw [Lf_length]; omega)]
    rfl
theorem gD_conv (h s : List Int) (n : Nat) (hs : s ≠ []) : gD (conv h s) n = cvf h (gD s) n := by
  rw [conv, if_neg hs, gD_Lf]
  by_cases c : n < h.length + s.length - 1
  · rw [if_pos c, cv_cvf]
  · rw [if_neg c, cvf_far h s n hs (by omega)]
theorem list_gD {a b : List Int} (hl : a.length = b.length) (h : ∀ n, gD a n = gD b n) : a = b := by
  apply List.ext_getElem hl
  intro n h1 h2
  have := h n
  rw [gD, gD, List.getD_eq_getElem?_getD, List.getD_eq_getElem?_getD, List.getElem?_eq_getElem h1, List.getElem?_eq_getElem h2] at this
  exact this
theorem conv_comm {a b : List Int} (ha : a ≠ []) (hb : b ≠ []) : conv a b = conv b a := by
  apply list_gD
  · rw [conv_length a b hb, conv_length b a ha, Nat.add_comm]
  intro n
  rw [gD_conv a b n hb, gD_conv b a n ha, ← cvf_congr a n (fun i _ => cvf_dl b i), cvf_comm a dl b n]
  exact cvf_congr b n (fun i _ => cvf_dl a i)
theorem conv_ne {a b : List Int} (ha : a ≠ []) (hb : b ≠ []) : conv a b ≠ [] := by
  intro h
  have h1 := conv_length a b hb
  rw [h] at h1
  have : 1 ≤ a.length := by cases a <;> simp_all
  have : 1 ≤ b.length := by cases b <;> simp_all
  simp at h1
  omega
theorem cvf_conv {a b : List Int} (hb : b ≠ []) (f : Nat → Int) (n : Nat) (s : List Int) (hf : ∀ i, f i = gD s i) : cvf (conv a b) f n = cvf a (cvf b f) n := by
  have e1 : ∀ i, f i = cvf s dl i := fun i => (hf i).trans (cvf_dl s i).symm
  rw [cvf_congr (g := cvf s dl) (conv a b) n (fun i _ => e1 i), cvf_comm (conv a b) dl s n]
  rw [cvf_congr (g := cvf a (cvf b dl)) s n (fun i _ => by rw [cvf_dl, gD_conv a b i hb]; exact cvf_congr a i (fun j _ => (cvf_dl b j).symm))]
  rw [cvf_comm s (cvf b dl) a n]
  refine cvf_congr a n (fun i _ => ?_)
  rw [cvf_comm s dl b i]
  exact cvf_congr b i (fun j _ => (e1 j).symm)
theorem conv_assoc {a b s : List Int} (ha : a ≠ []) (hb : b ≠ []) (hs : s ≠ []) : conv b (conv a s) = conv (conv a b) s := by
  apply list_gD
  · have h1 : 1 ≤ a.length := by cases a <;> simp_all
    have h2 : 1 ≤ b.length := by cases b <;> simp_all
    have h3 : 1 ≤ s.length := by cases s <;> simp_all
    rw [conv_length b _ (conv_ne ha hs), conv_length a s hs, conv_length _ s hs, conv_length a b hb]
    omega
  intro n
  rw [gD_conv b _ n (conv_ne ha hs), gD_conv _ s n hs, cvf_conv hb (gD s) n s (fun _ => rfl), ← cvf_comm b (gD s) a n]
  exact cvf_congr b n (fun i _ => gD_conv a s i hs)
/-- the value of a list at z -/
def evz (z : Int) : List Int → Int
  | [] => 0
  | w :: t => w + z * evz z t
def evf (z : Int) : (Nat → Int) → Nat → Int
  | _, 0 => 0
  | f, n + 1 => f 0 + z * evf z (fun i => f (i + 1)) n
theorem evf_congr (z : Int) : ∀ (n : Nat) (f g : Nat → Int), (∀ i, i < n → f i = g i) → evf z f n = evf z g n
  | 0, _, _, _ => rfl
  | n + 1, f, g, h => by
    simp only [evf, h 0 (by omega), evf_congr z n (fun i => f (i + 1)) (fun i => g (i + 1)) (fun i hi => h (i + 1) (by omega))]
theorem evf_lin (z c : Int) : ∀ (n : Nat) (f g : Nat → Int), evf z (fun i => c * f i + g i) n = c * evf z f n + evf z g n
  | 0, _, _ => by simp [evf]
  | n + 1, f, g => by
    simp only [evf, evf_lin z c n (fun i => f (i + 1)) (fun i => g (i + 1))]
    grind
theorem evf_gD (z : Int) : ∀ (l : List Int) (n : Nat), l.length ≤ n → evf z (gD l) n = evz z l
  | [], 0, _ => rfl
  | [], n + 1, _ => by
    have ih := evf_gD z [] n (by simp)
    simp only [evf, evz] at ih ⊢
    have e : evf z (fun i => gD [] (i + 1)) n = 0 := by
      rw [← ih]
      exact evf_congr z n _ _ (fun i _ => by simp [gD])
    rw [e]
    simp [gD]
  | w :: l, 0, h => by simp at h
  | w :: l, n + 1, h => by
    simp only [evf, evz]
    have e : evf z (fun i => gD (w :: l) (i + 1)) n = evz z l := by
      rw [← evf_gD z l n (by simpa using h)]
      exact evf_congr z n _ _ (fun i _ => by simp [gD])
    rw [e]
    simp [gD]
theorem evf_cvf (z : Int) (s : List Int) (hs : s ≠ []) : ∀ (h : List Int) (n : Nat), h.length + s.length - 1 ≤ n → evf z (cvf h (gD s)) n = evz z h * evz z s
  | [], n, _ => by
    have e : ∀ (n : Nat), evf z (cvf [] (gD s)) n = 0 := by
      intro n
      have : ∀ n, evf z (fun _ => (0 : Int)) n = 0 := by
        intro n
        induction n with
        | zero => rfl
        | succ n ih => simp [evf, ih]
      rw [← this n]
      exact evf_congr z n _ _ (fun i _ => rfl)
    rw [e n]
    simp [evz]
  | w :: h, n, hn => by
    have h1 : 1 ≤ s.length := by cases s <;> simp_all
    simp only [List.length_cons] at hn
    obtain ⟨m, rfl⟩ : ∃ m, n = m + 1 := ⟨n - 1, by omega⟩
    rw [evf_congr z (m + 1) _ (fun i => w * gD s i + Sh (cvf h (gD s)) i) (fun i _ => cvf_cons w h (gD s) i), evf_lin, evf_gD z s (m + 1) (by omega)]
    have e : evf z (Sh (cvf h (gD s))) (m + 1) = z * (evz z h * evz z s) := by
      rw [evf]
      have : evf z (fun i => Sh (cvf h (gD s)) (i + 1)) m = evz z h * evz z s := by
        rw [← evf_cvf z s hs h m (by omega)]
        exact evf_congr z m _ _ (fun i _ => rfl)
      rw [this]
      simp [Sh]
    rw [e, evz]
    grind
theorem evz_conv (z : Int) {h s : List Int} (hs : s ≠ []) : evz z (conv h s) = evz z h * evz z s := by
  rw [← evf_gD z (conv h s) (h.length + s.length - 1) (by rw [conv_length h s hs]; omega), ← evf_cvf z s hs h (h.length + s.length - 1) (by omega)]
  exact evf_congr z _ _ _ (fun i _ => gD_conv h s i hs)

def fw (H : Int) (w : Bool) (b m : Int) : List Int → List Int → Nat → Int → Int
  | [], _, _, t => t
  | x :: _, s, 0, t => fitH H w (t + fitH H w (shM (x * s.getD 0 0) b m))
  | x :: h, s, n + 1, t => fw H w b m h s n (fitH H w (t + fitH H w (shM (x * s.getD (n + 1) 0) b m)))
theorem shM_one (x m : Int) : shM x 1 m = x := by
  unfold shM
  rw [Int.emod_one, Int.ediv_one]
  rw [if_neg (by omega), if_neg (by omega)]
theorem fitH_add (H x y : Int) : fitH H true (fitH H true x + y) = fitH H true (x + y) := by
  unfold fitH
  rw [if_pos rfl, if_pos rfl, if_pos rfl]
  have e : (x + H) % (2 * H) - H + y + H = (x + H) % (2 * H) + y := by omega
  have e2 : x + y + H = x + H + y := by omega
  rw [e, e2, Int.emod_add_emod]
theorem fw_wrap {H : Int} (hH : 1 ≤ H) (m : Int) : ∀ (h s : List Int) (n : Nat) (t : Int), -H ≤ t → t ≤ H - 1 → fw H true 1 m h s n t = fitH H true (t + cv h s n)
  | [], s, n, t, h0, h1 => by rw [fw, cv, Int.add_zero, fitH_id H true t h0 h1]
  | x :: h, s, 0, t, h0, h1 => by rw [fw, cv, shM_one, Int.add_comm t, fitH_add, Int.add_comm]
  | x :: h, s, n + 1, t, h0, h1 => by
    have hb := fitH_bd H true (t + fitH H true (shM (x * s.getD (n + 1) 0) 1 m)) hH
    rw [fw, fw_wrap hH m h s n _ hb.1 hb.2, cv, shM_one, fitH_add, Int.add_assoc, Int.add_comm t, Int.add_assoc, fitH_add, ← Int.add_assoc, Int.add_comm t, Int.add_assoc]
theorem fw_bd {H : Int} (hH : 1 ≤ H) (w : Bool) (b m : Int) : ∀ (h s : List Int) (n : Nat) (t : Int), -H ≤ t → t ≤ H - 1 → -H ≤ fw H w b m h s n t ∧ fw H w b m h s n t ≤ H - 1
  | [], s, n, t, h0, h1 => ⟨h0, h1⟩
  | x :: h, s, 0, t, h0, h1 => fitH_bd H w _ hH
  | x :: h, s, n + 1, t, h0, h1 => fw_bd hH w b m h s n _ (fitH_bd H w _ hH).1 (fitH_bd H w _ hH).2
def mnI (a b : Int) : Int := if a < b then a else b
def mxI (a b : Int) : Int := if a > b then a else b
/-- the least and the greatest sum of products with numbers of a word -/
def loS (L : Int) : List Int → Int
  | [] => 0
  | x :: h => mnI (x * -L) (x * (L - 1)) + loS L h
def hiS (L : Int) : List Int → Int
  | [] => 0
  | x :: h => mxI (x * -L) (x * (L - 1)) + hiS L h
theorem ends_prod {L x y : Int} (hL : 1 ≤ L) (h0 : -L ≤ y) (h1 : y ≤ L - 1) : mnI (x * -L) (x * (L - 1)) ≤ x * y ∧ x * y ≤ mxI (x * -L) (x * (L - 1)) ∧ mnI (x * -L) (x * (L - 1)) ≤ 0 ∧ 0 ≤ mxI (x * -L) (x * (L - 1)) := by
  rcases Int.le_total 0 x with h | h
  · have a1 := Int.mul_le_mul_of_nonneg_left h0 h
    have a2 := Int.mul_le_mul_of_nonneg_left h1 h
    have a3 : x * -L ≤ x * 0 := Int.mul_le_mul_of_nonneg_left (by omega) h
    have a4 : x * 0 ≤ x * (L - 1) := Int.mul_le_mul_of_nonneg_left (by omega) h
    rw [Int.mul_zero] at a3 a4
    unfold mnI mxI
    split <;> split <;> omega
  · have a1 := Int.mul_le_mul_of_nonpos_left h h0
    have a2 := Int.mul_le_mul_of_nonpos_left h h1
    have a3 : x * 0 ≤ x * -L := Int.mul_le_mul_of_nonpos_left h (by omega)
    have a4 : x * (L - 1) ≤ x * 0 := Int.mul_le_mul_of_nonpos_left h (by omega)
    rw [Int.mul_zero] at a3 a4
    unfold mnI mxI
    split <;> split <;> omega
theorem loS_np {L : Int} (hL : 1 ≤ L) : ∀ h : List Int, loS L h ≤ 0 ∧ 0 ≤ hiS L h
  | [] => ⟨Int.le_refl 0, Int.le_refl 0⟩
  | x :: h => by
    have h1 := ends_prod (x := x) (y := 0) hL (by omega) (by omega)
    have h2 := loS_np hL h
    simp only [loS, hiS]
    omega
theorem getD_in {L : Int} (hL : 1 ≤ L) {s : List Int} (hs : ∀ y ∈ s, -L ≤ y ∧ y ≤ L - 1) (n : Nat) : -L ≤ s.getD n 0 ∧ s.getD n 0 ≤ L - 1 := by
  rw [List.getD_eq_getElem?_getD]
  by_cases c : n < s.length
  · rw [List.getElem?_eq_getElem c]
    exact hs _ (List.getElem_mem c)
  · rw [List.getElem?_eq_none (by omega)]
    simp
    omega
theorem cv_ends {L : Int} (hL : 1 ≤ L) {s : List Int} (hs : ∀ y ∈ s, -L ≤ y ∧ y ≤ L - 1) : ∀ (h : List Int) (n : Nat), loS L h ≤ cv h s n ∧ cv h s n ≤ hiS L h
  | [], n => ⟨Int.le_refl 0, Int.le_refl 0⟩
  | x :: h, 0 => by
    have g := getD_in hL hs 0
    have h1 := ends_prod (x := x) hL g.1 g.2
    have h2 := loS_np hL h
    simp only [loS, hiS, cv]
    omega
  | x :: h, n + 1 => by
    have g := getD_in hL hs (n + 1)
    have h1 := ends_prod (x := x) hL g.1 g.2
    have h2 := cv_ends hL hs h n
    simp only [loS, hiS, cv]
    omega
theorem fw_exact {H L : Int} (hL : 1 ≤ L) (w : Bool) (m : Int) {s : List Int} (hs : ∀ y ∈ s, -L ≤ y ∧ y ≤ L - 1) : ∀ (h : List Int) (n : Nat) (t : Int), -H ≤ t + loS L h → t + hiS L h ≤ H - 1 → -H ≤ loS L h → hiS L h ≤ H - 1 → fw H w 1 m h s n t = t + cv h s n
  | [], n, t, _, _, _, _ => by rw [fw, cv, Int.add_zero]
  | x :: h, 0, t, a1, a2, a3, a4 => by
    have g := getD_in hL hs 0
    have h1 := ends_prod (x := x) hL g.1 g.2
    have h2 := loS_np hL h
    simp only [loS, hiS] at a1 a2 a3 a4
    rw [fw, cv, shM_one, fitH_id H w (x * s.getD 0 0) (by omega) (by omega), fitH_id H w _ (by omega) (by omega)]
  | x :: h, n + 1, t, a1, a2, a3, a4 => by
    have g := getD_in hL hs (n + 1)
    have h1 := ends_prod (x := x) hL g.1 g.2
    have h2 := loS_np hL h
    simp only [loS, hiS] at a1 a2 a3 a4
    rw [fw, cv, shM_one, fitH_id H w (x * s.getD (n + 1) 0) (by omega) (by omega), fitH_id H w (t + x * s.getD (n + 1) 0) (by omega) (by omega), fw_exact hL w m hs h n _ (by omega) (by omega) (by omega) (by omega), Int.add_assoc]
def szW : List Int → Int
  | [] => 0
  | x :: h => (x.natAbs : Int) + szW h
def ngS : List Int → Int
  | [] => 0
  | x :: h => (if x < 0 then -x else 0) + ngS h
def psS : List Int → Int
  | [] => 0
  | x :: h => (if x < 0 then 0 else x) + psS h
theorem loS_eq {L : Int} (hL : 1 ≤ L) : ∀ h : List Int, szW h = psS h + ngS h ∧ 0 ≤ psS h ∧ 0 ≤ ngS h ∧ loS L h = -(psS h * L + ngS h * L) + ngS h ∧ hiS L h = psS h * L + ngS h * L - psS h
  | [] => by simp [szW, psS, ngS, loS, hiS]
  | x :: h => by
    obtain ⟨h1, h2, h3, h4, h5⟩ := loS_eq hL h
    simp only [szW, psS, ngS, loS, hiS]
    by_cases c : x < 0
    · have e : mnI (x * -L) (x * (L - 1)) = x * (L - 1) := by
        have a : x * (L - 1) ≤ x * -L := Int.mul_le_mul_of_nonpos_left (by omega) (by omega)
        unfold mnI
        split <;> omega
      have e' : mxI (x * -L) (x * (L - 1)) = x * -L := by
        have a : x * (L - 1) ≤ x * -L := Int.mul_le_mul_of_nonpos_left (by omega) (by omega)
        unfold mxI
        split <;> omega
      rw [e, e', if_pos c, if_pos c, h4, h5, Int.add_mul, Int.add_mul, Int.mul_sub, Int.mul_neg, Int.neg_mul]
      refine ⟨by omega, by omega, by omega, by omega, by omega⟩
    · have e : mnI (x * -L) (x * (L - 1)) = x * -L := by
        have a : x * -L ≤ x * (L - 1) := Int.mul_le_mul_of_nonneg_left (by omega) (by omega)
        unfold mnI
        split <;> omega
      have e' : mxI (x * -L) (x * (L - 1)) = x * (L - 1) := by
        have a : x * -L ≤ x * (L - 1) := Int.mul_le_mul_of_nonneg_left (by omega) (by omega)
        unfold mxI
        split <;> omega
      rw [e, e', if_neg c, if_neg c, h4, h5, Int.add_mul, Int.add_mul, Int.mul_sub, Int.mul_neg]
      refine ⟨by omega, by omega, by omega, by omega, by omega⟩

def szS : List Int → Int
  | [] => 0
  | x :: h => (x.natAbs : Int) + szS h
theorem szS_app : ∀ (p t : List Int), szS (p ++ t) = szS p + szS t
  | [], t => by simp [szS]
  | x :: p, t => by
    rw [List.cons_append, szS, szS, szS_app p t]
    omega
theorem szS_bd : ∀ l : List Int, (∀ x ∈ l, -1000 ≤ x ∧ x ≤ 1000) → 0 ≤ szS l ∧ szS l ≤ 1000 * l.length
  | [], _ => by simp [szS]
  | x :: t, h => by
    have h1 := h x (by simp)
    have h2 := szS_bd t (fun y hy => h y (by simp [hy]))
    simp only [szS, List.length_cons]
    omega

def sizeM (h : List Int) : Int × Bool := if wts h = true then (szS h, true) else (0, false)
theorem impl_SizeGain_l0 (l : List Int) (hl : l.length ≤ 9) (hb : ∀ x ∈ l, -1000 ≤ x ∧ x ≤ 1000) : ∀ (t p : List Int), l = p ++ t → Ev (fun k => impl_SizeGain.l0 k (szS p) l (l.length : Int) (p.length : Int)) (szS l, true)
  | [], p, h => by
    refine Ev.to (Ev.step (f := fun _ => some (szS p, true)) (fun k => ?_) (Ev.now _)) (by rw [h]; simp)
    subst h
    simp [impl_SizeGain.l0]
  | x :: t, p, h => by
    have e1 : (p.length : Int) < (l.length : Int) := by rw [h]; exact lt_mid p t x
    have e2 : rd l (p.length : Int) = x := by rw [h]; exact rd_mid p t x
    have e3 : wrap64 ((p.length : Int) + 1) = ((p ++ [x]).length : Int) := nx_mid p t x (by rw [← h]; omega)
    have hx := hb x (by rw [h]; simp)
    have hpl : p.length ≤ 9 := by rw [h] at hl; simp at hl; omega
    have hp := szS_bd p (fun y hy => hb y (by rw [h]; simp [hy]))
    have e4 : wrap64 (szS p + (x.natAbs : Int)) = szS (p ++ [x]) := by
      rw [w64 (n := szS p + (x.natAbs : Int)) (by omega) (by omega), szS_app]
      simp [szS]
    refine Ev.step (fun k => ?_) (impl_SizeGain_l0 l hl hb t (p ++ [x]) (by simp [h]))
    simp only [impl_SizeGain.l0, if_pos e1, if_pos (Int.natCast_nonneg _), e2, e3, impl_size_eq x (by omega), Option.bind_some, e4]
theorem impl_SizeGain_ev (h : List Int) (hl : h.length ≤ 1000000) : Ev (fun k => impl_SizeGain.f k h) (sizeM h) := by
  simp only [impl_SizeGain.f, sizeM]
  refine Ev.bind (impl_isWeights_ev h (by omega)) ?_
  by_cases c : wts h = true
  · rw [if_pos c]
    exact Ev.tt c (impl_SizeGain_l0 h (wts_len c).2 (wts_mem c) h [] rfl)
  · rw [if_neg c]
    exact Ev.ff c (Ev.now _)

theorem wt_prod {h s : List Int} {A B : Int} (hA : 0 ≤ A) (hB : 0 ≤ B) (hh : ∀ a ∈ h, -A ≤ a ∧ a ≤ A) (hs : ∀ x ∈ s, -B ≤ x ∧ x ≤ B) : ∀ a ∈ h, ∀ x ∈ s, -(A * B) ≤ a * x ∧ a * x ≤ A * B := by
  intro a ha x hx
  have h1 := hh a ha
  have h2 := hs x hx
  have h : (a * x).natAbs ≤ A.toNat * B.toNat := by
    rw [Int.natAbs_mul]
    exact Nat.mul_le_mul (by omega) (by omega)
  have e : ((A.toNat * B.toNat : Nat) : Int) = A * B := by
    rw [Int.natCast_mul, Int.toNat_of_nonneg hA, Int.toNat_of_nonneg hB]
  omega
theorem conv_len_le (h s : List Int) : (conv h s).length ≤ h.length + s.length := by
  by_cases c : s = []
  · rw [conv, if_pos c]; simp
  · rw [conv_length h s c]; omega

theorem spec_weAsked_ev (h s : List Int) (hh : h.length ≤ 1000000) (hs : s.length ≤ 1000000) : Ev (fun k => spec_weAsked.f k h s) (wts h && sig s) := by
  simp only [spec_weAsked.f]
  refine Ev.bind (spec_weGood_ev h (by omega)) ?_
  by_cases c : wts h = true
  · rw [c]
    exact Ev.tt rfl (Ev.bind (spec_wdSignal_ev s (by omega)) (Ev.now _))
  · rw [Bool.eq_false_iff.mpr c]
    exact Ev.ff (by decide) (Ev.now _)

def filtM (h s : List Int) : List Int × Bool := if (wts h && sig s) = true then toldM (conv h s) else ([], false)
theorem filt_ans {h s : List Int} (c : (wts h && sig s) = true) : Ev (fun k => impl_answer.f k h s) (conv h s) := by
  simp only [Bool.and_eq_true] at c
  have h1 := wts_len c.1
  have h2 := sig_len c.2
  exact impl_answer_ev h s (1000 * 100000) (by omega) (by omega) (by omega) (wt_prod (by omega) (by omega) (wts_mem c.1) (sig_mem c.2)) (by omega)
theorem filt_len {h s : List Int} (c : (wts h && sig s) = true) : (conv h s).length ≤ 73 := by
  simp only [Bool.and_eq_true] at c
  have h1 := wts_len c.1
  have h2 := sig_len c.2
  have := conv_len_le h s
  omega
theorem conv_ge {h s : List Int} (c : wts h = true) : s.length ≤ (conv h s).length := by
  by_cases e : s = []
  · rw [e]; simp
  · have := wts_len c
    rw [conv_length h s e]
    omega

def shortM (h s : List Int) : List Int × Bool := if (wts h && sig s) = true then toldM ((conv h s).take s.length) else ([], false)

theorem impl_FilterShort_ev (h s : List Int) (hh : h.length ≤ 1000000) (hs : s.length ≤ 1000000) : Ev (fun k => impl_FilterShort.f k h s) (shortM h s) := by
  simp only [impl_FilterShort.f]
  refine Ev.bind (impl_isWeights_ev h (by omega)) ?_
  by_cases c : wts h = true
  · refine Ev.tt c (Ev.bind (impl_isSignal_ev s (by omega)) ?_)
    by_cases d : sig s = true
    · have cd : (wts h && sig s) = true := by rw [c, d]; rfl
      rw [d, shortM, if_pos cd]
      have := filt_len cd
      have hg := conv_ge (s := s) c
      refine Ev.step (fun k => by simp only [impl_FilterShort.j0]; rfl) (Ev.ff (by decide) (Ev.bind (filt_ans cd) (Ev.tt (Int.natCast_nonneg _) (Ev.tt (Int.ofNat_le.2 hg) ?_))))
      rw [Int.toNat_natCast]
      exact Ev.bind (impl_told_ev _ (by rw [List.length_take]; omega)) (Ev.now _)
    · rw [Bool.eq_false_iff.mpr d, shortM, Bool.eq_false_iff.mpr d, Bool.and_false, if_neg (by decide)]
      exact Ev.step (fun k => by simp only [impl_FilterShort.j0]; rfl) (Ev.tt (by decide) (Ev.now _))
  · rw [shortM, Bool.eq_false_iff.mpr c, Bool.false_and, if_neg (by decide)]
    refine Ev.ff (by decide) ?_
    exact Ev.step (fun k => by simp only [impl_FilterShort.j0]; rfl) (Ev.tt (by decide) (Ev.now _))

theorem spec_weBack_ev (l : List Int) (hl : l.length ≤ 1000) : ∃ r, Ev (fun k => spec_weBack.f k l) r ∧ r.length = l.length ∧ ∀ x ∈ r, x ∈ l := by
  have key : ∀ (n : Nat) (q : List Int), n ≤ l.length → q.length + n ≤ 1000 → (∀ x ∈ q, x ∈ l) → ∃ r, Ev (fun k => spec_weBack.l0 k l q ((n : Int) - 1)) r ∧ r.length = q.length + n ∧ ∀ x ∈ r, x ∈ l := by
    intro n
    induction n with
    | zero =>
      intro q h h2 hq
      refine ⟨q, Ev.step (f := fun _ => some q) (fun k => ?_) (Ev.now _), by omega, hq⟩
      simp [spec_weBack.l0]
    | succ n ih =>
      intro q h h2 hq
      have hm : rd l (n : Int) ∈ l := by
        rw [rd_getD, List.getD_eq_getElem?_getD, List.getElem?_eq_getElem (by omega)]
        exact List.getElem_mem (by omega)
      obtain ⟨r, hr, hrl, hrm⟩ := ih (q ++ [rd l (n : Int)]) (by omega) (by simp; omega) (fun x hx => by
        rcases List.mem_append.1 hx with hx | hx
        · exact hq x hx
        · simp at hx
          rw [hx]
          exact hm)
      refine ⟨r, Ev.step (fun k => by simp only [spec_weBack.l0]; rfl) ?_, by simp at hrl; omega, hrm⟩
      have e : ((n + 1 : Nat) : Int) - 1 = (n : Int) := by omega
      rw [e, w64 (n := (n : Int) - 1) (by omega) (by omega)]
      exact Ev.tt (by omega) (Ev.tt (by omega) (Ev.tt (by omega) (Ev.tt (by omega) hr)))
  obtain ⟨r, hr, hrl, hrm⟩ := key l.length [] (Nat.le_refl _) (by simp; omega) (fun x hx => by simp at hx)
  refine ⟨r, ?_, by simpa using hrl, hrm⟩
  simp only [spec_weBack.f]
  rw [w64 (n := (l.length : Int) - 1) (by omega) (by omega)]
  exact hr
theorem spec_wdScale_ex (l : List Int) (c : Int) (hl : l.length ≤ 1000) : ∃ r, Ev (fun k => spec_wdScale.f k l c) r ∧ r.length = l.length := by
  have key : ∀ (t p q : List Int), l = p ++ t → q.length = p.length → ∃ r, Ev (fun k => spec_wdScale.l0 k c q l (l.length : Int) (p.length : Int)) r ∧ r.length = l.length := by
    intro t
    induction t with
    | nil =>
      intro p q h hq
      refine ⟨q, Ev.step (f := fun _ => some q) (fun k => ?_) (Ev.now _), by rw [h]; simp [hq]⟩
      subst h
      simp [spec_wdScale.l0]
    | cons x t ih =>
      intro p q h hq
      have e1 : (p.length : Int) < (l.length : Int) := by rw [h]; exact lt_mid p t x
      have e3 : wrap64 ((p.length : Int) + 1) = ((p ++ [x]).length : Int) := nx_mid p t x (by rw [← h]; omega)
      obtain ⟨r, hr, hrl⟩ := ih (p ++ [x]) (q ++ [wrap64 (c * rd l (p.length : Int))]) (by simp [h]) (by simp [hq])
      refine ⟨r, Ev.step (fun k => by simp only [spec_wdScale.l0]; rfl) ?_, hrl⟩
      rw [e3]
      exact Ev.tt e1 (Ev.tt (Int.natCast_nonneg _) (Ev.tt e1 (Ev.tt (by omega) hr)))
  obtain ⟨r, hr, hrl⟩ := key l [] [] rfl rfl
  refine ⟨r, ?_, hrl⟩
  simp only [spec_wdScale.f]
  exact hr
theorem weights_l0 {l : List Int} (hl : Bytes l) : ∀ (n : Nat) (q : List Int) (a sd : Int), q.length + n ≤ 100 → 0 ≤ a → a + 10 * n ≤ 100000000000 → ∃ s a' sd', Ev (fun k => spec_l1Cur_weights.l0 k q (n : Int) l a sd) (s, a', sd') ∧ s.length ≤ 300 ∧ a ≤ a' ∧ a' ≤ a + 10 * n + 10
  | 0, q, a, sd, hq, h0, h1 => by
    obtain ⟨u, a1, sd1, e1, ha1, hb1, -⟩ := pick_ok hl a sd 16 h0 (by omega) (by omega)
    have wrapv : ∀ {r : List Int × Int × Int}, r.1.length ≤ 300 → a ≤ r.2.1 → r.2.1 ≤ a + 10 → Ev (fun k => spec_l1Cur_weights.l0 k q ((0 : Nat) : Int) l a sd) r → ∃ s a' sd', Ev (fun k => spec_l1Cur_weights.l0 k q ((0 : Nat) : Int) l a sd) (s, a', sd') ∧ s.length ≤ 300 ∧ a ≤ a' ∧ a' ≤ a + 10 * ((0 : Nat) : Int) + 10 := fun {r} g1 g2 g3 h => ⟨r.1, r.2.1, r.2.2, h, g1, g2, by simpa using g3⟩
    by_cases c0 : u = 0
    · obtain ⟨v, a2, sd2, e2, ha2, hb2, -⟩ := one_ok hl a1 sd1 2 (by omega) (by omega) (by omega)
      by_cases d : v = true
      · refine wrapv (r := (q, a2, sd2)) (by simp; omega) (by simp; omega) (by simp; omega) (Ev.step (fun k => by simp only [spec_l1Cur_weights.l0, spec_l1Cur_among2.f, e1, e2, Option.bind_some, if_pos c0, if_pos d]; rfl) ?_)
        exact Ev.ff (by omega) (Ev.now _)
      · refine wrapv (r := ([], a2, sd2)) (by simp) (by simp; omega) (by simp; omega) (Ev.step (fun k => by simp only [spec_l1Cur_weights.l0, spec_l1Cur_among2.f, e1, e2, Option.bind_some, if_pos c0, if_neg d]; rfl) ?_)
        exact Ev.ff (by omega) (Ev.now _)
    by_cases c1 : u = 1
    · obtain ⟨v, a2, sd2, e2, ha2, hb2, -⟩ := among_ok hl a1 sd1 [1000, (-1000), 1001, 4611686018427387904] (by omega) (by omega) (by simp) (by simp)
      refine wrapv (r := (q ++ [v], a2, sd2)) (by simp; omega) (by simp; omega) (by simp; omega) (Ev.step (fun k => by simp only [spec_l1Cur_weights.l0, e1, e2, Option.bind_some, if_neg c0, if_pos c1]; rfl) ?_)
      exact Ev.ff (by omega) (Ev.tt (by omega) (Ev.now _))
    by_cases c2 : u = 2
    · obtain ⟨v, a2, sd2, e2, ha2, hb2, hv, hv2⟩ := pick_ok hl a1 sd1 2 (by omega) (by omega) (by omega)
      have e3 : wrap64 (9 + v) = 9 + v := w64 (by omega) (by omega)
      refine wrapv (r := (List.replicate (9 + v).toNat 0, a2, sd2)) (by simp; omega) (by simp; omega) (by simp; omega) (Ev.step (fun k => by simp only [spec_l1Cur_weights.l0, e1, e2, e3, Option.bind_some, if_neg c0, if_neg c1, if_pos c2]; rfl) ?_)
      exact Ev.ff (by omega) (Ev.tt (by omega) (Ev.tt (by omega) (Ev.now _)))
    by_cases c3 : u = 3
    · obtain ⟨r, hr, hrl, -⟩ := spec_weBack_ev q (by omega)
      refine wrapv (r := (r ++ q, a1, sd1)) (by simp; omega) (by simp; omega) (by simp; omega) (Ev.step (fun k => by simp only [spec_l1Cur_weights.l0, e1, Option.bind_some, if_neg c0, if_neg c1, if_neg c2, if_pos c3]; rfl) ?_)
      exact Ev.ff (by omega) (Ev.bind hr (Ev.tt (by omega) (Ev.now _)))
    by_cases c4 : u = 4
    · obtain ⟨r, hr, hrl, -⟩ := spec_weBack_ev q (by omega)
      obtain ⟨r2, hr2, hrl2⟩ := spec_wdScale_ex r (-1) (by omega)
      refine wrapv (r := (r2 ++ q, a1, sd1)) (by simp; omega) (by simp; omega) (by simp; omega) (Ev.step (fun k => by simp only [spec_l1Cur_weights.l0, e1, Option.bind_some, if_neg c0, if_neg c1, if_neg c2, if_neg c3, if_pos c4]; rfl) ?_)
      exact Ev.ff (by omega) (Ev.bind hr (Ev.bind hr2 (Ev.tt (by omega) (Ev.now _))))
    refine wrapv (r := (q, a1, sd1)) (by simp; omega) (by simp; omega) (by simp; omega) (Ev.step (fun k => by simp only [spec_l1Cur_weights.l0, e1, Option.bind_some, if_neg c0, if_neg c1, if_neg c2, if_neg c3, if_neg c4]; rfl) ?_)
    exact Ev.ff (by omega) (Ev.now _)
  | n + 1, q, a, sd, hq, h0, h1 => by
    obtain ⟨v, a2, sd2, e2, ha2, hb2, -⟩ := pick_ok hl a sd 9 h0 (by omega) (by omega)
    have e3 : wrap64 (((n + 1 : Nat) : Int) - 1) = (n : Int) := by
      rw [w64 (n := ((n + 1 : Nat) : Int) - 1) (by omega) (by omega)]
      omega
    obtain ⟨s, a', sd', h, hs1, ha, hb⟩ := weights_l0 hl n (q ++ [wrap64 (v - 4)]) a2 sd2 (by simp; omega) (by omega) (by omega)
    refine ⟨s, a', sd', Ev.step (fun k => by simp only [spec_l1Cur_weights.l0, e2, e3, Option.bind_some]; rfl) ?_, hs1, by omega, by omega⟩
    exact Ev.tt (by omega) (Ev.tt (by omega) h)
theorem weights_ok {l : List Int} (hl : Bytes l) (a sd : Int) (h0 : 0 ≤ a) (h1 : a ≤ 1000000000) : ∃ s a' sd', Ev (fun k => spec_l1Cur_weights.f k l a sd) (s, a', sd') ∧ s.length ≤ 300 ∧ a ≤ a' ∧ a' ≤ a + 1000 := by
  obtain ⟨u, a1, sd1, e1, ha1, hb1, hu, hu2⟩ := pick_ok hl a sd 5 h0 (by omega) (by omega)
  obtain ⟨n, hn⟩ : ∃ n : Nat, 1 + u = (n : Int) := ⟨(1 + u).toNat, by omega⟩
  obtain ⟨s, a', sd', h, hs1, ha, hb⟩ := weights_l0 hl n [] a1 sd1 (by simp; omega) (by omega) (by omega)
  refine ⟨s, a', sd', ?_, hs1, by omega, by omega⟩
  simp only [spec_l1Cur_weights.f]
  refine Ev.dbind e1 ?_
  rw [w64 (n := 1 + u) (by omega) (by omega), hn]
  exact h

theorem shl_big {s : Nat} (h : s ≤ 62) : shl .i64 1 (s : Int) = 2 ^ s := by
  unfold shl
  have h1 : min ((s : Int)).toNat IntKind.i64.bits = s := by
    simp [IntKind.bits]; omega
  rw [h1, Int.one_mul, IntKind.wrap_i64]
  have g1 : (2 : Nat) ^ s ≤ 2 ^ 62 := Nat.pow_le_pow_right (by decide) h
  have g3 : (2 : Int) ^ s = (((2 : Nat) ^ s : Nat) : Int) := by simp
  have g2 : (2 : Nat) ^ 62 = 4611686018427387904 := by decide
  have g4 : 0 < (2 : Nat) ^ s := Nat.two_pow_pos s
  omega
theorem halfL {b : Int} (g : 2 ≤ b ∧ b ≤ 40) : (2 ≤ hf b ∧ hf b ≤ 549755813888) ∧ wrap64 (b - 1) = b - 1 ∧ 0 ≤ b - 1 ∧ shl .i64 1 (b - 1) = hf b ∧ 0 ≤ b ∧ shl .i64 1 b = 2 * hf b := by
  obtain ⟨n, rfl⟩ : ∃ n : Nat, b = ((n + 1 : Nat) : Int) := ⟨(b - 1).toNat, by omega⟩
  have e : ((n + 1 : Nat) : Int) - 1 = (n : Int) := by omega
  have eh : hf ((n + 1 : Nat) : Int) = 2 ^ n := by rw [hf, e, Int.toNat_natCast]
  have h1 : (2 : Nat) ^ n ≤ 2 ^ 39 := Nat.pow_le_pow_right (by decide) (by omega)
  have h2 : (2 : Nat) ^ 1 ≤ 2 ^ n := Nat.pow_le_pow_right (by decide) (by omega)
  have h3 : (2 : Int) ^ n = (((2 : Nat) ^ n : Nat) : Int) := by simp
  have h4 : (2 : Nat) ^ 39 = 549755813888 := by decide
  have h5 : (2 : Nat) ^ 1 = 2 := by decide
  rw [eh, e, shl_big (s := n) (by omega), shl_big (s := n + 1) (by omega), Int.pow_succ]
  refine ⟨⟨by omega, by omega⟩, w64 (by omega) (by omega), by omega, rfl, by omega, by omega⟩
theorem hf_mono {a b : Int} (h0 : 1 ≤ a) (h : a ≤ b) : hf a ≤ hf b := by
  have h1 : (2 : Nat) ^ (a - 1).toNat ≤ 2 ^ (b - 1).toNat := Nat.pow_le_pow_right (by decide) (by omega)
  have h3 : (2 : Int) ^ (a - 1).toNat = (((2 : Nat) ^ (a - 1).toNat : Nat) : Int) := by simp
  have h4 : (2 : Int) ^ (b - 1).toNat = (((2 : Nat) ^ (b - 1).toNat : Nat) : Int) := by simp
  unfold hf
  omega
theorem tmod_big (a n : Int) (hn : 0 < n) (hn2 : n ≤ 4000000000000) : Int.tmod (wrap64 (Int.tmod a n + n)) n = a % n := by
  have h0 := Int.emod_nonneg a (show n ≠ 0 by omega)
  have h1 := Int.emod_lt_of_pos a hn
  have e := Int.tmod_eq_emod (a := a) (b := n)
  have hb : Int.tmod a n = a % n ∨ Int.tmod a n = a % n - n := by
    rw [e]
    split
    · left; omega
    · right; omega
  rcases hb with hb | hb
  · rw [hb, w64 (n := a % n + n) (by omega) (by omega), Int.tmod_eq_emod_of_nonneg (by omega)]
    simp
  · rw [hb, Int.sub_add_cancel, w64 (n := a % n) (by omega) (by omega), Int.tmod_eq_emod_of_nonneg (by omega)]
    simp
theorem fit_two_eq {H x : Int} (hH : 1 ≤ H) : (if x % (2 * H) ≥ H then x % (2 * H) - 2 * H else x % (2 * H)) = fitH H true x := by
  rw [fitH_two H x hH]
  by_cases c : x % (2 * H) ≥ H
  · rw [if_pos c, if_pos (by omega)]
  · rw [if_neg c, if_neg (by omega)]

theorem laws_iWrap_eq {b : Int} (x : Int) (g : 2 ≤ b ∧ b ≤ 40) : laws_iWrap.f x b = some (fitH (hf b) true x) := by
  obtain ⟨h1, h2, h3, h4, h5, h6⟩ := halfL g
  have m0 := Int.emod_nonneg x (show 2 * hf b ≠ 0 by omega)
  have m1 := Int.emod_lt_of_pos x (show 0 < 2 * hf b by omega)
  have hd : Int.tdiv (2 * hf b) 2 = hf b := by rw [Int.tdiv_eq_ediv_of_nonneg (by omega)]; omega
  unfold laws_iWrap.f
  rw [if_pos h5, h6, if_neg (by omega), tmod_big _ _ (by omega) (by omega), hd, w64 (n := hf b) (by omega) (by omega), w64 (n := x % (2 * hf b) - 2 * hf b) (by omega) (by omega), ← fit_two_eq (by omega)]
  split <;> rfl

theorem iSameD_l0 (l m : List Int) (hlm : l.length = m.length) (hl : l.length ≤ 1000000) : ∀ (t p : List Int), l = p ++ t → p = m.take p.length → Ev (fun k => laws_iSame.l0 k l m (l.length : Int) (p.length : Int)) (decide (l = m))
  | [], p, h, hp => by
    have e : l = m := by
      have hpl : p.length = m.length := by rw [← hlm, h]; simp
      rw [hpl, List.take_length] at hp
      rw [h, List.append_nil]
      exact hp
    rw [decide_eq_true e]
    refine Ev.step (f := fun _ => some true) (fun k => ?_) (Ev.now _)
    subst h
    simp [laws_iSame.l0]
  | x :: t, p, h, hp => by
    have e1 : (p.length : Int) < (l.length : Int) := by rw [h]; exact lt_mid p t x
    have e2 : rd l (p.length : Int) = x := by rw [h]; exact rd_mid p t x
    have e3 : wrap64 ((p.length : Int) + 1) = ((p ++ [x]).length : Int) := nx_mid p t x (by rw [← h]; omega)
    have hpm : p.length < m.length := by omega
    have e4 : rd m (p.length : Int) = m[p.length] := by
      rw [rd_getD, List.getD_eq_getElem?_getD, List.getElem?_eq_getElem hpm]
      rfl
    refine Ev.step (fun k => by simp only [laws_iSame.l0]; rfl) ?_
    rw [e2, e3, e4]
    refine Ev.tt e1 (Ev.tt (Int.natCast_nonneg _) (Ev.tt e1 (Ev.tt (by omega) ?_)))
    by_cases c : x = m[p.length]
    · refine Ev.tt c (iSameD_l0 l m hlm hl t (p ++ [x]) (by simp [h]) ?_)
      rw [List.length_append, List.length_singleton, List.take_succ_eq_append_getElem hpm, ← hp, c]
    · refine Ev.ff c (Ev.to (Ev.now _) (decide_eq_false (fun e => c ?_)).symm)
      subst e
      have : (p ++ x :: t)[p.length]'(by simp) = x := by simp
      simp only [h] at *
      simp
theorem iSameD_ev (l m : List Int) (hl : l.length ≤ 1000000) : Ev (fun k => laws_iSame.f k l m) (decide (l = m)) := by
  simp only [laws_iSame.f]
  by_cases c : l.length = m.length
  · exact Ev.tt (by omega) (iSameD_l0 l m c hl l [] rfl rfl)
  · refine Ev.ff (by omega) (Ev.to (Ev.now _) (decide_eq_false (fun e => c (by rw [e]))).symm)

def allB (b : Int) (l : List Int) : Bool := l.all fun x => decide (-(hf b) ≤ x) && decide (x ≤ hf b - 1)
def iwOk (b : Int) (h s : List Int) (sh m : Int) : Bool := goodB b && (wts h && (sig s && (modeOk sh m && (allB b h && allB b s))))
theorem iwOk_iff {b : Int} {h s : List Int} {sh m : Int} : iwOk b h s sh m = true ↔ goodB b = true ∧ wts h = true ∧ sig s = true ∧ modeOk sh m = true ∧ allB b h = true ∧ allB b s = true := by simp only [iwOk, Bool.and_eq_true]
theorem allB_mem {b : Int} {l : List Int} (h : allB b l = true) : ∀ x ∈ l, -(hf b) ≤ x ∧ x ≤ hf b - 1 := by simpa [allB] using h

theorem spec_weInWord_ev (b : Int) (w : Bool) (h s : List Int) (sh m : Int) (hh : h.length ≤ 1000000) (hs : s.length ≤ 1000000) : Ev (fun k => spec_weInWord.f k b w h s sh m) (iwOk b h s sh m) := by
  simp only [spec_weInWord.f]
  refine Ev.dbind (spec_wdGood_eq b w) ?_
  by_cases c : goodB b = true
  · refine Ev.tt c (Ev.bind (spec_weAsked_ev h s hh hs) ?_)
    by_cases d : (wts h && sig s) = true
    · refine Ev.tt d (Ev.dbind (spec_wdMode_eq sh m) ?_)
      have d' := d
      simp only [Bool.and_eq_true] at d'
      by_cases e : modeOk sh m = true
      · refine Ev.tt e (Ev.dbind (spec_wdLow_eq w c) (Ev.dbind (spec_wdHigh_eq w c) (Ev.bind (spec_l1All_ev h _ _ (by omega)) ?_)))
        by_cases f : allB b h = true
        · refine Ev.tt f (Ev.dbind (spec_wdLow_eq w c) (Ev.dbind (spec_wdHigh_eq w c) (Ev.bind (spec_l1All_ev s _ _ (by omega)) (Ev.to (Ev.now _) ?_))))
          rw [iwOk, c, d'.1, d'.2, e, f]
          rfl
        · exact Ev.ff f (Ev.to (Ev.now _) (by rw [iwOk, Bool.eq_false_iff.mpr f]; simp))
      · exact Ev.ff e (Ev.to (Ev.now _) (by rw [iwOk, Bool.eq_false_iff.mpr e]; simp))
    · refine Ev.ff d (Ev.to (Ev.now _) ?_)
      rw [Bool.and_eq_true] at d
      have : iwOk b h s sh m ≠ true := fun g => d ⟨(iwOk_iff.1 g).2.1, (iwOk_iff.1 g).2.2.1⟩
      exact (Bool.eq_false_iff.mpr this).symm
  · exact Ev.ff c (Ev.to (Ev.now _) (by rw [iwOk, Bool.eq_false_iff.mpr c]; simp))

theorem inWord_c1_eq {b : Int} (w : Bool) (x : Int) (g : goodB b = true) : impl_inWord_c1.f x b w = some (!(decide (-(hf b) ≤ x) && decide (x ≤ hf b - 1))) := by
  unfold impl_inWord_c1.f
  rw [impl_Word_has_eq w x g]
  rfl
theorem inWord_ix {b : Int} (w : Bool) (g : goodB b = true) (l : List Int) (hl : l.length ≤ 140737488351232) : ∀ (t p : List Int), l = p ++ t → ∃ r, Ev (fun k => impl_inWord_ix.l0 k l b w (p.length : Int)) r ∧ (decide (r ≥ 0) = !(allB b t))
  | [], p, h => by
    refine ⟨-1, Ev.step (f := fun _ => some (-1)) ?_ (Ev.now _), by simp [allB]⟩
    intro k
    subst h
    simp [impl_inWord_ix.l0]
  | x :: t, p, h => by
    have e1 : (p.length : Int) < (l.length : Int) := by rw [h]; exact lt_mid p t x
    have e2 : rd l (p.length : Int) = x := by rw [h]; exact rd_mid p t x
    have e3 : wrap64 ((p.length : Int) + 1) = ((p ++ [x]).length : Int) := nx_mid p t x (h ▸ hl)
    by_cases c : (decide (-(hf b) ≤ x) && decide (x ≤ hf b - 1)) = true
    · obtain ⟨r, h1, h2⟩ := inWord_ix w g l hl t (p ++ [x]) (by simp [h])
      refine ⟨r, Ev.step (fun k => ?_) h1, by rw [h2, allB, allB, List.all_cons, c, Bool.true_and]⟩
      simp only [impl_inWord_ix.l0, if_pos e1, if_pos (Int.natCast_nonneg _), e2, e3, inWord_c1_eq w x g, c, Option.bind_some, Bool.not_true]
      rfl
    · have c := Bool.eq_false_iff.mpr c
      refine ⟨(p.length : Int), Ev.step (fun k => ?_) (Ev.now _), by rw [allB, List.all_cons, c]; simp⟩
      simp only [impl_inWord_ix.l0, if_pos e1, if_pos (Int.natCast_nonneg _), e2, e3, inWord_c1_eq w x g, c, Option.bind_some, Bool.not_false]
      rfl
theorem inWord_cf {b : Int} (w : Bool) (g : goodB b = true) (l : List Int) (hl : l.length ≤ 140737488351232) : Ev (fun k => impl_inWord_cf.f k l b w) (!(allB b l)) := by
  obtain ⟨r, h1, h2⟩ := inWord_ix w g l hl l [] rfl
  simp only [impl_inWord_cf.f]
  exact Ev.bind h1 (Ev.to (Ev.now _) h2)
theorem impl_inWord_ev (b : Int) (w : Bool) (h s : List Int) (sh m : Int) (hh : h.length ≤ 1000000) (hs : s.length ≤ 1000000) : Ev (fun k => impl_inWord.f k b w h s sh m) (iwOk b h s sh m) := by
  simp only [impl_inWord.f]
  refine Ev.dbind (impl_isWord_eq b w) ?_
  by_cases c : goodB b = true
  · refine Ev.tt c (Ev.bind (impl_isWeights_ev h (by omega)) ?_)
    by_cases d : wts h = true
    · refine Ev.tt d (Ev.bind (impl_isSignal_ev s (by omega)) ?_)
      by_cases d2 : sig s = true
      · refine Ev.tt d2 (Ev.dbind (impl_isShift_eq sh m) ?_)
        by_cases e : modeOk sh m = true
        · refine Ev.tt e (Ev.bind (inWord_cf w c h (by omega)) ?_)
          by_cases f : allB b h = true
          · refine Ev.tt (by rw [f]; rfl) (Ev.bind (inWord_cf w c s (by omega)) (Ev.to (Ev.now _) ?_))
            rw [iwOk, c, d, d2, e, f, Bool.not_not]
            rfl
          · exact Ev.ff (by rw [Bool.eq_false_iff.mpr f]; decide) (Ev.to (Ev.now _) (by rw [iwOk, Bool.eq_false_iff.mpr f]; simp))
        · exact Ev.ff e (Ev.to (Ev.now _) (by rw [iwOk, Bool.eq_false_iff.mpr e]; simp))
      · exact Ev.ff d2 (Ev.to (Ev.now _) (by rw [iwOk, Bool.eq_false_iff.mpr d2]; simp))
    · exact Ev.ff d (Ev.to (Ev.now _) (by rw [iwOk, Bool.eq_false_iff.mpr d]; simp))
  · exact Ev.ff c (Ev.to (Ev.now _) (by rw [iwOk, Bool.eq_false_iff.mpr c]; simp))

def fiwL (b : Int) (w : Bool) (h s : List Int) (sh : Nat) (m : Int) (N : Nat) : List Int := Lf (fun n => fw (hf b) w (2 ^ sh) m h s n 0) N
def fiwM (b : Int) (w : Bool) (h s : List Int) (sh m : Int) : List Int × Bool := if iwOk b h s sh m = true then (fiwL b w h s sh.toNat m s.length, true) else ([], false)
theorem prodW {h s : List Int} (hh : ∀ x ∈ h, -1000 ≤ x ∧ x ≤ 1000) (hs : ∀ x ∈ s, -100000 ≤ x ∧ x ≤ 100000) {x : Int} (hx : x ∈ h) (n : Nat) : -100000000 ≤ x * s.getD n 0 ∧ x * s.getD n 0 ≤ 100000000 := by
  have h1 := hh x hx
  have h2 := getD_all (M := 100000) (by omega) hs n
  have h3 : (x * s.getD n 0).natAbs ≤ 1000 * 100000 := by
    rw [Int.natAbs_mul]
    exact Nat.mul_le_mul (by omega) (by omega)
  omega
theorem stepW {b : Int} {w : Bool} {sh : Nat} {m v t : Int} (g : goodB b = true) (hsh : sh ≤ 20) (hv : -100000000 ≤ v ∧ v ≤ 100000000) (ht : -(hf b) ≤ t ∧ t ≤ hf b - 1) :
    (∃ u, Ev (fun k => impl_shifted.f k (wrap64 v) (sh : Int) m) (shM v (2 ^ sh) m) ∧ impl_Word_fit.f b w (shM v (2 ^ sh) m) = some u ∧ impl_Word_fit.f b w (wrap64 (t + u)) = some (fitH (hf b) w (t + fitH (hf b) w (shM v (2 ^ sh) m))) ∧ u = fitH (hf b) w (shM v (2 ^ sh) m))
    ∧ (∃ u, Ev (fun k => spec_wdShift.f k (wrap64 v) (sh : Int) m) (shM v (2 ^ sh) m) ∧ spec_wdFit.f b w (shM v (2 ^ sh) m) = some u ∧ spec_wdFit.f b w (wrap64 (t + u)) = some (fitH (hf b) w (t + fitH (hf b) w (shM v (2 ^ sh) m))) ∧ u = fitH (hf b) w (shM v (2 ^ sh) m))
    ∧ -(hf b) ≤ fitH (hf b) w (t + fitH (hf b) w (shM v (2 ^ sh) m)) ∧ fitH (hf b) w (t + fitH (hf b) w (shM v (2 ^ sh) m)) ≤ hf b - 1 := by
  obtain ⟨h1, -, -, -, -, -⟩ := half g
  have hs := shM_in (x := v) (b := 2 ^ sh) (M := 100000000) m (pow2_pos sh) (by omega) hv
  have hb := fitH_bd (hf b) w (shM v (2 ^ sh) m) (by omega)
  have hb2 := fitH_bd (hf b) w (t + fitH (hf b) w (shM v (2 ^ sh) m)) (by omega)
  have c1 : -4611686018427387904 ≤ v ∧ v ≤ 4611686018427387904 := by omega
  have c2 : -4611686018427387904 ≤ shM v (2 ^ sh) m ∧ shM v (2 ^ sh) m ≤ 4611686018427387904 := by omega
  have c3 : -4611686018427387904 ≤ t + fitH (hf b) w (shM v (2 ^ sh) m) ∧ t + fitH (hf b) w (shM v (2 ^ sh) m) ≤ 4611686018427387904 := by omega
  have e1 : wrap64 v = v := w64 (by omega) (by omega)
  have e2 : wrap64 (t + fitH (hf b) w (shM v (2 ^ sh) m)) = t + fitH (hf b) w (shM v (2 ^ sh) m) := w64 (by omega) (by omega)
  rw [e1]
  refine ⟨⟨_, impl_shifted_ev v sh m hsh c1, impl_Word_fit_eq w _ g c2, ?_, rfl⟩, ⟨_, spec_wdShift_ev v sh m hsh c1, spec_wdFit_eq w _ g, ?_, rfl⟩, hb2.1, hb2.2⟩
  · rw [e2]
    exact impl_Word_fit_eq w _ g c3
  · rw [e2]
    exact spec_wdFit_eq w _ g
theorem rd_back {s : List Int} {n r : Nat} (h : r ≤ n) (hn : n < s.length) (hs : s.length ≤ 1000000) : wrap64 ((n : Int) - (r : Int)) = ((n - r : Nat) : Int) ∧ ((n - r : Nat) : Int) < (s.length : Int) ∧ rd s ((n - r : Nat) : Int) = s.getD (n - r) 0 := by
  refine ⟨?_, by omega, rd_getD _ _⟩
  rw [w64 (n := (n : Int) - (r : Int)) (by omega) (by omega)]
  omega
theorem impl_fiw_l1 {b : Int} {w : Bool} {h s : List Int} {sh : Nat} {m : Int} (g : goodB b = true) (hsh : sh ≤ 20) (hh : h.length ≤ 9) (hhb : ∀ x ∈ h, -1000 ≤ x ∧ x ≤ 1000) (hs : s.length ≤ 64) (hsb : ∀ x ∈ s, -100000 ≤ x ∧ x ≤ 100000) {n : Nat} (hn : n < s.length) (out : List Int) (ho : out.length ≤ 100000) (i : Int) (R : List Int × Bool) :
    ∀ (t p : List Int) (n' : Nat) (T : Int), h = p ++ t → p.length + n' = n → -(hf b) ≤ T ∧ T ≤ hf b - 1 → Ev (fun k => impl_FilterInWord.l0 k h s (sh : Int) m (out ++ [fw (hf b) w (2 ^ sh) m t s n' T]) (s.length : Int) (wrap64 (i + 1)) b w) R → Ev (fun k => impl_FilterInWord.l1 k h s (sh : Int) m out (n : Int) T (p.length : Int) (s.length : Int) i b w) R := by
  have stop : ∀ (x : Int) (T : Int), ((h.length : Int) ≤ x ∨ (n : Int) < x) → Ev (fun k => impl_FilterInWord.l0 k h s (sh : Int) m (out ++ [T]) (s.length : Int) (wrap64 (i + 1)) b w) R → Ev (fun k => impl_FilterInWord.l1 k h s (sh : Int) m out (n : Int) T x (s.length : Int) i b w) R := by
    intro x T hx hk
    have j2 : Ev (fun k => impl_FilterInWord.j2 k h s (sh : Int) m out (n : Int) T x (s.length : Int) i false b w) R := Ev.step (fun k => by simp only [impl_FilterInWord.j2]; rfl) (Ev.ff (by simp) (Ev.tt (by omega) hk))
    refine Ev.step (fun k => by simp only [impl_FilterInWord.l1]; rfl) ?_
    by_cases c : x < (h.length : Int)
    · refine Ev.tt c ?_
      rw [decide_eq_false (show ¬ x ≤ (n : Int) by omega)]
      exact j2
    · exact Ev.ff c j2
  intro t
  induction t with
  | nil =>
    intro p n' T e hp hT hk
    have e' : h = p := by simpa using e
    exact stop _ T (.inl (by rw [e']; omega)) hk
  | cons x t ih =>
    intro p n' T e hp hT hk
    have hpl : (p.length : Int) < (h.length : Int) := by rw [e]; exact lt_mid p t x
    have hpn : p.length ≤ n := by omega
    have hx : x ∈ h := by rw [e]; simp
    have e2 : rd h (p.length : Int) = x := by rw [e]; exact rd_mid p t x
    have e3 : wrap64 ((p.length : Int) + 1) = ((p ++ [x]).length : Int) := w64_suc p x (by omega)
    obtain ⟨b1, b2, b3⟩ := rd_back hpn hn (by omega)
    have hnp : n - p.length = n' := by omega
    rw [hnp] at b1 b2 b3
    obtain ⟨⟨u, s1, s2, s3, s4⟩, -, hTb⟩ := stepW (w := w) (m := m) (sh := sh) g hsh (prodW hhb hsb hx n') hT
    have fin : Ev (fun k => impl_FilterInWord.l1 k h s (sh : Int) m out (n : Int) (fitH (hf b) w (T + fitH (hf b) w (shM (x * s.getD n' 0) (2 ^ sh) m))) ((p ++ [x]).length : Int) (s.length : Int) i b w) R := by
      cases n' with
      | zero => exact stop _ _ (.inr (by simp; omega)) hk
      | succ n' => exact ih (p ++ [x]) n' _ (by simp [e]) (by simp; omega) hTb hk
    refine Ev.step (fun k => by simp only [impl_FilterInWord.l1]; rfl) (Ev.tt hpl ?_)
    rw [decide_eq_true (show (p.length : Int) ≤ (n : Int) by omega)]
    refine Ev.step (fun k => by simp only [impl_FilterInWord.j2]; rfl) ?_
    rw [b1, e2, b3, e3]
    exact Ev.tt (by first | trivial | rfl) (Ev.tt (Int.natCast_nonneg _) (Ev.tt hpl (Ev.tt (Int.natCast_nonneg _) (Ev.tt b2 (Ev.bind s1 (Ev.dbind s2 (Ev.dbind s3 fin)))))))
theorem spec_fiw_l1 {b : Int} {w : Bool} {h s : List Int} {sh : Nat} {m : Int} (g : goodB b = true) (hsh : sh ≤ 20) (hh : h.length ≤ 9) (hhb : ∀ x ∈ h, -1000 ≤ x ∧ x ≤ 1000) (hs : s.length ≤ 64) (hsb : ∀ x ∈ s, -100000 ≤ x ∧ x ≤ 100000) {n : Nat} (hn : n < s.length) (out : List Int) (ho : out.length ≤ 100000) (i : Int) (R : List Int × Bool) :
    ∀ (t p : List Int) (n' : Nat) (T : Int), h = p ++ t → p.length + n' = n → -(hf b) ≤ T ∧ T ≤ hf b - 1 → Ev (fun k => spec_FilterInWord.l0 k h s (sh : Int) m (out ++ [fw (hf b) w (2 ^ sh) m t s n' T]) (s.length : Int) (wrap64 (i + 1)) b w) R → Ev (fun k => spec_FilterInWord.l1 k h s (sh : Int) m out (n : Int) T (p.length : Int) (s.length : Int) i b w) R := by
  have stop : ∀ (x : Int) (T : Int), ((h.length : Int) ≤ x ∨ (n : Int) < x) → Ev (fun k => spec_FilterInWord.l0 k h s (sh : Int) m (out ++ [T]) (s.length : Int) (wrap64 (i + 1)) b w) R → Ev (fun k => spec_FilterInWord.l1 k h s (sh : Int) m out (n : Int) T x (s.length : Int) i b w) R := by
    intro x T hx hk
    have j2 : Ev (fun k => spec_FilterInWord.j2 k h s (sh : Int) m out (n : Int) T x (s.length : Int) i false b w) R := Ev.step (fun k => by simp only [spec_FilterInWord.j2]; rfl) (Ev.ff (by simp) (Ev.tt (by omega) hk))
    refine Ev.step (fun k => by simp only [spec_FilterInWord.l1]; rfl) ?_
    by_cases c : x < (h.length : Int)
    · refine Ev.tt c ?_
      rw [decide_eq_false (show ¬ x ≤ (n : Int) by omega)]
      exact j2
    · exact Ev.ff c j2
  intro t
  induction t with
  | nil =>
    intro p n' T e hp hT hk
    have e' : h = p := by simpa using e
    exact stop _ T (.inl (by rw [e']; omega)) hk
  | cons x t ih =>
    intro p n' T e hp hT hk
    have hpl : (p.length : Int) < (h.length : Int) := by rw [e]; exact lt_mid p t x
    have hpn : p.length ≤ n := by omega
    have hx : x ∈ h := by rw [e]; simp
    have e2 : rd h (p.length : Int) = x := by rw [e]; exact rd_mid p t x
    have e3 : wrap64 ((p.length : Int) + 1) = ((p ++ [x]).length : Int) := w64_suc p x (by omega)
    obtain ⟨b1, b2, b3⟩ := rd_back hpn hn (by omega)
    have hnp : n - p.length = n' := by omega
    rw [hnp] at b1 b2 b3
    obtain ⟨-, ⟨u, s1, s2, s3, s4⟩, hTb⟩ := stepW (w := w) (m := m) (sh := sh) g hsh (prodW hhb hsb hx n') hT
    have fin : Ev (fun k => spec_FilterInWord.l1 k h s (sh : Int) m out (n : Int) (fitH (hf b) w (T + fitH (hf b) w (shM (x * s.getD n' 0) (2 ^ sh) m))) ((p ++ [x]).length : Int) (s.length : Int) i b w) R := by
      cases n' with
      | zero => exact stop _ _ (.inr (by simp; omega)) hk
      | succ n' => exact ih (p ++ [x]) n' _ (by simp [e]) (by simp; omega) hTb hk
    refine Ev.step (fun k => by simp only [spec_FilterInWord.l1]; rfl) (Ev.tt hpl ?_)
    rw [decide_eq_true (show (p.length : Int) ≤ (n : Int) by omega)]
    refine Ev.step (fun k => by simp only [spec_FilterInWord.j2]; rfl) ?_
    rw [b1, e2, b3, e3]
    exact Ev.tt (by first | trivial | rfl) (Ev.tt (Int.natCast_nonneg _) (Ev.tt hpl (Ev.tt (Int.natCast_nonneg _) (Ev.tt b2 (Ev.bind s1 (Ev.dbind s2 (Ev.dbind s3 fin)))))))
theorem fiw_bd {b : Int} {w : Bool} {h s : List Int} {sh : Nat} {m : Int} (g : goodB b = true) (N : Nat) : ∀ x ∈ fiwL b w h s sh m N, -(hf b) ≤ x ∧ x ≤ hf b - 1 := by
  intro x hx
  obtain ⟨h1, -, -, -, -, -⟩ := half g
  simp only [fiwL, Lf, List.mem_map] at hx
  obtain ⟨n, _, rfl⟩ := hx
  exact fw_bd (by omega) w (2 ^ sh) m h s n 0 (by omega) (by omega)
theorem sig_of_word {b : Int} (g : goodB b = true) {l : List Int} (hl : l.length ≤ 64) (h : ∀ x ∈ l, -(hf b) ≤ x ∧ x ≤ hf b - 1) : sig l = true := by
  obtain ⟨h1, -, -, -, -, -⟩ := half g
  exact sig_iff.2 ⟨hl, fun x hx => by have := h x hx; omega⟩
theorem impl_fiw_l0 {b : Int} {w : Bool} {h s : List Int} {sh : Nat} {m : Int} (g : goodB b = true) (hsh : sh ≤ 20) (hh : h.length ≤ 9) (hhb : ∀ x ∈ h, -1000 ≤ x ∧ x ≤ 1000) (hs : s.length ≤ 64) (hsb : ∀ x ∈ s, -100000 ≤ x ∧ x ≤ 100000) : ∀ (d n : Nat), n + d = s.length → Ev (fun k => impl_FilterInWord.l0 k h s (sh : Int) m (fiwL b w h s sh m n) (s.length : Int) (n : Int) b w) (fiwL b w h s sh m s.length, true)
  | 0, n, e => by
    have e' : n = s.length := e
    have hL : (fiwL b w h s sh m n).length = n := Lf_length _ _
    refine Ev.step (fun k => by simp only [impl_FilterInWord.l0]; rfl) (Ev.ff (by omega) (Ev.bind (impl_told_ev _ (by omega)) (Ev.to (Ev.now _) ?_)))
    rw [toldM, if_pos (sig_of_word g (by omega) (fiw_bd g n)), e']
  | d + 1, n, e => by
    have ih := impl_fiw_l0 (w := w) (m := m) g hsh hh hhb hs hsb d (n + 1) (by omega)
    obtain ⟨h1, -, -, -, -, -⟩ := half g
    have hL : (fiwL b w h s sh m n).length = n := Lf_length _ _
    refine Ev.step (fun k => by simp only [impl_FilterInWord.l0]; rfl) (Ev.tt (by omega) ?_)
    have := impl_fiw_l1 (w := w) (m := m) g hsh hh hhb hs hsb (n := n) (by omega) (fiwL b w h s sh m n) (by omega) (n : Int) (fiwL b w h s sh m s.length, true) h [] n 0 rfl (by simp) (by omega) (by
      have e1 : wrap64 ((n : Int) + 1) = ((n + 1 : Nat) : Int) := w64_nat n 1 (by omega)
      rw [e1]
      have e2 : fiwL b w h s sh m n ++ [fw (hf b) w (2 ^ sh) m h s n 0] = fiwL b w h s sh m (n + 1) := (Lf_succ _ _).symm
      rw [e2]
      exact ih)
    exact this
theorem spec_fiw_l0 {b : Int} {w : Bool} {h s : List Int} {sh : Nat} {m : Int} (g : goodB b = true) (hsh : sh ≤ 20) (hh : h.length ≤ 9) (hhb : ∀ x ∈ h, -1000 ≤ x ∧ x ≤ 1000) (hs : s.length ≤ 64) (hsb : ∀ x ∈ s, -100000 ≤ x ∧ x ≤ 100000) : ∀ (d n : Nat), n + d = s.length → Ev (fun k => spec_FilterInWord.l0 k h s (sh : Int) m (fiwL b w h s sh m n) (s.length : Int) (n : Int) b w) (fiwL b w h s sh m s.length, true)
  | 0, n, e => by
    have e' : n = s.length := e
    refine Ev.step (fun k => by simp only [spec_FilterInWord.l0]; rfl) (Ev.ff (by omega) (Ev.to (Ev.now _) ?_))
    rw [e']
  | d + 1, n, e => by
    have ih := spec_fiw_l0 (w := w) (m := m) g hsh hh hhb hs hsb d (n + 1) (by omega)
    obtain ⟨h1, -, -, -, -, -⟩ := half g
    have hL : (fiwL b w h s sh m n).length = n := Lf_length _ _
    refine Ev.step (fun k => by simp only [spec_FilterInWord.l0]; rfl) (Ev.tt (by omega) ?_)
    have := spec_fiw_l1 (w := w) (m := m) g hsh hh hhb hs hsb (n := n) (by omega) (fiwL b w h s sh m n) (by omega) (n : Int) (fiwL b w h s sh m s.length, true) h [] n 0 rfl (by simp) (by omega) (by
      have e1 : wrap64 ((n : Int) + 1) = ((n + 1 : Nat) : Int) := w64_nat n 1 (by omega)
      rw [e1]
      have e2 : fiwL b w h s sh m n ++ [fw (hf b) w (2 ^ sh) m h s n 0] = fiwL b w h s sh m (n + 1) := (Lf_succ _ _).symm
      rw [e2]
      exact ih)
    exact this
theorem impl_FilterInWord_ev (b : Int) (w : Bool) (h s : List Int) (sh m : Int) (hh : h.length ≤ 1000000) (hs : s.length ≤ 1000000) : Ev (fun k => impl_FilterInWord.f k b w h s sh m) (fiwM b w h s sh m) := by
  simp only [impl_FilterInWord.f]
  refine Ev.bind (impl_inWord_ev b w h s sh m hh hs) ?_
  by_cases c : iwOk b h s sh m = true
  · obtain ⟨c1, c2, c3, c4, c5, c6⟩ := iwOk_iff.1 c
    have c4' := modeOk_iff.1 c4
    obtain ⟨n, rfl⟩ : ∃ n : Nat, sh = (n : Int) := ⟨sh.toNat, by omega⟩
    rw [fiwM, if_pos c, Int.toNat_natCast]
    exact Ev.tt c (impl_fiw_l0 c1 (by omega) (wts_len c2).2 (wts_mem c2) (sig_len c3) (sig_mem c3) s.length 0 (by omega))
  · rw [fiwM, if_neg c]
    exact Ev.ff c (Ev.now _)
theorem spec_FilterInWord_ev (b : Int) (w : Bool) (h s : List Int) (sh m : Int) (hh : h.length ≤ 1000000) (hs : s.length ≤ 1000000) : Ev (fun k => spec_FilterInWord.f k b w h s sh m) (fiwM b w h s sh m) := by
  simp only [spec_FilterInWord.f]
  refine Ev.bind (spec_weInWord_ev b w h s sh m hh hs) ?_
  by_cases c : iwOk b h s sh m = true
  · obtain ⟨c1, c2, c3, c4, c5, c6⟩ := iwOk_iff.1 c
    have c4' := modeOk_iff.1 c4
    obtain ⟨n, rfl⟩ : ∃ n : Nat, sh = (n : Int) := ⟨sh.toNat, by omega⟩
    rw [fiwM, if_pos c, Int.toNat_natCast]
    exact Ev.tt c (spec_fiw_l0 c1 (by omega) (wts_len c2).2 (wts_mem c2) (sig_len c3) (sig_mem c3) s.length 0 (by omega))
  · rw [fiwM, if_neg c]
    exact Ev.ff c (Ev.now _)

def faeF (b : Int) (w : Bool) (sh : Nat) (m x : Int) : Int := fitH (hf b) w (shM x (2 ^ sh) m)
def faeL (b : Int) (w : Bool) (h s : List Int) (sh : Nat) (m : Int) (N : Nat) : List Int := Lf (fun n => faeF b w sh m (cv h s n)) N
def faeM (b : Int) (w : Bool) (h s : List Int) (sh m : Int) : List Int × Bool := if iwOk b h s sh m = true then (faeL b w h s sh.toNat m s.length, true) else ([], false)
theorem cv_wts {h s : List Int} (hh : h.length ≤ 9) (hhb : ∀ x ∈ h, -1000 ≤ x ∧ x ≤ 1000) (hsb : ∀ x ∈ s, -100000 ≤ x ∧ x ≤ 100000) (n : Nat) : -900000000 ≤ cv h s n ∧ cv h s n ≤ 900000000 := by
  have := cv_bd (s := s) (M := 100000000) (by omega) h n (fun a ha x hx => by
    have h1 := hhb a ha
    have h2 := hsb x hx
    have h3 : (a * x).natAbs ≤ 1000 * 100000 := by
      rw [Int.natAbs_mul]
      exact Nat.mul_le_mul (by omega) (by omega)
    omega)
  omega
theorem fae_bd {b : Int} {w : Bool} {sh : Nat} {m : Int} (g : goodB b = true) (l : List Int) : ∀ x ∈ l.map (faeF b w sh m), -(hf b) ≤ x ∧ x ≤ hf b - 1 := by
  intro x hx
  obtain ⟨h1, -, -, -, -, -⟩ := half g
  simp only [List.mem_map] at hx
  obtain ⟨n, _, rfl⟩ := hx
  exact fitH_bd _ _ _ (by omega)
theorem take_conv {h s : List Int} (hh : 1 ≤ h.length) : (conv h s).take s.length = Lf (cv h s) s.length := by
  by_cases c : s = []
  · rw [c]
    rfl
  · rw [conv, if_neg c]
    apply List.ext_getElem
    · simp [Lf]
      omega
    · intro n h1 h2
      simp [Lf]
theorem impl_fae_l0 {b : Int} {w : Bool} {sh : Nat} {m : Int} (g : goodB b = true) (hsh : sh ≤ 20) : ∀ (t p : List Int), p.length + t.length ≤ 64 → (∀ x ∈ t, -900000000 ≤ x ∧ x ≤ 900000000) → Ev (fun k => impl_FilterAtEnd.l0 k (sh : Int) m (p.map (faeF b w sh m) ++ t) ((p.length + t.length : Nat) : Int) (p.length : Int) b w) ((p ++ t).map (faeF b w sh m), true)
  | [], p, hl, ht => by
    refine Ev.step (fun k => by simp only [impl_FilterAtEnd.l0]; rfl) (Ev.ff (by simp) (Ev.bind (impl_told_ev _ (by simp at hl ⊢; omega)) (Ev.to (Ev.now _) ?_)))
    rw [List.append_nil, List.append_nil, toldM, if_pos (sig_of_word g (by simp at hl ⊢; omega) (fae_bd g p))]
  | x :: t, p, hl, ht => by
    have hx := ht x (by simp)
    simp only [List.length_cons] at hl
    have ih := impl_fae_l0 (w := w) (m := m) g hsh t (p ++ [x]) (by simp; omega) (fun y hy => ht y (by simp [hy]))
    have c1 : -4611686018427387904 ≤ x ∧ x ≤ 4611686018427387904 := by omega
    have hs := shM_in (x := x) (b := 2 ^ sh) (M := 900000000) m (pow2_pos sh) (by omega) hx
    have c2 : -4611686018427387904 ≤ shM x (2 ^ sh) m ∧ shM x (2 ^ sh) m ≤ 4611686018427387904 := by omega
    have eL : (p.map (faeF b w sh m)).length = p.length := by simp
    have e2 : rd (p.map (faeF b w sh m) ++ x :: t) (p.length : Int) = x := by rw [← eL]; exact rd_mid _ t x
    have e3 : (p.map (faeF b w sh m) ++ x :: t).set (p.length : Int).toNat (faeF b w sh m x) = (p ++ [x]).map (faeF b w sh m) ++ t := by simp
    have e5 : (p ++ [x]).length + t.length = p.length + (x :: t).length := by simp; omega
    rw [e5, List.append_assoc] at ih
    have e4 : wrap64 ((p.length : Int) + 1) = ((p ++ [x]).length : Int) := w64_suc p x (by omega)
    refine Ev.step (fun k => by simp only [impl_FilterAtEnd.l0]; rfl) ?_
    rw [e2, e4]
    refine Ev.tt (by simp; omega) (Ev.tt (Int.natCast_nonneg _) (Ev.tt (by simp; omega) (Ev.bind (impl_shifted_ev x sh m hsh c1) (Ev.dbind (impl_Word_fit_eq w _ g c2) ?_))))
    have e6 : fitH (hf b) w (shM x (2 ^ sh) m) = faeF b w sh m x := rfl
    rw [e6, e3]
    exact ih
theorem map_Lf (f : Int → Int) (g : Nat → Int) (N : Nat) : (Lf g N).map f = Lf (fun n => f (g n)) N := by simp [Lf]
theorem impl_FilterAtEnd_ev (b : Int) (w : Bool) (h s : List Int) (sh m : Int) (hh : h.length ≤ 1000000) (hs : s.length ≤ 1000000) : Ev (fun k => impl_FilterAtEnd.f k b w h s sh m) (faeM b w h s sh m) := by
  simp only [impl_FilterAtEnd.f]
  refine Ev.bind (impl_inWord_ev b w h s sh m hh hs) ?_
  by_cases c : iwOk b h s sh m = true
  · obtain ⟨c1, c2, c3, c4, c5, c6⟩ := iwOk_iff.1 c
    have c4' := modeOk_iff.1 c4
    obtain ⟨n, rfl⟩ : ∃ n : Nat, sh = (n : Int) := ⟨sh.toNat, by omega⟩
    have cw : (wts h && sig s) = true := by rw [c2, c3]; rfl
    have hw := wts_len c2
    have hsl := sig_len c3
    have hg := conv_ge (s := s) c2
    have hl0 := impl_fae_l0 (w := w) (m := m) (sh := n) c1 (by omega) (Lf (cv h s) s.length) [] (by rw [Lf_length]; simp; omega) (by
      intro x hx
      simp only [Lf, List.mem_map] at hx
      obtain ⟨j, _, rfl⟩ := hx
      exact cv_wts hw.2 (wts_mem c2) (sig_mem c3) j)
    rw [List.nil_append, map_Lf, Lf_length] at hl0
    rw [faeM, if_pos c, Int.toNat_natCast]
    refine Ev.tt c (Ev.bind (filt_ans cw) (Ev.tt (Int.natCast_nonneg _) (Ev.tt (by omega) ?_)))
    simp only [Option.bind_some, Int.toNat_natCast]
    rw [take_conv hw.1, Lf_length]
    simpa [faeL] using hl0
  · rw [faeM, if_neg c]
    exact Ev.ff c (Ev.now _)
theorem spec_fae_l1 {b : Int} {w : Bool} {h s : List Int} {sh : Nat} {m : Int} (g : goodB b = true) (hsh : sh ≤ 20) (hh : h.length ≤ 9) (hhb : ∀ x ∈ h, -1000 ≤ x ∧ x ≤ 1000) (hs : s.length ≤ 64) (hsb : ∀ x ∈ s, -100000 ≤ x ∧ x ≤ 100000) {n : Nat} (hn : n < s.length) (out : List Int) (ho : out.length ≤ 100000) (i : Int) (R : List Int × Bool) :
    ∀ (t p : List Int) (n' : Nat) (T : Int), h = p ++ t → p.length + n' = n → -((p.length : Int) * 100000000) ≤ T → T ≤ (p.length : Int) * 100000000 → Ev (fun k => spec_FilterAtEnd.l0 k h s (sh : Int) m (out ++ [faeF b w sh m (T + cv t s n')]) (s.length : Int) (wrap64 (i + 1)) b w) R → Ev (fun k => spec_FilterAtEnd.l1 k h s (sh : Int) m out (n : Int) T (p.length : Int) (s.length : Int) i b w) R := by
  have stop : ∀ (x : Int) (T : Int), -900000000 ≤ T ∧ T ≤ 900000000 → ((h.length : Int) ≤ x ∨ (n : Int) < x) → Ev (fun k => spec_FilterAtEnd.l0 k h s (sh : Int) m (out ++ [faeF b w sh m T]) (s.length : Int) (wrap64 (i + 1)) b w) R → Ev (fun k => spec_FilterAtEnd.l1 k h s (sh : Int) m out (n : Int) T x (s.length : Int) i b w) R := by
    intro x T hT hx hk
    have c1 : -4611686018427387904 ≤ T ∧ T ≤ 4611686018427387904 := by omega
    refine Ev.step (fun k => by simp only [spec_FilterAtEnd.l1]; rfl) ?_
    by_cases c : x < (h.length : Int)
    · exact Ev.tt c (Ev.ff (by omega) (Ev.bind (spec_wdShift_ev T sh m hsh c1) (Ev.dbind (spec_wdFit_eq w _ g) (Ev.tt (by omega) hk))))
    · exact Ev.ff c (Ev.bind (spec_wdShift_ev T sh m hsh c1) (Ev.dbind (spec_wdFit_eq w _ g) (Ev.tt (by omega) hk)))
  intro t
  induction t with
  | nil =>
    intro p n' T e hp h0 h1 hk
    have e' : h = p := by simpa using e
    have hpl : p.length ≤ 9 := by rw [← e']; exact hh
    rw [cv, Int.add_zero] at hk
    exact stop _ T ⟨by omega, by omega⟩ (.inl (by rw [e']; omega)) hk
  | cons x t ih =>
    intro p n' T e hp h0 h1 hk
    have hpl : (p.length : Int) < (h.length : Int) := by rw [e]; exact lt_mid p t x
    have hpn : p.length ≤ n := by omega
    have hx : x ∈ h := by rw [e]; simp
    have hpr := prodW hhb hsb hx n'
    have hTb : -900000000 ≤ T + x * s.getD n' 0 ∧ T + x * s.getD n' 0 ≤ 900000000 := by omega
    have hl1 : ((p ++ [x]).length : Int) = (p.length : Int) + 1 := by simp
    have e2 : rd h (p.length : Int) = x := by rw [e]; exact rd_mid p t x
    have fin : Ev (fun k => spec_FilterAtEnd.l1 k h s (sh : Int) m out (n : Int) (T + x * s.getD n' 0) ((p ++ [x]).length : Int) (s.length : Int) i b w) R := by
      cases n' with
      | zero => exact stop _ _ hTb (.inr (by simp; omega)) hk
      | succ n' =>
        rw [cv, ← Int.add_assoc] at hk
        exact ih (p ++ [x]) n' _ (by simp [e]) (by simp; omega) (by rw [hl1]; omega) (by rw [hl1]; omega) hk
    obtain ⟨b1, b2, b3⟩ := rd_back hpn hn (by omega)
    have hnp : n - p.length = n' := by omega
    rw [hnp] at b1 b2 b3
    have c1 : (p.length : Int) ≤ (n : Int) := by omega
    have e4 : wrap64 (x * s.getD n' 0) = x * s.getD n' 0 := w64 (by omega) (by omega)
    have e5 : wrap64 (T + x * s.getD n' 0) = T + x * s.getD n' 0 := w64 (by omega) (by omega)
    have e3 : wrap64 ((p.length : Int) + 1) = ((p ++ [x]).length : Int) := w64_suc p x (by omega)
    refine Ev.step (fun k => by simp only [spec_FilterAtEnd.l1]; rfl) ?_
    rw [b1, e2, b3, e4, e5, e3]
    exact Ev.tt hpl (Ev.tt c1 (Ev.tt (Int.natCast_nonneg _) (Ev.tt (Int.natCast_nonneg _) (Ev.tt b2 fin))))
theorem spec_fae_l0 {b : Int} {w : Bool} {h s : List Int} {sh : Nat} {m : Int} (g : goodB b = true) (hsh : sh ≤ 20) (hh : h.length ≤ 9) (hhb : ∀ x ∈ h, -1000 ≤ x ∧ x ≤ 1000) (hs : s.length ≤ 64) (hsb : ∀ x ∈ s, -100000 ≤ x ∧ x ≤ 100000) : ∀ (d n : Nat), n + d = s.length → Ev (fun k => spec_FilterAtEnd.l0 k h s (sh : Int) m (faeL b w h s sh m n) (s.length : Int) (n : Int) b w) (faeL b w h s sh m s.length, true)
  | 0, n, e => by
    have e' : n = s.length := e
    refine Ev.step (fun k => by simp only [spec_FilterAtEnd.l0]; rfl) (Ev.ff (by omega) (Ev.to (Ev.now _) ?_))
    rw [e']
  | d + 1, n, e => by
    have ih := spec_fae_l0 (w := w) (m := m) g hsh hh hhb hs hsb d (n + 1) (by omega)
    have hL : (faeL b w h s sh m n).length = n := Lf_length _ _
    refine Ev.step (fun k => by simp only [spec_FilterAtEnd.l0]; rfl) (Ev.tt (by omega) ?_)
    have := spec_fae_l1 (w := w) (m := m) g hsh hh hhb hs hsb (n := n) (by omega) (faeL b w h s sh m n) (by omega) (n : Int) (faeL b w h s sh m s.length, true) h [] n 0 rfl (by simp) (by simp) (by simp) (by
      have e1 : wrap64 ((n : Int) + 1) = ((n + 1 : Nat) : Int) := w64_nat n 1 (by omega)
      rw [e1, Int.zero_add]
      have e2 : faeL b w h s sh m n ++ [faeF b w sh m (cv h s n)] = faeL b w h s sh m (n + 1) := (Lf_succ _ _).symm
      rw [e2]
      exact ih)
    exact this
theorem spec_FilterAtEnd_ev (b : Int) (w : Bool) (h s : List Int) (sh m : Int) (hh : h.length ≤ 1000000) (hs : s.length ≤ 1000000) : Ev (fun k => spec_FilterAtEnd.f k b w h s sh m) (faeM b w h s sh m) := by
  simp only [spec_FilterAtEnd.f]
  refine Ev.bind (spec_weInWord_ev b w h s sh m hh hs) ?_
  by_cases c : iwOk b h s sh m = true
  · obtain ⟨c1, c2, c3, c4, c5, c6⟩ := iwOk_iff.1 c
    have c4' := modeOk_iff.1 c4
    obtain ⟨n, rfl⟩ : ∃ n : Nat, sh = (n : Int) := ⟨sh.toNat, by omega⟩
    rw [faeM, if_pos c, Int.toNat_natCast]
    exact Ev.tt c (spec_fae_l0 c1 (by omega) (wts_len c2).2 (wts_mem c2) (sig_len c3) (sig_mem c3) s.length 0 (by omega))
  · rw [faeM, if_neg c]
    exact Ev.ff c (Ev.now _)

def bitC (lo hi c : Int) : Bool := decide (-(hf c) ≤ lo) && decide (hi < hf c)
def bitS (lo hi : Int) : Nat → Int → Int × Bool
  | 0, _ => (0, false)
  | d + 1, c => if bitC lo hi c = true then (c, true) else bitS lo hi d (c + 1)
theorem bitS_ok (lo hi : Int) : ∀ (d : Nat) (c : Int), 2 ≤ c → (bitS lo hi d c).2 = true → bitC lo hi (bitS lo hi d c).1 = true ∧ c ≤ (bitS lo hi d c).1 ∧ (bitS lo hi d c).1 < c + d ∧ ((bitS lo hi d c).1 = c ∨ bitC lo hi ((bitS lo hi d c).1 - 1) = false)
  | 0, c, _, h => by simp [bitS] at h
  | d + 1, c, hc, h => by
    unfold bitS at h ⊢
    by_cases k : bitC lo hi c = true
    · rw [if_pos k] at h ⊢
      exact ⟨k, by simp, by simp; omega, .inl rfl⟩
    · rw [if_neg k] at h ⊢
      obtain ⟨h1, h2, h3, h4⟩ := bitS_ok lo hi d (c + 1) (by omega) h
      refine ⟨h1, by omega, by simp at h3 ⊢; omega, .inr ?_⟩
      rcases h4 with h4 | h4
      · rw [h4, show c + 1 - 1 = c by omega]
        exact Bool.eq_false_iff.mpr k
      · exact h4
theorem impl_bits_l1 (lo hi : Int) : ∀ (d : Nat) (c : Int), c + d = 41 → 2 ≤ c → Ev (fun k => impl_BitsNeeded.l1 k lo hi c) (bitS lo hi d c)
  | 0, c, h, _ => Ev.step (fun k => by simp only [impl_BitsNeeded.l1]; rfl) (Ev.ff (by omega) (Ev.now _))
  | d + 1, c, h, hc => by
    obtain ⟨h1, h2, h3, h4, h5, h6⟩ := halfL (b := c) ⟨hc, by omega⟩
    have ih := impl_bits_l1 lo hi d (c + 1) (by omega) (by omega)
    have c40 : c ≤ 40 := by omega
    have e1 : wrap64 (c + 1) = c + 1 := w64 (by omega) (by omega)
    have e2 : wrap64 (-(hf c)) = -(hf c) := w64 (by omega) (by omega)
    refine Ev.step (fun k => by simp only [impl_BitsNeeded.l1]; rfl) (Ev.tt c40 ?_)
    rw [h2, h4, e1, e2]
    refine Ev.tt h3 ?_
    unfold bitS bitC
    by_cases x : lo ≥ -(hf c)
    · by_cases y : hi < hf c
      · exact Ev.tt x (Ev.tt y (Ev.to (Ev.now _) (by rw [decide_eq_true (show -(hf c) ≤ lo from x), decide_eq_true y]; rfl)))
      · exact Ev.tt x (Ev.ff y (Ev.to ih (by rw [decide_eq_false y, Bool.and_false]; rfl)))
    · exact Ev.ff x (Ev.to ih (by rw [decide_eq_false (show ¬ -(hf c) ≤ lo from x), Bool.false_and]; rfl))
theorem spec_bits_l1 (lo hi : Int) : ∀ (d : Nat) (c : Int), c + d = 41 → 2 ≤ c → Ev (fun k => spec_BitsNeeded.l1 k lo hi c) (bitS lo hi d c)
  | 0, c, h, _ => Ev.step (fun k => by simp only [spec_BitsNeeded.l1]; rfl) (Ev.ff (by omega) (Ev.now _))
  | d + 1, c, h, hc => by
    obtain ⟨h1, h2, h3, h4, h5, h6⟩ := halfL (b := c) ⟨hc, by omega⟩
    have ih := spec_bits_l1 lo hi d (c + 1) (by omega) (by omega)
    have c40 : c ≤ 40 := by omega
    have e1 : wrap64 (c + 1) = c + 1 := w64 (by omega) (by omega)
    have e2 : wrap64 (-(hf c)) = -(hf c) := w64 (by omega) (by omega)
    have e3 : wrap64 (hf c - 1) = hf c - 1 := w64 (by omega) (by omega)
    refine Ev.step (fun k => by simp only [spec_BitsNeeded.l1]; rfl) (Ev.tt c40 ?_)
    rw [h2, h4, e1, e2, e3]
    refine Ev.tt h3 ?_
    unfold bitS bitC
    by_cases x : lo ≥ -(hf c)
    · by_cases y : hi < hf c
      · exact Ev.tt x (Ev.tt (by omega) (Ev.to (Ev.now _) (by rw [decide_eq_true (show -(hf c) ≤ lo from x), decide_eq_true y]; rfl)))
      · exact Ev.tt x (Ev.ff (by omega) (Ev.to ih (by rw [decide_eq_false y, Bool.and_false]; rfl)))
    · exact Ev.ff x (Ev.to ih (by rw [decide_eq_false (show ¬ -(hf c) ≤ lo from x), Bool.false_and]; rfl))
theorem loS_app (L : Int) : ∀ p t : List Int, loS L (p ++ t) = loS L p + loS L t ∧ hiS L (p ++ t) = hiS L p + hiS L t
  | [], t => by simp [loS, hiS]
  | x :: p, t => by
    obtain ⟨h1, h2⟩ := loS_app L p t
    simp only [List.cons_append, loS, hiS, h1, h2]
    omega
theorem endB {L x : Int} (hL : 2 ≤ L ∧ L ≤ 32768) (hx : -1000 ≤ x ∧ x ≤ 1000) : (-40000000 ≤ x * -L ∧ x * -L ≤ 40000000) ∧ (-40000000 ≤ x * (L - 1) ∧ x * (L - 1) ≤ 40000000) := by
  have h1 : (x * -L).natAbs ≤ 1000 * 32768 := by
    rw [Int.natAbs_mul]
    exact Nat.mul_le_mul (by omega) (by omega)
  have h2 : (x * (L - 1)).natAbs ≤ 1000 * 32768 := by
    rw [Int.natAbs_mul]
    exact Nat.mul_le_mul (by omega) (by omega)
  omega
theorem loS_bd {L : Int} (hL : 2 ≤ L ∧ L ≤ 32768) : ∀ l : List Int, (∀ x ∈ l, -1000 ≤ x ∧ x ≤ 1000) → (-(40000000 * (l.length : Int)) ≤ loS L l ∧ loS L l ≤ 40000000 * (l.length : Int)) ∧ (-(40000000 * (l.length : Int)) ≤ hiS L l ∧ hiS L l ≤ 40000000 * (l.length : Int))
  | [], _ => by simp [loS, hiS]
  | x :: t, h => by
    have h1 := loS_bd hL t (fun y hy => h y (by simp [hy]))
    have h2 := endB hL (h x (by simp))
    simp only [loS, hiS, List.length_cons, mnI, mxI]
    split <;> split <;> omega
theorem mn_mnI (a b : Int) : mn a b = mnI a b ∧ mx a b = mxI a b := by
  unfold mn mx mnI mxI
  constructor
  · split <;> split <;> omega
  · split <;> split <;> omega
theorem bitsStep {b : Int} (g : goodB b = true) {l p t : List Int} {x : Int} (hl : l.length ≤ 9) (hlb : ∀ x ∈ l, -1000 ≤ x ∧ x ≤ 1000) (h : l = p ++ x :: t) :
    wrap64 (x * -(hf b)) = x * -(hf b) ∧ wrap64 (x * (hf b - 1)) = x * (hf b - 1) ∧ wrap64 (loS (hf b) p + mnI (x * -(hf b)) (x * (hf b - 1))) = loS (hf b) (p ++ [x]) ∧ wrap64 (hiS (hf b) p + mxI (x * -(hf b)) (x * (hf b - 1))) = hiS (hf b) (p ++ [x]) := by
  obtain ⟨hL, -, -, -, -, -⟩ := half g
  have hx := endB hL (hlb x (by rw [h]; simp))
  have hp := loS_bd hL p (fun y hy => hlb y (by rw [h]; simp [hy]))
  have hpl : p.length ≤ 9 := by rw [h] at hl; simp at hl; omega
  obtain ⟨a1, a2⟩ := loS_app (hf b) p [x]
  have h0 : loS (hf b) [x] = mnI (x * -(hf b)) (x * (hf b - 1)) := by simp [loS]
  have h1 : hiS (hf b) [x] = mxI (x * -(hf b)) (x * (hf b - 1)) := by simp [hiS]
  rw [a1, a2, h0, h1]
  have m1 : -40000000 ≤ mnI (x * -(hf b)) (x * (hf b - 1)) ∧ mnI (x * -(hf b)) (x * (hf b - 1)) ≤ 40000000 := by unfold mnI; split <;> omega
  have m2 : -40000000 ≤ mxI (x * -(hf b)) (x * (hf b - 1)) ∧ mxI (x * -(hf b)) (x * (hf b - 1)) ≤ 40000000 := by unfold mxI; split <;> omega
  exact ⟨w64 (by omega) (by omega), w64 (by omega) (by omega), w64 (by omega) (by omega), w64 (by omega) (by omega)⟩
def bitM' (h : List Int) (b : Int) : Int × Bool := if wts h = true then (if goodB b = true then bitS (loS (hf b) h) (hiS (hf b) h) 39 2 else (0, false)) else (0, false)
theorem impl_bits_l0 {b : Int} (g : goodB b = true) {l : List Int} (hl : l.length ≤ 9) (hlb : ∀ x ∈ l, -1000 ≤ x ∧ x ≤ 1000) : ∀ (t p : List Int), l = p ++ t → Ev (fun k => impl_BitsNeeded.l0 k (-(hf b)) (hf b - 1) (loS (hf b) p) (hiS (hf b) p) l (l.length : Int) (p.length : Int)) (bitS (loS (hf b) l) (hiS (hf b) l) 39 2)
  | [], p, h => by
    have e : l = p := by simpa using h
    refine Ev.step (fun k => by simp only [impl_BitsNeeded.l0]; rfl) (Ev.ff (by rw [e]; omega) ?_)
    rw [e]
    exact impl_bits_l1 _ _ 39 2 (by omega) (by omega)
  | x :: t, p, h => by
    have e1 : (p.length : Int) < (l.length : Int) := by rw [h]; exact lt_mid p t x
    have e2 : rd l (p.length : Int) = x := by rw [h]; exact rd_mid p t x
    have e3 : wrap64 ((p.length : Int) + 1) = ((p ++ [x]).length : Int) := nx_mid p t x (by rw [← h]; omega)
    obtain ⟨s1, s2, s3, s4⟩ := bitsStep g hl hlb h
    obtain ⟨m1, m2⟩ := mn_mnI (x * -(hf b)) (x * (hf b - 1))
    refine Ev.step (fun k => by simp only [impl_BitsNeeded.l0]; rfl) ?_
    rw [e2, s1, s2, m1, m2, s3, s4, e3]
    exact Ev.tt e1 (Ev.tt (Int.natCast_nonneg _) (Ev.tt e1 (impl_bits_l0 g hl hlb t (p ++ [x]) (by simp [h]))))
theorem spec_bits_l0 {b : Int} (w : Bool) (g : goodB b = true) {l : List Int} (hl : l.length ≤ 9) (hlb : ∀ x ∈ l, -1000 ≤ x ∧ x ≤ 1000) : ∀ (t p : List Int), l = p ++ t → Ev (fun k => spec_BitsNeeded.l0 k (loS (hf b) p) (hiS (hf b) p) l (l.length : Int) (p.length : Int) b w) (bitS (loS (hf b) l) (hiS (hf b) l) 39 2)
  | [], p, h => by
    have e : l = p := by simpa using h
    refine Ev.step (fun k => by simp only [spec_BitsNeeded.l0]; rfl) (Ev.ff (by rw [e]; omega) ?_)
    rw [e]
    exact spec_bits_l1 _ _ 39 2 (by omega) (by omega)
  | x :: t, p, h => by
    have e1 : (p.length : Int) < (l.length : Int) := by rw [h]; exact lt_mid p t x
    have e2 : rd l (p.length : Int) = x := by rw [h]; exact rd_mid p t x
    have e3 : wrap64 ((p.length : Int) + 1) = ((p ++ [x]).length : Int) := nx_mid p t x (by rw [← h]; omega)
    obtain ⟨s1, s2, s3, s4⟩ := bitsStep g hl hlb h
    have m1 : spec_l1Least.f (x * -(hf b)) (x * (hf b - 1)) = some (mnI (x * -(hf b)) (x * (hf b - 1))) := by unfold spec_l1Least.f mnI; split <;> rfl
    have m2 : spec_l1Most.f (x * -(hf b)) (x * (hf b - 1)) = some (mxI (x * -(hf b)) (x * (hf b - 1))) := by unfold spec_l1Most.f mxI; split <;> rfl
    refine Ev.step (fun k => by simp only [spec_BitsNeeded.l0, spec_wdLow_eq w g, spec_wdHigh_eq w g, Option.bind_some]; rfl) ?_
    rw [e2, s1, s2, e3]
    refine Ev.tt e1 (Ev.tt (Int.natCast_nonneg _) (Ev.tt e1 (Ev.dbind m1 (Ev.dbind m2 ?_))))
    rw [s3, s4]
    exact spec_bits_l0 w g hl hlb t (p ++ [x]) (by simp [h])
theorem impl_BitsNeeded_ev (h : List Int) (b : Int) (w : Bool) (hh : h.length ≤ 1000000) : Ev (fun k => impl_BitsNeeded.f k h b w) (bitM' h b) := by
  have no : Ev (fun k => impl_BitsNeeded.j0 k h true b w) (0, false) := Ev.step (fun k => by simp only [impl_BitsNeeded.j0]; rfl) (Ev.tt (by simp) (Ev.now _))
  simp only [impl_BitsNeeded.f]
  refine Ev.bind (impl_isWeights_ev h (by omega)) ?_
  by_cases c : wts h = true
  · refine Ev.tt c (Ev.dbind (impl_isWord_eq b w) ?_)
    by_cases g : goodB b = true
    · rw [g, bitM', if_pos c, if_pos g]
      have hl0 := impl_bits_l0 g (wts_len c).2 (wts_mem c) h [] rfl
      exact Ev.step (fun k => by simp only [impl_BitsNeeded.j0]; rfl) (Ev.ff (by simp) (Ev.dbind (impl_Word_ends_eq w g) hl0))
    · rw [Bool.eq_false_iff.mpr g, bitM', if_pos c, if_neg g]
      exact no
  · rw [bitM', if_neg c]
    exact Ev.ff c no
theorem spec_BitsNeeded_ev (h : List Int) (b : Int) (w : Bool) (hh : h.length ≤ 1000000) : Ev (fun k => spec_BitsNeeded.f k h b w) (bitM' h b) := by
  have no : Ev (fun k => spec_BitsNeeded.j0 k h true b w) (0, false) := Ev.step (fun k => by simp only [spec_BitsNeeded.j0]; rfl) (Ev.tt (by simp) (Ev.now _))
  simp only [spec_BitsNeeded.f]
  refine Ev.bind (spec_weGood_ev h (by omega)) ?_
  by_cases c : wts h = true
  · refine Ev.tt c (Ev.dbind (spec_wdGood_eq b w) ?_)
    by_cases g : goodB b = true
    · rw [g, bitM', if_pos c, if_pos g]
      have hl0 := spec_bits_l0 w g (wts_len c).2 (wts_mem c) h [] rfl
      exact Ev.step (fun k => by simp only [spec_BitsNeeded.j0]; rfl) (Ev.ff (by simp) hl0)
    · rw [Bool.eq_false_iff.mpr g, bitM', if_pos c, if_neg g]
      exact no
  · rw [bitM', if_neg c]
    exact Ev.ff c no
theorem bitM'_ok {h : List Int} {b : Int} (k : (bitM' h b).2 = true) : wts h = true ∧ goodB b = true ∧ bitC (loS (hf b) h) (hiS (hf b) h) (bitM' h b).1 = true ∧ (2 ≤ (bitM' h b).1 ∧ (bitM' h b).1 ≤ 40) ∧ ((bitM' h b).1 = 2 ∨ bitC (loS (hf b) h) (hiS (hf b) h) ((bitM' h b).1 - 1) = false) := by
  unfold bitM' at k ⊢
  split at k
  · rename_i c
    split at k
    · rename_i g
      rw [if_pos c, if_pos g]
      obtain ⟨h1, h2, h3, h4⟩ := bitS_ok _ _ 39 2 (by omega) k
      exact ⟨c, g, h1, ⟨h2, by omega⟩, h4⟩
    · cases k
  · cases k

theorem drawFiw_ok {l : List Int} (hl : Bytes l) : ∃ b w h s sh m, Ev (fun k => spec_DrawFilterInWord.f k l) (b, w, h, s, sh, m) ∧ h.length ≤ 300 ∧ s.length ≤ 100001 := by
  obtain ⟨u, a1, sd1, e1, ha1, hb1, hu, hu2⟩ := pick_ok hl 0 0 6 (by omega) (by omega) (by omega)
  obtain ⟨v, a2, sd2, e2, ha2, hb2, -⟩ := one_ok hl a1 sd1 2 (by omega) (by omega) (by omega)
  obtain ⟨h, a3, sd3, e3, hh, ha3, hb3⟩ := weights_ok hl a2 sd2 (by omega) (by omega)
  obtain ⟨n, rfl⟩ : ∃ n : Nat, u = (n : Int) := ⟨u.toNat, by omega⟩
  have hn : n ≤ 5 := by omega
  have w1 : wrap64 (3 + (n : Int)) = 3 + (n : Int) := w64 (by omega) (by omega)
  have w2 : wrap64 (3 + (n : Int) - 1) = ((n + 2 : Nat) : Int) := by
    rw [w64 (n := 3 + (n : Int) - 1) (by omega) (by omega)]
    omega
  have hp : (2 : Int) ^ (n + 2) = (((2 : Nat) ^ (n + 2) : Nat) : Int) := by simp
  have hp1 : (2 : Nat) ^ (n + 2) ≤ 2 ^ 7 := Nat.pow_le_pow_right (by decide) (by omega)
  have hp2 : (2 : Nat) ^ 2 ≤ 2 ^ (n + 2) := Nat.pow_le_pow_right (by decide) (by omega)
  have d7 : (2 : Nat) ^ 7 = 128 := by decide
  have d2 : (2 : Nat) ^ 2 = 4 := by decide
  have w3 : shl .i64 1 ((n + 2 : Nat) : Int) = (((2 : Nat) ^ (n + 2) : Nat) : Int) := by rw [shl_one (s := n + 2) (by omega), hp]
  have c1 : 1 ≤ (((2 : Nat) ^ (n + 2) : Nat) : Int) - 1 ∧ (((2 : Nat) ^ (n + 2) : Nat) : Int) - 1 ≤ 100000 := by omega
  have w4 : wrap64 ((((2 : Nat) ^ (n + 2) : Nat) : Int) - 1) = (((2 : Nat) ^ (n + 2) : Nat) : Int) - 1 := w64 (by omega) (by omega)
  obtain ⟨s, a4, sd4, e4, hs, ha4, hb4⟩ := signal_ok hl a3 sd3 9 ((((2 : Nat) ^ (n + 2) : Nat) : Int) - 1) (by omega) (by omega) (by omega) c1
  obtain ⟨x, a5, sd5, e5, ha5, hb5, -⟩ := one_ok hl a4 sd4 8 (by omega) (by omega) (by omega)
  have fin : ∃ b w a' sd', Ev (fun k => spec_l1Cur_filtered.f k l 0 0) (b, w, h, s, a', sd') ∧ 0 ≤ a' ∧ a' ≤ 10000000 := by
    simp only [spec_l1Cur_filtered.f]
    by_cases c : x = true
    · obtain ⟨b, w, a6, sd6, e6, ha6, hb6⟩ := word_ok hl a5 sd5 (by omega) (by omega)
      refine ⟨b, w, a6, sd6, Ev.dbind e1 (Ev.dbind e2 (Ev.bind e3 ?_)), by omega, by omega⟩
      dsimp only
      rw [w1, w2, w3, w4]
      exact Ev.tt (Int.natCast_nonneg _) (Ev.bind e4 (Ev.dbind e5 (Ev.tt c (Ev.dbind e6 (Ev.now _)))))
    · refine ⟨3 + (n : Int), v, a5, sd5, Ev.dbind e1 (Ev.dbind e2 (Ev.bind e3 ?_)), by omega, by omega⟩
      dsimp only
      rw [w1, w2, w3, w4]
      exact Ev.tt (Int.natCast_nonneg _) (Ev.bind e4 (Ev.dbind e5 (Ev.ff c (Ev.now _))))
  obtain ⟨b, w, a', sd', ef, ha, hb⟩ := fin
  obtain ⟨y, a7, sd7, e7, ha7, hb7, -⟩ := pick_ok hl a' sd' 4 (by omega) (by omega) (by omega)
  obtain ⟨z, a8, sd8, e8, ha8, hb8, -⟩ := mode_ok hl a7 sd7 (by omega) (by omega)
  refine ⟨b, w, h, s, y, z, ?_, hh, hs⟩
  simp only [spec_DrawFilterInWord.f]
  exact Ev.bind ef (Ev.dbind e7 (Ev.dbind e8 (Ev.now _)))

theorem drawBitsN_ok {l : List Int} (hl : Bytes l) : ∃ h b w, Ev (fun k => spec_DrawBitsNeeded.f k l) (h, b, w) ∧ h.length ≤ 300 := by
  obtain ⟨h, a3, sd3, e3, hh, ha3, hb3⟩ := weights_ok hl 0 0 (by omega) (by omega)
  obtain ⟨b, w, a6, sd6, e6, ha6, hb6⟩ := word_ok hl a3 sd3 (by omega) (by omega)
  refine ⟨h, b, w, ?_, hh⟩
  simp only [spec_DrawBitsNeeded.f]
  exact Ev.bind e3 (Ev.dbind e6 (Ev.now _))

theorem toldM_ok' {l : List Int} (h : (toldM l).2 = true) : sig l = true := by
  unfold toldM at h
  split at h
  · assumption
  · cases h
theorem szW_S : ∀ h : List Int, szW h = szS h
  | [] => rfl
  | x :: h => by rw [szW, szS, szW_S h]
theorem szL_bd {L z : Int} (hL : 2 ≤ L ∧ L ≤ 32768) (hz : 0 ≤ z ∧ z ≤ 9000) : 0 ≤ z * L ∧ z * L ≤ 294912000 := by
  have h1 := Int.mul_nonneg hz.1 (show 0 ≤ L by omega)
  have h2 : z * L ≤ 9000 * L := Int.mul_le_mul_of_nonneg_right hz.2 (by omega)
  omega
theorem law_j4 {l : List Int} (hl : Bytes l) : Ev (fun k => laws_FnFiltersInWords.j4 k l) true := by
  obtain ⟨h, b, w, d1, hh⟩ := drawBitsN_ok hl
  have j5 : Ev (fun k => laws_FnFiltersInWords.j5 k h (bitM' h b).1 (bitM' h b).2 false b w) true := by
    refine Ev.step (fun k => by simp only [laws_FnFiltersInWords.j5]; rfl) (Ev.ff (by simp) ?_)
    by_cases c : (bitM' h b).2 = true
    · obtain ⟨k1, k2, k3, k4, k5⟩ := bitM'_ok c
      generalize (bitM' h b).1 = x at *
      have hw := wts_len k1
      obtain ⟨hL, -, -, -, -, -⟩ := half k2
      obtain ⟨q1, q2, q3, q4, q5, q6⟩ := halfL k4
      have hz := szS_bd h (wts_mem k1)
      obtain ⟨p1, p2, p3, p4, p5⟩ := loS_eq (L := hf b) (by omega) h
      rw [szW_S] at p1
      have hzm := szL_bd (L := hf b) (z := szS h) hL (by omega)
      have eml : szS h * (hf b - 1) = szS h * hf b - szS h := by rw [Int.mul_sub, Int.mul_one]
      have epn : szS h * hf b = psS h * hf b + ngS h * hf b := by rw [p1, Int.add_mul]
      have k3' : -(hf x) ≤ loS (hf b) h ∧ hiS (hf b) h < hf x := by simpa [bitC] using k3
      have e1 : wrap64 (-(-(hf b))) = hf b := by rw [Int.neg_neg]; exact w64 (by omega) (by omega)
      have e2 : wrap64 (szS h * hf b) = szS h * hf b := w64 (by omega) (by omega)
      have e3 : wrap64 (hf x + szS h) = hf x + szS h := w64 (by omega) (by omega)
      have e4 : wrap64 (hf b - 1) = hf b - 1 := w64 (by omega) (by omega)
      have e5 : wrap64 (szS h * (hf b - 1)) = szS h * (hf b - 1) := w64 (by omega) (by omega)
      have c1 : ¬ (szS h * hf b > hf x + szS h) := by omega
      refine Ev.tt c (Ev.bind (impl_SizeGain_ev h (by omega)) (Ev.dbind (impl_RangeOf_eq b w) ?_))
      rw [sizeM, if_pos k1, rangeM, if_pos k2]
      dsimp only
      rw [q2, q4, e1, e2, e3, e4, e5]
      refine Ev.tt rfl (Ev.tt rfl (Ev.tt q3 (Ev.ff c1 ?_)))
      by_cases c2 : x > 2
      · obtain ⟨r1, r2, r3, r4, r5, r6⟩ := halfL (b := x - 1) ⟨by omega, by omega⟩
        have e6 : wrap64 (x - 2) = x - 1 - 1 := by rw [w64 (n := x - 2) (by omega) (by omega)]; omega
        have e7 : wrap64 (hf (x - 1) - szS h) = hf (x - 1) - szS h := w64 (by omega) (by omega)
        have k5' : ¬ (-(hf (x - 1)) ≤ loS (hf b) h ∧ hiS (hf b) h < hf (x - 1)) := by
          rcases k5 with k5 | k5
          · omega
          · simpa [bitC] using k5
        have c3 : ¬ (szS h * (hf b - 1) < hf (x - 1) - szS h) := by omega
        rw [e6, r4, e7]
        exact Ev.tt c2 (Ev.tt r3 (Ev.ff c3 (Ev.now _)))
      · exact Ev.ff c2 (Ev.now _)
    · exact Ev.ff c (Ev.now _)
  refine Ev.step (fun k => by simp only [laws_FnFiltersInWords.j4]; rfl) ?_
  refine Ev.bind d1 (Ev.bind (impl_BitsNeeded_ev h b w (by omega)) (Ev.bind (spec_BitsNeeded_ev h b w (by omega)) ?_))
  dsimp only
  rw [bne_self_eq_false, bne_self_eq_false]
  exact Ev.ff (by simp) j5
theorem iw_l1 {l h s : List Int} {b sh m : Int} {w : Bool} (hl : Bytes l) (c : iwOk b h s sh m = true) (hsh : sig ((conv h s).take s.length) = true) : ∀ (t p : List Int), (conv h s).take s.length = p ++ t → Ev (fun k => laws_FnFiltersInWords.l1 k l h sh m (fiwL b w h s sh.toNat m s.length) (faeL b w h s sh.toNat m s.length) ((conv h s).take s.length) ((conv h s).take s.length) (((conv h s).take s.length).length : Int) (p.length : Int) b w) true := by
  obtain ⟨g, c2, c3, c4, c5, c6⟩ := iwOk_iff.1 c
  have c4' := modeOk_iff.1 c4
  obtain ⟨hL, -, -, -, -, -⟩ := half g
  have g' := goodB_iff.1 g
  have hw := wts_len c2
  have hsl := sig_len c3
  have htk := take_conv (s := s) hw.1
  have e1 : (2 : Int) ^ (0 : Int).toNat = 1 := rfl
  have hlen : ((conv h s).take s.length).length = s.length := by rw [htk, Lf_length]
  have hfi : (fiwL b w h s sh.toNat m s.length).length = s.length := Lf_length _ _
  have hfa : (faeL b w h s sh.toNat m s.length).length = s.length := Lf_length _ _
  have h4 := law_j4 hl
  have hiw : (conv h s).take s.length = (conv h s).take s.length := rfl
  intro t
  induction t with
  | nil =>
    intro p e
    have e' : (conv h s).take s.length = p := by simpa using e
    refine Ev.step (fun k => by simp only [laws_FnFiltersInWords.l1]; rfl) (Ev.ff (by rw [e']; omega) (Ev.bind (impl_BitsNeeded_ev h b w (by omega)) ?_))
    by_cases k : (bitM' h b).2 = true
    · obtain ⟨k1, k2, k3, k4, k5⟩ := bitM'_ok k
      have k3' : -(hf (bitM' h b).1) ≤ loS (hf b) h ∧ hiS (hf b) h < hf (bitM' h b).1 := by simpa [bitC] using k3
      refine Ev.tt k ?_
      by_cases q : (bitM' h b).1 ≤ b
      · refine Ev.tt q ?_
        have hmn := hf_mono (by omega) q
        by_cases z : sh = 0
        · subst z
          have hsw := allB_mem c6
          have hL1 : 1 ≤ hf b := by omega
          have hnp := loS_np hL1 h
          have ef : fiwL b w h s (0 : Int).toNat m s.length = (conv h s).take s.length := by
            rw [htk, fiwL]
            apply Lf_congr
            intro n hn
            have e0 : (2 : Int) ^ (0 : Int).toNat = 1 := rfl
            rw [e0, fw_exact hL1 w m hsw h n 0 (by omega) (by omega) (by omega) (by omega), Int.zero_add]
          have ea : faeL b w h s (0 : Int).toNat m s.length = (conv h s).take s.length := by
            rw [htk, faeL]
            apply Lf_congr
            intro n hn
            have hc := cv_ends hL1 hsw h n
            have e0 : (2 : Int) ^ (0 : Int).toNat = 1 := rfl
            rw [faeF, e0, shM_one, fitH_id _ _ _ (by omega) (by omega)]
          rw [ef, ea]
          exact Ev.tt rfl (Ev.bind (laws_iSame_ev _ (by omega)) (Ev.tt rfl (Ev.bind (laws_iSame_ev _ (by omega)) (Ev.tt rfl h4))))
        · exact Ev.ff z h4
      · exact Ev.ff q h4
    · exact Ev.ff k h4
  | cons x t ih =>
    intro p e
    have hp : p.length < ((conv h s).take s.length).length := by rw [e]; simp
    have hpi : (p.length : Int) < (((conv h s).take s.length).length : Int) := by omega
    have hps : p.length < s.length := by omega
    have e2 : rd ((conv h s).take s.length) (p.length : Int) = x := by rw [e]; exact rd_mid p t x
    have e2' : x = cv h s p.length := by
      rw [← e2, htk]
      exact rd_Lf _ _ _ hps
    have hxb := sig_mem hsh x (by rw [e]; simp)
    have num : numOk x = true := numOk_iff.2 (by omega)
    have hsm := shM_in (x := x) (b := 2 ^ sh.toNat) (M := 100000) m (pow2_pos _) (by omega) hxb
    have num2 : numOk (shM x (2 ^ sh.toNat) m) = true := numOk_iff.2 (by omega)
    have r1 := impl_RoundShift_ev x sh m
    rw [roundM, if_pos num, if_pos c4] at r1
    have r2 := impl_FitNumber_eq b w (shM x (2 ^ sh.toNat) m)
    rw [fitN, if_pos g, if_pos num2] at r2
    have eE : rd (faeL b w h s sh.toNat m s.length) (p.length : Int) = fitH (hf b) w (shM x (2 ^ sh.toNat) m) := by
      rw [faeL, rd_Lf _ _ _ hps, e2']
      rfl
    have eO : rd (fiwL b w h s sh.toNat m s.length) (p.length : Int) = fw (hf b) w (2 ^ sh.toNat) m h s p.length 0 := rd_Lf _ _ _ hps
    have ca : (p.length : Int) < ((faeL b w h s sh.toNat m s.length).length : Int) := by omega
    have ci : (p.length : Int) < ((fiwL b w h s sh.toNat m s.length).length : Int) := by omega
    have ihn := ih (p ++ [x]) (by simp [e])
    have e3 : wrap64 ((p.length : Int) + 1) = ((p ++ [x]).length : Int) := w64_suc p x (by omega)
    rw [← e3] at ihn
    refine Ev.step (fun k => by simp only [laws_FnFiltersInWords.l1]; rfl) ?_
    rw [e2, eE, eO]
    refine Ev.tt hpi (Ev.tt (Int.natCast_nonneg _) (Ev.tt hpi (Ev.bind r1 (Ev.dbind r2 (Ev.tt rfl (Ev.tt rfl (Ev.tt ca (Ev.tt rfl ?_))))))))
    by_cases z : sh = 0
    · refine Ev.tt z ?_
      by_cases y : w = true
      · subst z
        subst y
        have ew : fw (hf b) true (2 ^ (0 : Int).toNat) m h s p.length 0 = fitH (hf b) true x := by
          have e0 : (2 : Int) ^ (0 : Int).toNat = 1 := rfl
          rw [e0, fw_wrap (by omega) m h s p.length 0 (by omega) (by omega), Int.zero_add, e2']
        rw [ew]
        exact Ev.tt rfl (Ev.tt ci (Ev.dbind (laws_iWrap_eq x ⟨g'.1, by omega⟩) (Ev.tt rfl ihn)))
      · exact Ev.ff y ihn
    · exact Ev.ff z ihn
theorem iw_l0 {l h s : List Int} {b sh m : Int} {w : Bool} (hl : Bytes l) (c : iwOk b h s sh m = true) : ∀ (d n : Nat), n + d = s.length → Ev (fun k => laws_FnFiltersInWords.l0 k l h sh m (fiwL b w h s sh.toNat m s.length) (faeL b w h s sh.toNat m s.length) (shortM h s).1 (shortM h s).2 (-(hf b)) (hf b - 1) ((fiwL b w h s sh.toNat m s.length).length : Int) (n : Int) b w) true := by
  obtain ⟨g, c2, c3, c4, c5, c6⟩ := iwOk_iff.1 c
  obtain ⟨hL, -, -, -, -, -⟩ := half g
  have hfi : (fiwL b w h s sh.toNat m s.length).length = s.length := Lf_length _ _
  have hfa : (faeL b w h s sh.toNat m s.length).length = s.length := Lf_length _ _
  have hsl := sig_len c3
  intro d
  induction d with
  | zero =>
    intro n e
    refine Ev.step (fun k => by simp only [laws_FnFiltersInWords.l0]; rfl) (Ev.ff (by omega) ?_)
    by_cases k : (shortM h s).2 = true
    · have kw : (wts h && sig s) = true := by rw [c2, c3]; rfl
      rw [shortM, if_pos kw] at k ⊢
      have ks := toldM_ok' k
      rw [toldM, if_pos ks]
      exact Ev.tt rfl (iw_l1 hl c ks _ [] rfl)
    · exact Ev.ff k (law_j4 hl)
  | succ d ih =>
    intro n e
    have ihn := ih (n + 1) (by omega)
    have hO := fw_bd (H := hf b) (by omega) w (2 ^ sh.toNat) m h s n 0 (by omega) (by omega)
    have hE := fitH_bd (hf b) w (shM (cv h s n) (2 ^ sh.toNat) m) (by omega)
    have eO : rd (fiwL b w h s sh.toNat m s.length) (n : Int) = fw (hf b) w (2 ^ sh.toNat) m h s n 0 := rd_Lf _ _ _ (by omega)
    have eE : rd (faeL b w h s sh.toNat m s.length) (n : Int) = fitH (hf b) w (shM (cv h s n) (2 ^ sh.toNat) m) := rd_Lf _ _ _ (by omega)
    have d1 : (n : Int) < ((fiwL b w h s sh.toNat m s.length).length : Int) := by omega
    have d2 : (n : Int) < ((faeL b w h s sh.toNat m s.length).length : Int) := by omega
    have e3 : wrap64 ((n : Int) + 1) = ((n + 1 : Nat) : Int) := w64_nat n 1 (by omega)
    rw [← e3] at ihn
    refine Ev.step (fun k => by simp only [laws_FnFiltersInWords.l0]; rfl) ?_
    rw [eO, eE]
    exact Ev.tt d1 (Ev.tt (Int.natCast_nonneg _) (Ev.tt d1 (Ev.ff (Int.not_lt.2 hO.1) (Ev.ff (Int.not_lt.2 hO.2) (Ev.tt d2 (Ev.ff (Int.not_lt.2 hE.1) (Ev.ff (Int.not_lt.2 hE.2) ihn)))))))
theorem FnFiltersInWords : laws_FnFiltersInWords.Pure := by
  intro l0 l1 hm0 he0 hx0 hm1 he1 hx1
  apply Ev.rounds
  simp only [laws_FnFiltersInWords.f]
  refine Ev.dbind (laws_big_eq l0 l1 (by omega) (by omega)) ?_
  by_cases c : decide (l0.length + l1.length > 1048576) = true
  · exact Ev.tt c (Ev.now _)
  have hlen : l0.length + l1.length ≤ 1048576 := by simpa using c
  refine Ev.ff c ?_
  have hb0 : Bytes l0 := bytes_of (by omega) hx0
  have hb1 : Bytes l1 := bytes_of (by omega) hx1
  obtain ⟨b, w, h, s, sh, m, d, hh, hs⟩ := drawFiw_ok hb0
  have l1' : (fiwM b w h s sh m).1.length ≤ 100001 := by
    unfold fiwM
    split
    · rw [fiwL, Lf_length]; omega
    · simp
  have l2' : (faeM b w h s sh m).1.length ≤ 100001 := by
    unfold faeM
    split
    · rw [faeL, Lf_length]; omega
    · simp
  have e2 : (faeM b w h s sh m).2 = (fiwM b w h s sh m).2 := by
    unfold faeM fiwM
    split <;> rfl
  have j0 : Ev (fun k => laws_FnFiltersInWords.j0 k l1 h s sh m (fiwM b w h s sh m).1 (fiwM b w h s sh m).2 (faeM b w h s sh m).1 false b w) true := by
    refine Ev.step (fun k => by simp only [laws_FnFiltersInWords.j0]; rfl) (Ev.ff (by simp) ?_)
    by_cases k : (fiwM b w h s sh m).2 = true
    · by_cases q : iwOk b h s sh m = true
      · obtain ⟨g, c2, c3, c4, c5, c6⟩ := iwOk_iff.1 q
        rw [fiwM, if_pos q, faeM, if_pos q]
        have hfi : (fiwL b w h s sh.toNat m s.length).length = s.length := Lf_length _ _
        have hfa : (faeL b w h s sh.toNat m s.length).length = s.length := Lf_length _ _
        refine Ev.tt rfl (Ev.bind (impl_FilterShort_ev h s (by omega) (by omega)) (Ev.dbind (impl_RangeOf_eq b w) ?_))
        rw [rangeM, if_pos g]
        dsimp only
        rw [hfa, bne_self_eq_false]
        refine Ev.tt rfl (Ev.tt (by rw [hfi]) ?_)
        exact Ev.step (fun k => by simp only [laws_FnFiltersInWords.j1]; rfl) (Ev.ff (by simp) (iw_l0 hb1 q s.length 0 (by omega)))
      · rw [fiwM, if_neg q] at k
        cases k
    · exact Ev.ff k (law_j4 hb1)
  refine Ev.bind d (Ev.bind (impl_FilterInWord_ev b w h s sh m (by omega) (by omega)) (Ev.bind (spec_FilterInWord_ev b w h s sh m (by omega) (by omega)) (Ev.bind (impl_FilterAtEnd_ev b w h s sh m (by omega) (by omega)) (Ev.bind (spec_FilterAtEnd_ev b w h s sh m (by omega) (by omega)) ?_))))
  dsimp only
  rw [e2, bne_self_eq_false]
  exact Ev.ff (by simp) (Ev.bind (laws_iSame_ev _ (by omega)) (Ev.tt rfl (Ev.ff (by simp) (Ev.bind (laws_iSame_ev _ (by omega)) (Ev.tt rfl j0)))))

end Go.Proofs.Ytjplcongellcmaa.Pure
