/- Filters by phases are those with zeros put in, with fewer products, and phases and bands are joined again. Conditions: none beyond those that the statement itself prints. -/
import Derived.Test.YtjplcongellcmaaPFnPhasesWorkx16
namespace Go.Proofs.Ytjplcongellcmaa.Pure
open Go.RowKit Go.Proofs.Ytjplcongellcmaa.PFnPhasesWork Go.Proofs.YtjplcongellcmaaW.PrintWords Go.Proofs.YtjplcongellcmaaW.PrintLast Go.Proofs.YtjplcongellcmaaW.PrintMore
set_option linter.unusedVariables false
set_option linter.unusedSimpArgs false

theorem w64 {n : Int} (h1 : -9223372036854775808 ≤ n) (h2 : n ≤ 9223372036854775807) : wrap64 n = n := by
  unfold wrap64
  omega
theorem Ev.to {α : Type} {g : Nat → Option α} {r r' : α} (h : Ev g r) (e : r = r') : Ev g r' := e ▸ h
theorem Ev.const {α : Type} {g : Option α} {r : α} (h : g = some r) : Ev (fun _ => g) r := ⟨0, fun _ _ => h⟩
theorem Ev.dbind {α β : Type} {g : Option α} {f : Nat → α → Option β} {a : α} {r : β} (h : g = some a) (k : Ev (fun n => f n a) r) : Ev (fun n => g.bind (f n)) r :=
  Ev.bind (g := fun _ => g) (Ev.const h) k
theorem Ev.tt {α : Type} {c : Prop} {_ : Decidable c} {g f : Nat → Option α} {r : α} (h : c) (k : Ev g r) : Ev (fun n => if c then g n else f n) r := by
  simpa only [if_pos h] using k
theorem Ev.ff {α : Type} {c : Prop} {_ : Decidable c} {g f : Nat → Option α} {r : α} (h : ¬ c) (k : Ev f r) : Ev (fun n => if c then g n else f n) r := by
  simpa only [if_neg h] using k
theorem rd_mid (p t : List Int) (x : Int) : rd (p ++ x :: t) (p.length : Int) = x := by
  simp [rd]
theorem lt_mid {α : Type} (p t : List α) (x : α) : (p.length : Int) < ((p ++ x :: t).length : Int) := by
  simp
  omega
theorem nx_mid {α : Type} (p t : List α) (x : α) (h : (p ++ x :: t).length ≤ 140737488351232) : wrap64 ((p.length : Int) + 1) = ((p ++ [x]).length : Int) := by
  simp at h ⊢
  exact w64 (by omega) (by omega)
theorem ap_mid {α : Type} (p t : List α) (x : α) : p ++ x :: t = (p ++ [x]) ++ t := by simp
theorem w64_nat (a b : Nat) (h : a + b ≤ 1000000000) : wrap64 ((a : Int) + (b : Int)) = ((a + b : Nat) : Int) := by
  rw [w64 (n := (a : Int) + (b : Int)) (by omega) (by omega)]
  omega
theorem w64_suc {α : Type} (q : List α) (x : α) (h : q.length ≤ 1000000000) : wrap64 ((q.length : Int) + 1) = ((q ++ [x]).length : Int) := by
  rw [w64 (n := (q.length : Int) + 1) (by omega) (by omega)]
  simp
theorem ar1 {a b c d : Nat} (h1 : a + 1 ≤ c) (h2 : b + 1 ≤ d) : ((a + b : Nat) : Int) < ((c + d - 1 : Nat) : Int) := by omega
theorem ar2 {a b c d : Nat} (h1 : a + 1 ≤ c) (h2 : b + 1 ≤ d) : a + b < c + d - 1 := by omega
theorem ar3 (a b : Nat) : ¬ (a ≤ a + b ∧ a + b - a < b) := by omega
theorem ar4 {v M : Int} (h : -M ≤ v ∧ v ≤ M) (hm : M ≤ 4000000000000000000) : wrap64 v = v := w64 (by omega) (by omega)
theorem ar5 {c v P M H : Int} (hc : -P ≤ c ∧ c ≤ P) (hv : -M ≤ v ∧ v ≤ M) (hp : P + M ≤ H) (hH : H ≤ 4000000000000000000) : wrap64 (c + v) = c + v := w64 (by omega) (by omega)
theorem ar6 {a b : Nat} {M : Int} (h : a + 1 ≤ b) (hM : 0 ≤ M) : (a : Int) * M + M ≤ (b : Int) * M := by
  have h1 : ((a : Int) + 1) * M ≤ (b : Int) * M := Int.mul_le_mul_of_nonneg_right (by omega) hM
  rw [Int.add_mul, Int.one_mul] at h1
  exact h1
theorem ar7 {a b c d : Nat} (h1 : a + 1 ≤ c) (h2 : b + 1 ≤ d) (h : c + d ≤ 100000000) : a + b ≤ 1000000000 := by omega
theorem ar8 {a c d : Nat} (h1 : a + 1 ≤ c) (h : c + d ≤ 100000000) : a ≤ 1000000000 := by omega
theorem tm (a b : Nat) : Int.tmod (a : Int) (b : Int) = ((a % b : Nat) : Int) := (Int.ofNat_tmod a b).symm
theorem td (a b : Nat) : Int.tdiv (a : Int) (b : Int) = ((a / b : Nat) : Int) := (Int.ofNat_tdiv a b).symm
theorem w64n {a : Nat} (h : a ≤ 1000000000) : wrap64 (a : Int) = (a : Int) := w64 (by omega) (by omega)

def backOf (n : Int) : Int × Bool := if n = 3 then (-1, true) else if n = 4 then (0, true) else if n = 6 then (1, true) else (0, false)
def tnF (c : Int) : List Int → Int → Int → Int × Int
  | [], y, z => (y, z)
  | x :: t, y, z => tnF c t (wrap64 ((wrap64 (x + (wrap64 (c * y)))) - z)) y
def sig (l : List Int) : Bool := decide (l.length ≤ 64) && l.all fun x => decide (-100000 ≤ x) && decide (x ≤ 100000)
def toneStates (l : List Int) (n : Int) : Int × Int × Bool := if (backOf n).2 = true then (if sig l = true then ((tnF (backOf n).1 l 0 0).1, (tnF (backOf n).1 l 0 0).2, true) else (0, 0, false)) else (0, 0, false)
theorem sig_len {l : List Int} (h : sig l = true) : l.length ≤ 64 := by
  simp [sig] at h
  exact h.1
theorem sig_mem {l : List Int} (h : sig l = true) : ∀ x ∈ l, -100000 ≤ x ∧ x ≤ 100000 := by
  simp [sig] at h
  exact h.2
def isBits (l : List Int) : Bool := decide (l.length ≤ 200) && l.all fun x => decide (x = 1 ∨ x = -1)
theorem isBits_len {l : List Int} (h : isBits l = true) : l.length ≤ 200 := by
  simp [isBits] at h
  exact h.1
theorem isBits_mem {l : List Int} (h : isBits l = true) : ∀ x ∈ l, x = 1 ∨ x = -1 := by
  simp [isBits] at h
  exact h.2
def toldM (l : List Int) : List Int × Bool := if sig l = true then (l, true) else ([], false)
theorem toldM_len (l : List Int) : (toldM l).1.length ≤ 64 := by
  unfold toldM
  split
  · exact sig_len ‹_›
  · simp
def bitM (x v : Int) : Int := if x ≥ v then 1 else -1
theorem bitM_cases (x v : Int) : bitM x v = 1 ∨ bitM x v = -1 := by
  unfold bitM
  split <;> simp
def tkS (st last : Int) (fixed : Bool) (bit : Int) : Int :=
  if fixed = true then st else if last = 0 then st else if bit = last then (if 2 * st ≤ 4096 then 2 * st else 4096) else (if 1 ≤ st / 2 then st / 2 else 1)
theorem tkS_bd {st last : Int} {fixed : Bool} {bit : Int} (h0 : 1 ≤ st) (h1 : st ≤ 4096) : 1 ≤ tkS st last fixed bit ∧ tkS st last fixed bit ≤ 4096 := by
  unfold tkS
  repeat' split
  all_goals omega
theorem mul_bit {st bit : Int} (hb : bit = 1 ∨ bit = -1) : st * bit = st ∨ st * bit = -st := by
  rcases hb with rfl | rfl
  · left; omega
  · right; omega
/-- bit, value and step behind each sample -/
def codeM (fixed : Bool) : List Int → Int → Int → Int → List (Int × Int × Int)
  | [], _, _, _ => []
  | x :: t, v, st, last =>
    let b := bitM x v
    let s := tkS st last fixed b
    (b, v + s * b, s) :: codeM fixed t (v + s * b) s b
theorem codeM_length (fixed : Bool) : ∀ (l : List Int) (v st last : Int), (codeM fixed l v st last).length = l.length
  | [], _, _, _ => rfl
  | x :: t, v, st, last => by simp [codeM, codeM_length fixed t]
def fixM (st : Int) : List Int → Int → List Int
  | [], _ => []
  | x :: t, v => bitM x v :: fixM st t (v + bitM x v * st)
theorem fixM_length (st : Int) : ∀ (l : List Int) (v : Int), (fixM st l v).length = l.length
  | [], _ => rfl
  | x :: t, v => by simp [fixM, fixM_length st t]
def fixedBits (l : List Int) (st : Int) : List Int × Bool := if sig l = true ∧ 1 ≤ st ∧ st ≤ 4096 then (fixM st l 0, true) else ([], false)
def decM (fixed : Bool) : List Int → Int → Int → Int → List (Int × Int)
  | [], _, _, _ => []
  | b :: t, v, st, last => (v + tkS st last fixed b * b, tkS st last fixed b) :: decM fixed t (v + tkS st last fixed b * b) (tkS st last fixed b) b
theorem decM_length (fixed : Bool) : ∀ (l : List Int) (v st last : Int), (decM fixed l v st last).length = l.length
  | [], _, _, _ => rfl
  | x :: t, v, st, last => by simp [decM, decM_length fixed t]
def gapM : List Int → List Int → List Int
  | x :: t, y :: u => (x - y) :: gapM t u
  | _, _ => []
theorem gapM_length : ∀ (l m : List Int), l.length = m.length → (gapM l m).length = l.length
  | [], m, _ => by cases m <;> simp [gapM]
  | x :: t, [], h => by simp at h
  | x :: t, y :: u, h => by
    simp at h
    simp [gapM, gapM_length t u h]
theorem codeM_val (fixed : Bool) : ∀ (l : List Int) (v st last : Int) (n : Int), 1 ≤ st → st ≤ 4096 → -4096 * n ≤ v → v ≤ 4096 * n → ∀ y ∈ (codeM fixed l v st last).map (·.2.1), -4096 * (n + l.length) ≤ y ∧ y ≤ 4096 * (n + l.length)
  | [], _, _, _, _, _, _, _, _, y, hy => by simp [codeM] at hy
  | x :: t, v, st, last, n, h0, h1, hv0, hv1, y, hy => by
    have hb := bitM_cases x v
    have hk := tkS_bd (last := last) (fixed := fixed) (bit := bitM x v) h0 h1
    have hm := mul_bit (st := tkS st last fixed (bitM x v)) hb
    simp only [codeM, List.map_cons, List.mem_cons] at hy
    rcases hy with rfl | hy
    · simp; omega
    · have := codeM_val fixed t _ _ _ (n + 1) hk.1 hk.2 (by omega) (by omega) y hy
      simp; omega
def stepOk (st : Int) : Bool := decide (1 ≤ st) && decide (st ≤ 4096)
theorem stepOk_iff {st : Int} : stepOk st = true ↔ 1 ≤ st ∧ st ≤ 4096 := by simp [stepOk]
def stepBits (l : List Int) (st : Int) : List Int × Bool := if sig l = true then (if stepOk st = true then ((codeM false l 0 st 0).map (·.1), true) else ([], false)) else ([], false)
def stepValues (l : List Int) (st : Int) : List Int × Bool := if isBits l = true then (if stepOk st = true then toldM ((decM false l 0 st 0).map (·.1)) else ([], false)) else ([], false)
def stepsOfBits (l : List Int) (st : Int) : List Int × Bool := if isBits l = true then (if stepOk st = true then toldM ((decM false l 0 st 0).map (·.2)) else ([], false)) else ([], false)
def fixedValues (l : List Int) (st : Int) : List Int × Bool := if isBits l = true then (if stepOk st = true then toldM ((decM true l 0 st 0).map (·.1)) else ([], false)) else ([], false)
def stepGaps (l : List Int) (st : Int) : List Int × Bool := if sig l = true then (if stepOk st = true then toldM (gapM l ((codeM false l 0 st 0).map (·.2.1))) else ([], false)) else ([], false)
def wts (l : List Int) : Bool := decide (1 ≤ l.length) && decide (l.length ≤ 9) && l.all fun x => decide (-1000 ≤ x) && decide (x ≤ 1000)
theorem wts_len {l : List Int} (h : wts l = true) : 1 ≤ l.length ∧ l.length ≤ 9 := by
  simp [wts] at h
  exact ⟨h.1.1, h.1.2⟩
theorem wts_mem {l : List Int} (h : wts l = true) : ∀ x ∈ l, -1000 ≤ x ∧ x ≤ 1000 := by
  simp [wts] at h
  exact h.2
def ratio (p q : Int) : Bool := (decide (1 ≤ p) && decide (p ≤ 8)) && (decide (1 ≤ q) && decide (q ≤ 8))
theorem ratio_iff {p q : Int} : ratio p q = true ↔ (1 ≤ p ∧ p ≤ 8) ∧ (1 ≤ q ∧ q ≤ 8) := by simp [ratio]
def rsOk (h l : List Int) (p q : Int) : Bool := wts h && ((sig l && ratio p q) && decide ((l.length : Int) * p ≤ 64))
def peakM : List Int → Nat → Nat
  | [], m => m
  | x :: t, m => peakM t (max m x.natAbs)

def cv : List Int → List Int → Nat → Int
  | [], _, _ => 0
  | w :: _, s, 0 => w * s.getD 0 0
  | w :: h, s, n + 1 => w * s.getD (n + 1) 0 + cv h s n
def Lf (f : Nat → Int) (N : Nat) : List Int := (List.range N).map f
theorem Lf_length (f : Nat → Int) (N : Nat) : (Lf f N).length = N := by simp [Lf]
theorem rd_Lf (f : Nat → Int) (N i : Nat) (h : i < N) : rd (Lf f N) (i : Int) = f i := by
  simp [rd, Lf, h]
theorem set_Lf (f : Nat → Int) (N i : Nat) (v : Int) : (Lf f N).set i v = Lf (fun n => if n = i then v else f n) N := by
  apply List.ext_getElem
  · simp [Lf]
  · intro n h1 h2
    simp [Lf, List.getElem_set]
    by_cases c : i = n
    · simp [c]
    · rw [if_neg c, if_neg (fun h => c h.symm)]
theorem Lf_congr {f g : Nat → Int} {N : Nat} (h : ∀ n, n < N → f n = g n) : Lf f N = Lf g N := by
  apply List.ext_getElem
  · simp [Lf]
  · intro n h1 h2
    simp [Lf] at h1 ⊢
    exact h n h1
theorem cv_snoc (s : List Int) (w : Int) : ∀ (p : List Int) (n : Nat), cv (p ++ [w]) s n = cv p s n + (if p.length ≤ n then w * s.getD (n - p.length) 0 else 0)
  | [], 0 => by simp [cv]
  | [], n + 1 => by simp [cv]
  | a :: p, 0 => by simp [cv]
  | a :: p, n + 1 => by
    simp only [List.cons_append, cv, cv_snoc s w p n, List.length_cons, Nat.add_le_add_iff_right, Nat.add_sub_add_right]
    omega
theorem getD_bd {s : List Int} {a M : Int} (hM : 0 ≤ M) (h : ∀ x ∈ s, -M ≤ a * x ∧ a * x ≤ M) (n : Nat) : -M ≤ a * s.getD n 0 ∧ a * s.getD n 0 ≤ M := by
  rw [List.getD_eq_getElem?_getD]
  by_cases c : n < s.length
  · rw [List.getElem?_eq_getElem c]
    exact h _ (List.getElem_mem c)
  · rw [List.getElem?_eq_none (by omega)]
    simp
    omega
theorem cv_bd {s : List Int} {M : Int} (hM : 0 ≤ M) : ∀ (h : List Int) (n : Nat), (∀ a ∈ h, ∀ x ∈ s, -M ≤ a * x ∧ a * x ≤ M) → -(h.length * M) ≤ cv h s n ∧ cv h s n ≤ h.length * M
  | [], n, hb => by simp [cv]
  | a :: h, 0, hb => by
    have h1 := getD_bd hM (hb a (by simp)) 0
    have h2 : 0 ≤ (h.length : Int) * M := Int.mul_nonneg (by omega) hM
    simp only [cv, List.length_cons, Int.natCast_add, Int.add_mul]
    omega
  | a :: h, n + 1, hb => by
    have h1 := getD_bd hM (hb a (by simp)) (n + 1)
    have h2 := cv_bd hM h n (fun b hbm => hb b (by simp [hbm]))
    simp only [cv, List.length_cons, Int.natCast_add, Int.add_mul]
    omega
def conv (h s : List Int) : List Int := if s = [] then [] else Lf (cv h s) (h.length + s.length - 1)
theorem conv_length (h s : List Int) (hs : s ≠ []) : (conv h s).length = h.length + s.length - 1 := by
  rw [conv, if_neg hs, Lf_length]
/-- what stands in the list when the weights p are done, and of the weight w the samples q -/
def cvi (p q s : List Int) (w : Int) (n : Nat) : Int := cv p s n + (if p.length ≤ n ∧ n - p.length < q.length then w * s.getD (n - p.length) 0 else 0)
theorem cvi_nil (p s : List Int) (w : Int) : cvi p [] s w = cv p s := by
  funext n
  simp [cvi]
theorem cvi_all (p s : List Int) (w : Int) (n : Nat) : cvi p s s w n = cv (p ++ [w]) s n := by
  rw [cv_snoc, cvi]
  by_cases c : p.length ≤ n
  · by_cases d : n - p.length < s.length
    · rw [if_pos ⟨c, d⟩, if_pos c]
    · rw [if_neg (fun h => d h.2), if_pos c, List.getD_eq_getElem?_getD, List.getElem?_eq_none (by omega)]
      simp
  · rw [if_neg (fun h => c h.1), if_neg c]
theorem getD_mid (q t : List Int) (x : Int) : (q ++ x :: t).getD q.length 0 = x := by simp
theorem cvi_step (p q t : List Int) (w x : Int) (n : Nat) : (if n = p.length + q.length then cvi p q (q ++ x :: t) w n + w * x else cvi p q (q ++ x :: t) w n) = cvi p (q ++ [x]) (q ++ x :: t) w n := by
  unfold cvi
  by_cases c : n = p.length + q.length
  · subst c
    have e : p.length + q.length - p.length = q.length := by omega
    rw [if_pos rfl, e, getD_mid, if_neg (by omega), if_pos ⟨by omega, by simp⟩]
    omega
  · rw [if_neg c]
    by_cases d : p.length ≤ n ∧ n - p.length < q.length
    · rw [if_pos d, if_pos ⟨d.1, by simp; omega⟩]
    · rw [if_neg d, if_neg (fun h => d ⟨h.1, by have := h.2; simp at this; omega⟩)]
theorem Lf_succ (f : Nat → Int) (n : Nat) : Lf f (n + 1) = Lf f n ++ [f n] := by simp [Lf, List.range_succ]
def dropN (len rate first : Nat) : Nat := (len - first + rate - 1) / rate
theorem dropN_lt {len rate first j : Nat} (hr : 1 ≤ rate) : j < dropN len rate first ↔ first + j * rate < len := by
  unfold dropN
  rw [Nat.lt_iff_add_one_le, Nat.le_div_iff_mul_le (by omega), Nat.add_mul]
  omega
def dropM (l : List Int) (rate first : Nat) : List Int := Lf (fun j => l.getD (first + j * rate) 0) (dropN l.length rate first)
theorem dropM_length (l : List Int) (rate first : Nat) : (dropM l rate first).length = dropN l.length rate first := Lf_length _ _
theorem dropN_le {len rate first : Nat} (hr : 1 ≤ rate) : dropN len rate first ≤ len := by
  apply Nat.le_of_not_lt
  intro h
  have := (dropN_lt hr).1 h
  have h2 : len * 1 ≤ len * rate := Nat.mul_le_mul_left len hr
  omega
def stuffM (p : Nat) : List Int → List Int
  | [] => []
  | x :: t => (x :: List.replicate (p - 1) 0) ++ stuffM p t
theorem stuffM_length (p : Nat) (hp : 1 ≤ p) : ∀ l : List Int, (stuffM p l).length = l.length * p
  | [] => by simp [stuffM]
  | x :: t => by
    simp only [stuffM, List.length_append, List.length_cons, List.length_replicate, stuffM_length p hp t, Nat.add_mul]
    omega
theorem stuffM_snoc (p : Nat) (x : Int) : ∀ l : List Int, stuffM p (l ++ [x]) = stuffM p l ++ (x :: List.replicate (p - 1) 0)
  | [] => by simp [stuffM]
  | y :: t => by simp [stuffM, stuffM_snoc p x t]
theorem rd_getD (l : List Int) (i : Nat) : rd l (i : Int) = l.getD i 0 := by simp [rd]
theorem stuffM_sig (p : Nat) : ∀ l : List Int, (∀ x ∈ l, -100000 ≤ x ∧ x ≤ 100000) → ∀ x ∈ stuffM p l, -100000 ≤ x ∧ x ≤ 100000
  | [], _, x, h => by simp [stuffM] at h
  | y :: t, hl, x, h => by
    simp only [stuffM, List.mem_append, List.mem_cons, List.mem_replicate] at h
    rcases h with (rfl | ⟨_, rfl⟩) | h
    · exact hl _ (by simp)
    · omega
    · exact stuffM_sig p t (fun z hz => hl z (by simp [hz])) x h
theorem sig_iff {l : List Int} : sig l = true ↔ l.length ≤ 64 ∧ ∀ x ∈ l, -100000 ≤ x ∧ x ≤ 100000 := by simp [sig]
theorem ediv_bd {x b : Int} (hb : 0 < b) (hx : -4611686018427387904 ≤ x ∧ x ≤ 4611686018427387904) : -4611686018427387905 ≤ x / b ∧ x / b ≤ 4611686018427387905 := by
  have h0 := Int.emod_nonneg x (show b ≠ 0 by omega)
  have h1 := Int.emod_lt_of_pos x hb
  have h2 := Int.emod_add_mul_ediv x b
  constructor
  · apply Int.not_lt.1
    intro h
    have : b * (x / b) ≤ 1 * (x / b) := Int.mul_le_mul_of_nonpos_right (by omega) (by omega)
    have h3 : b * (x / b) ≤ b * (-4611686018427387906) := Int.mul_le_mul_of_nonneg_left (by omega) (by omega)
    omega
  · apply Int.not_lt.1
    intro h
    have h3 : 1 * (x / b) ≤ b * (x / b) := Int.mul_le_mul_of_nonneg_right (by omega) (by omega)
    omega
def atM (s : List Int) (i : Int) : Int := if 0 ≤ i then s.getD i.toNat 0 else 0
theorem getD_all {l : List Int} {M : Int} (hM : 0 ≤ M) (h : ∀ x ∈ l, -M ≤ x ∧ x ≤ M) (n : Nat) : -M ≤ l.getD n 0 ∧ l.getD n 0 ≤ M := by
  rw [List.getD_eq_getElem?_getD]
  by_cases c : n < l.length
  · rw [List.getElem?_eq_getElem c]
    exact h _ (List.getElem_mem c)
  · rw [List.getElem?_eq_none (by omega)]
    simp
    omega
def totL : List (List Int) → Nat
  | [] => 0
  | x :: t => x.length + totL t

theorem spec_l1In_eq (a b c : Int) : spec_l1In.f a b c = some (decide (b ≤ a) && decide (a ≤ c)) := by
  unfold spec_l1In.f
  by_cases h : b ≤ a <;> simp [h]

theorem impl_in_eq (a b c : Int) : impl_in.f a b c = some (decide (b ≤ a) && decide (a ≤ c)) := by
  unfold impl_in.f
  by_cases h : b ≤ a <;> simp [h]

theorem spec_l1All_l0 (lo hi : Int) (l : List Int) (hl : l.length ≤ 140737488351232) : ∀ (t p : List Int), l = p ++ t → Ev (fun k => spec_l1All.l0 k lo hi l (l.length : Int) (p.length : Int)) (t.all fun x => decide (lo ≤ x) && decide (x ≤ hi))
  | [], p, h => by
    apply Ev.step (f := fun _ => some _)
    · intro k
      subst h
      simp [spec_l1All.l0]; rfl
    · exact Ev.now _
  | x :: t, p, h => by
    have e1 : (p.length : Int) < (l.length : Int) := by rw [h]; exact lt_mid p t x
    have e2 : rd l (p.length : Int) = x := by rw [h]; exact rd_mid p t x
    have e3 : wrap64 ((p.length : Int) + 1) = ((p ++ [x]).length : Int) := nx_mid p t x (h ▸ hl)
    by_cases c : (decide (lo ≤ x) && decide (x ≤ hi)) = true
    · refine Ev.to (Ev.step (fun k => ?_) (spec_l1All_l0 lo hi l hl t (p ++ [x]) (by simp [h]))) (by rw [List.all_cons, c, Bool.true_and])
      simp only [spec_l1All.l0, if_pos e1, if_pos (Int.natCast_nonneg _), e2, e3, spec_l1In_eq, Option.bind_some, if_pos c]
    · refine Ev.to (Ev.step (fun k => ?_) (Ev.now false)) (by rw [List.all_cons, Bool.eq_false_iff.mpr c, Bool.false_and])
      simp only [spec_l1All.l0, if_pos e1, if_pos (Int.natCast_nonneg _), e2, e3, spec_l1In_eq, Option.bind_some, if_neg c]
theorem spec_l1All_ev (l : List Int) (lo hi : Int) (hl : l.length ≤ 140737488351232) : Ev (fun k => spec_l1All.f k l lo hi) (l.all fun x => decide (lo ≤ x) && decide (x ≤ hi)) := by
  simpa [spec_l1All.f] using spec_l1All_l0 lo hi l hl l [] rfl

theorem spec_wdSignal_ev (l : List Int) (hl : l.length ≤ 140737488351232) : Ev (fun k => spec_wdSignal.f k l) (sig l) := by
  simp only [spec_wdSignal.f]
  by_cases c : (l.length : Int) ≤ 64
  · refine Ev.tt c (Ev.bind (spec_l1All_ev l (-100000) 100000 hl) (Ev.to (Ev.now _) ?_))
    simp [sig]; omega
  · refine Ev.ff c (Ev.to (Ev.now _) ?_)
    simp [sig]; omega

theorem impl_isSignal_c1_eq (x : Int) : impl_isSignal_c1.f x = some (!(decide (-100000 ≤ x) && decide (x ≤ 100000))) := by
  unfold impl_isSignal_c1.f
  rw [impl_in_eq]
  rfl
theorem indexSignal_l0 (l : List Int) (hl : l.length ≤ 140737488351232) : ∀ (t p : List Int), l = p ++ t → ∃ r, Ev (fun k => slices_IndexFunc_int_int_impl_isSignal_c1.l0 k l (l.length : Int) (p.length : Int)) r ∧ (decide (r ≥ 0) = !(t.all fun x => decide (-100000 ≤ x) && decide (x ≤ 100000)))
  | [], p, h => by
    refine ⟨-1, Ev.step (f := fun _ => some (-1)) ?_ (Ev.now _), by simp⟩
    intro k
    subst h
    simp [slices_IndexFunc_int_int_impl_isSignal_c1.l0]
  | x :: t, p, h => by
    have e1 : (p.length : Int) < (l.length : Int) := by rw [h]; exact lt_mid p t x
    have e2 : rd l (p.length : Int) = x := by rw [h]; exact rd_mid p t x
    have e3 : wrap64 ((p.length : Int) + 1) = ((p ++ [x]).length : Int) := nx_mid p t x (h ▸ hl)
    by_cases c : (decide (-100000 ≤ x) && decide (x ≤ 100000)) = true
    · obtain ⟨r, h1, h2⟩ := indexSignal_l0 l hl t (p ++ [x]) (by simp [h])
      refine ⟨r, Ev.step (fun k => ?_) h1, by rw [h2, List.all_cons, c, Bool.true_and]⟩
      simp only [slices_IndexFunc_int_int_impl_isSignal_c1.l0, if_pos e1, if_pos (Int.natCast_nonneg _), e2, e3, impl_isSignal_c1_eq, c, Option.bind_some, Bool.not_true]
      rfl
    · have c := Bool.eq_false_iff.mpr c
      refine ⟨(p.length : Int), Ev.step (fun k => ?_) (Ev.now _), by rw [List.all_cons, c]; simp⟩
      simp only [slices_IndexFunc_int_int_impl_isSignal_c1.l0, if_pos e1, if_pos (Int.natCast_nonneg _), e2, e3, impl_isSignal_c1_eq, c, Option.bind_some, Bool.not_false]
      rfl
theorem impl_isSignal_ev (l : List Int) (hl : l.length ≤ 140737488351232) : Ev (fun k => impl_isSignal.f k l) (sig l) := by
  simp only [impl_isSignal.f]
  by_cases c : (l.length : Int) ≤ 64
  · obtain ⟨r, h1, h2⟩ := indexSignal_l0 l hl l [] rfl
    refine Ev.tt c (Ev.bind (a := decide (r ≥ 0)) ?_ (Ev.to (Ev.now _) ?_))
    · simp only [slices_ContainsFunc_int_int_impl_isSignal_c1.f, slices_IndexFunc_int_int_impl_isSignal_c1.f]
      exact Ev.bind h1 (Ev.now _)
    · rw [h2]; simp [sig]; omega
  · refine Ev.ff c (Ev.to (Ev.now _) ?_)
    simp [sig]; omega

theorem spec_wdIf_ev (l : List Int) (hl : l.length ≤ 140737488351232) : Ev (fun k => spec_wdIf.f k l) (toldM l) := by
  simp only [spec_wdIf.f, toldM]
  refine Ev.bind (spec_wdSignal_ev l hl) ?_
  by_cases c : sig l = true
  · exact Ev.tt c (Ev.to (Ev.now _) (by rw [if_pos c]))
  · exact Ev.ff c (Ev.to (Ev.now _) (by rw [if_neg c]))

theorem impl_told_ev (l : List Int) (hl : l.length ≤ 140737488351232) : Ev (fun k => impl_told.f k l) (toldM l) := by
  simp only [impl_told.f, toldM]
  refine Ev.bind (impl_isSignal_ev l hl) ?_
  by_cases c : sig l = true
  · exact Ev.tt c (Ev.to (Ev.now _) (by rw [if_pos c]))
  · exact Ev.ff c (Ev.to (Ev.now _) (by rw [if_neg c]))

theorem spec_weGood_ev (l : List Int) (hl : l.length ≤ 140737488351232) : Ev (fun k => spec_weGood.f k l) (wts l) := by
  simp only [spec_weGood.f]
  refine Ev.dbind (spec_l1In_eq _ 1 9) ?_
  by_cases c : (decide (1 ≤ (l.length : Int)) && decide ((l.length : Int) ≤ 9)) = true
  · refine Ev.tt c (Ev.bind (spec_l1All_ev l (-1000) 1000 hl) (Ev.to (Ev.now _) ?_))
    simp at c
    simp [wts]; omega
  · refine Ev.ff c (Ev.to (Ev.now _) ?_)
    simp at c
    simp [wts]; omega

theorem impl_isWeights_c1_eq (x : Int) : impl_isWeights_c1.f x = some (!(decide (-1000 ≤ x) && decide (x ≤ 1000))) := by
  unfold impl_isWeights_c1.f
  rw [impl_in_eq]
  rfl
theorem indexWeights_l0 (l : List Int) (hl : l.length ≤ 140737488351232) : ∀ (t p : List Int), l = p ++ t → ∃ r, Ev (fun k => slices_IndexFunc_int_int_impl_isWeights_c1.l0 k l (l.length : Int) (p.length : Int)) r ∧ (decide (r ≥ 0) = !(t.all fun x => decide (-1000 ≤ x) && decide (x ≤ 1000)))
  | [], p, h => by
    refine ⟨-1, Ev.step (f := fun _ => some (-1)) ?_ (Ev.now _), by simp⟩
    intro k
    subst h
    simp [slices_IndexFunc_int_int_impl_isWeights_c1.l0]
  | x :: t, p, h => by
    have e1 : (p.length : Int) < (l.length : Int) := by rw [h]; exact lt_mid p t x
    have e2 : rd l (p.length : Int) = x := by rw [h]; exact rd_mid p t x
    have e3 : wrap64 ((p.length : Int) + 1) = ((p ++ [x]).length : Int) := nx_mid p t x (h ▸ hl)
    by_cases c : (decide (-1000 ≤ x) && decide (x ≤ 1000)) = true
    · obtain ⟨r, h1, h2⟩ := indexWeights_l0 l hl t (p ++ [x]) (by simp [h])
      refine ⟨r, Ev.step (fun k => ?_) h1, by rw [h2, List.all_cons, c, Bool.true_and]⟩
      simp only [slices_IndexFunc_int_int_impl_isWeights_c1.l0, if_pos e1, if_pos (Int.natCast_nonneg _), e2, e3, impl_isWeights_c1_eq, c, Option.bind_some, Bool.not_true]
      rfl
    · have c := Bool.eq_false_iff.mpr c
      refine ⟨(p.length : Int), Ev.step (fun k => ?_) (Ev.now _), by rw [List.all_cons, c]; simp⟩
      simp only [slices_IndexFunc_int_int_impl_isWeights_c1.l0, if_pos e1, if_pos (Int.natCast_nonneg _), e2, e3, impl_isWeights_c1_eq, c, Option.bind_some, Bool.not_false]
      rfl
theorem impl_isWeights_ev (l : List Int) (hl : l.length ≤ 140737488351232) : Ev (fun k => impl_isWeights.f k l) (wts l) := by
  simp only [impl_isWeights.f]
  refine Ev.dbind (impl_in_eq _ 1 9) ?_
  by_cases c : (decide (1 ≤ (l.length : Int)) && decide ((l.length : Int) ≤ 9)) = true
  · obtain ⟨r, h1, h2⟩ := indexWeights_l0 l hl l [] rfl
    refine Ev.tt c (Ev.bind (a := decide (r ≥ 0)) ?_ (Ev.to (Ev.now _) ?_))
    · simp only [slices_ContainsFunc_int_int_impl_isWeights_c1.f, slices_IndexFunc_int_int_impl_isWeights_c1.f]
      exact Ev.bind h1 (Ev.now _)
    · rw [h2]
      simp at c
      simp [wts]; omega
  · refine Ev.ff c (Ev.to (Ev.now _) ?_)
    simp at c
    simp [wts]; omega

theorem spec_rsRatio_eq (p q : Int) : spec_rsRatio.f p q = some (ratio p q) := by
  unfold spec_rsRatio.f ratio
  rw [spec_l1In_eq]
  simp only [Option.bind_some, spec_l1In_eq]
  by_cases c : (decide (1 ≤ p) && decide (p ≤ 8)) = true
  · rw [if_pos c, c, Bool.true_and]
  · rw [if_neg c, Bool.eq_false_iff.mpr c, Bool.false_and]

theorem impl_isRatio_eq (p q : Int) : impl_isRatio.f p q = some (ratio p q) := by
  unfold impl_isRatio.f ratio
  rw [impl_in_eq]
  simp only [Option.bind_some, impl_in_eq]
  by_cases c : (decide (1 ≤ p) && decide (p ≤ 8)) = true
  · rw [if_pos c, c, Bool.true_and]
  · rw [if_neg c, Bool.eq_false_iff.mpr c, Bool.false_and]

theorem spec_rsGood_ev (l : List Int) (p q : Int) (hl : l.length ≤ 140737488351232) : Ev (fun k => spec_rsGood.f k l p q) (sig l && ratio p q) := by
  simp only [spec_rsGood.f]
  refine Ev.bind (spec_wdSignal_ev l hl) ?_
  by_cases c : sig l = true
  · rw [c, Bool.true_and]
    refine Ev.tt rfl (Ev.dbind (spec_rsRatio_eq p q) (Ev.now _))
  · rw [Bool.eq_false_iff.mpr c, Bool.false_and]
    exact Ev.ff (by decide) (Ev.now _)

theorem spec_rsAsked_ev (h l : List Int) (p q : Int) (hh : h.length ≤ 140737488351232) (hl : l.length ≤ 140737488351232) : Ev (fun k => spec_rsAsked.f k h l p q) (rsOk h l p q) := by
  simp only [spec_rsAsked.f, rsOk]
  refine Ev.bind (spec_weGood_ev h hh) ?_
  by_cases c : wts h = true
  · rw [c, Bool.true_and]
    refine Ev.tt rfl (Ev.bind (spec_rsGood_ev l p q hl) ?_)
    by_cases d : (sig l && ratio p q) = true
    · have d' := d
      simp only [Bool.and_eq_true] at d
      have hs := sig_len d.1
      have hr := ratio_iff.1 d.2
      have e : wrap64 ((l.length : Int) * p) = (l.length : Int) * p := by
        have h1 : (l.length : Int) * p ≤ 64 * 8 := Int.mul_le_mul (by omega) (by omega) (by omega) (by omega)
        have h0 : 0 ≤ (l.length : Int) * p := Int.mul_nonneg (by omega) (by omega)
        exact w64 (by omega) (by omega)
      rw [d', Bool.true_and]
      exact Ev.tt rfl (Ev.to (Ev.now _) (by rw [e]))
    · rw [Bool.eq_false_iff.mpr d, Bool.false_and]
      exact Ev.ff (by decide) (Ev.now _)
  · rw [Bool.eq_false_iff.mpr c, Bool.false_and]
    exact Ev.ff (by decide) (Ev.now _)

theorem spec_weAnswer_l1 (h s : List Int) (M : Int) (hM : 0 ≤ M) (hM1 : (h.length : Int) * M ≤ 4000000000000000000) (hMM : M ≤ 4000000000000000000) (hb : ∀ a ∈ h, ∀ x ∈ s, -M ≤ a * x ∧ a * x ≤ M) (hN : h.length + s.length ≤ 100000000) (hs : s ≠ [])
    (p : List Int) (w : Int) (u : List Int) (hp : h = p ++ w :: u) (r : List Int) : ∀ (t q : List Int), s = q ++ t →
    Ev (fun k => spec_weAnswer.l0 k s (Lf (cv (p ++ [w]) s) (h.length + s.length - 1)) h (h.length : Int) (wrap64 ((p.length : Int) + 1))) r →
    Ev (fun k => spec_weAnswer.l1 k s (Lf (cvi p q s w) (h.length + s.length - 1)) (p.length : Int) w h (h.length : Int) (p.length : Int) s (s.length : Int) (q.length : Int)) r
  | [], q, hq, hr => by
    have e : q = s := by rw [hq]; simp
    subst e
    refine Ev.step (fun k => ?_) hr
    have e : Lf (cvi p q q w) (h.length + q.length - 1) = Lf (cv (p ++ [w]) q) (h.length + q.length - 1) := Lf_congr (fun n _ => cvi_all p q w n)
    rw [e]
    simp [spec_weAnswer.l1]
  | x :: t, q, hq, hr => by
    have hps : p.length + 1 ≤ h.length := by rw [hp]; simp
    have hqs : q.length + 1 ≤ s.length := by rw [hq]; simp
    have e1 : (q.length : Int) < (s.length : Int) := Int.ofNat_lt.2 hqs
    have e2 : rd s (q.length : Int) = x := by rw [hq]; exact rd_mid q t x
    have e3 : wrap64 ((q.length : Int) + 1) = ((q ++ [x]).length : Int) := w64_suc q x (ar8 (d := h.length) hqs (by rw [Nat.add_comm]; exact hN))
    have e4 : wrap64 ((p.length : Int) + (q.length : Int)) = ((p.length + q.length : Nat) : Int) := w64_nat _ _ (ar7 hps hqs hN)
    have e5 : ((p.length + q.length : Nat) : Int) < ((Lf (cvi p q s w) (h.length + s.length - 1)).length : Int) := by rw [Lf_length]; exact ar1 hps hqs
    have e6 : rd (Lf (cvi p q s w) (h.length + s.length - 1)) ((p.length + q.length : Nat) : Int) = cvi p q s w (p.length + q.length) := rd_Lf _ _ _ (ar2 hps hqs)
    have hwx := hb w (by rw [hp]; simp) x (by rw [hq]; simp)
    have e7 : wrap64 (w * x) = w * x := ar4 hwx hMM
    have e8 : cvi p q s w (p.length + q.length) = cv p s (p.length + q.length) := by
      unfold cvi
      rw [if_neg (ar3 _ _), Int.add_zero]
    have hcv := cv_bd hM p (p.length + q.length) (fun a ha => hb a (by rw [hp]; simp [ha]))
    have hpm := ar6 hps hM
    have e9 : wrap64 (cvi p q s w (p.length + q.length) + w * x) = cvi p q s w (p.length + q.length) + w * x := by
      rw [e8]
      exact ar5 hcv hwx hpm hM1
    have e10 : (Lf (cvi p q s w) (h.length + s.length - 1)).set (((p.length + q.length : Nat) : Int).toNat) (cvi p q s w (p.length + q.length) + w * x) = Lf (cvi p (q ++ [x]) s w) (h.length + s.length - 1) := by
      rw [Int.toNat_natCast, set_Lf]
      apply Lf_congr
      intro n _
      have := cvi_step p q t w x n
      rw [← hq] at this
      rw [← this]
      by_cases c : n = p.length + q.length
      · rw [if_pos c, if_pos c, c]
      · rw [if_neg c, if_neg c]
    refine Ev.step (fun k => ?_) (spec_weAnswer_l1 h s M hM hM1 hMM hb hN hs p w u hp r t (q ++ [x]) (by simp [hq]) hr)
    simp only [spec_weAnswer.l1, if_pos e1, if_pos (Int.natCast_nonneg _), e2, e3, e4, if_pos e5, e6, e7, e9, e10]
theorem spec_weAnswer_l0 (h s : List Int) (M : Int) (hM : 0 ≤ M) (hM1 : (h.length : Int) * M ≤ 4000000000000000000) (hMM : M ≤ 4000000000000000000) (hb : ∀ a ∈ h, ∀ x ∈ s, -M ≤ a * x ∧ a * x ≤ M) (hN : h.length + s.length ≤ 100000000) (hs : s ≠ []) :
    ∀ (u p : List Int), h = p ++ u → Ev (fun k => spec_weAnswer.l0 k s (Lf (cv p s) (h.length + s.length - 1)) h (h.length : Int) (p.length : Int)) (Lf (cv h s) (h.length + s.length - 1))
  | [], p, hp => by
    have e : p = h := by rw [hp]; simp
    subst e
    refine Ev.step (f := fun _ => some _) (fun k => ?_) (Ev.now _)
    simp [spec_weAnswer.l0]
  | w :: u, p, hp => by
    have hps : p.length + 1 ≤ h.length := by rw [hp]; simp
    have e1 : (p.length : Int) < (h.length : Int) := Int.ofNat_lt.2 hps
    have e2 : rd h (p.length : Int) = w := by rw [hp]; exact rd_mid p u w
    have e3 : wrap64 ((p.length : Int) + 1) = ((p ++ [w]).length : Int) := w64_suc p w (ar8 hps hN)
    have ih := spec_weAnswer_l0 h s M hM hM1 hMM hb hN hs u (p ++ [w]) (by simp [hp])
    rw [← e3] at ih
    have hh := spec_weAnswer_l1 h s M hM hM1 hMM hb hN hs p w u hp _ s [] rfl ih
    rw [cvi_nil] at hh
    refine Ev.step (fun k => ?_) hh
    simp only [spec_weAnswer.l0, if_pos e1, if_pos (Int.natCast_nonneg _), e2]
    rfl
theorem spec_weAnswer_ev (h s : List Int) (M : Int) (hM : 0 ≤ M) (hM1 : (h.length : Int) * M ≤ 4000000000000000000) (hMM : M ≤ 4000000000000000000) (hb : ∀ a ∈ h, ∀ x ∈ s, -M ≤ a * x ∧ a * x ≤ M) (hN : h.length + s.length ≤ 100000000) : Ev (fun k => spec_weAnswer.f k h s) (conv h s) := by
  simp only [spec_weAnswer.f, conv]
  by_cases c : s = []
  · subst c
    exact Ev.tt (by simp) (Ev.now _)
  · rw [if_neg c]
    have hs1 : 1 ≤ s.length := by
      cases s with
      | nil => exact absurd rfl c
      | cons a t => simp
    have e : wrap64 ((wrap64 ((h.length : Int) + (s.length : Int))) - 1) = ((h.length + s.length - 1 : Nat) : Int) := by
      rw [w64 (n := (h.length : Int) + (s.length : Int)) (by omega) (by omega), w64 (n := (h.length : Int) + (s.length : Int) - 1) (by omega) (by omega)]
      omega
    refine Ev.ff (by omega) ?_
    rw [e]
    refine Ev.tt (by omega) (Ev.tt (by omega) ?_)
    rw [Int.toNat_natCast]
    have e2 : List.replicate (h.length + s.length - 1) (0 : Int) = Lf (cv [] s) (h.length + s.length - 1) := by
      apply List.ext_getElem
      · simp [Lf]
      · intro n h1 h2
        simp [Lf, cv]
    rw [e2]
    exact spec_weAnswer_l0 h s M hM hM1 hMM hb hN c h [] rfl

theorem impl_answer_l1 (h s : List Int) (M : Int) (hM : 0 ≤ M) (hM1 : (h.length : Int) * M ≤ 4000000000000000000) (hMM : M ≤ 4000000000000000000) (hb : ∀ a ∈ h, ∀ x ∈ s, -M ≤ a * x ∧ a * x ≤ M) (hN : h.length + s.length ≤ 100000000) (hs : s ≠ [])
    (p : List Int) (w : Int) (u : List Int) (hp : h = p ++ w :: u) (r : List Int) : ∀ (t q : List Int), s = q ++ t →
    Ev (fun k => impl_answer.l0 k s (Lf (cv (p ++ [w]) s) (h.length + s.length - 1)) h (h.length : Int) (wrap64 ((p.length : Int) + 1))) r →
    Ev (fun k => impl_answer.l1 k s (Lf (cvi p q s w) (h.length + s.length - 1)) (p.length : Int) w h (h.length : Int) (p.length : Int) s (s.length : Int) (q.length : Int)) r
  | [], q, hq, hr => by
    have e : q = s := by rw [hq]; simp
    subst e
    refine Ev.step (fun k => ?_) hr
    have e : Lf (cvi p q q w) (h.length + q.length - 1) = Lf (cv (p ++ [w]) q) (h.length + q.length - 1) := Lf_congr (fun n _ => cvi_all p q w n)
    rw [e]
    simp [impl_answer.l1]
  | x :: t, q, hq, hr => by
    have hps : p.length + 1 ≤ h.length := by rw [hp]; simp
    have hqs : q.length + 1 ≤ s.length := by rw [hq]; simp
    have e1 : (q.length : Int) < (s.length : Int) := Int.ofNat_lt.2 hqs
    have e2 : rd s (q.length : Int) = x := by rw [hq]; exact rd_mid q t x
    have e3 : wrap64 ((q.length : Int) + 1) = ((q ++ [x]).length : Int) := w64_suc q x (ar8 (d := h.length) hqs (by rw [Nat.add_comm]; exact hN))
    have e4 : wrap64 ((q.length : Int) + (p.length : Int)) = ((p.length + q.length : Nat) : Int) := (w64_nat _ _ (ar7 hqs hps (by rw [Nat.add_comm]; exact hN))).trans (by rw [Nat.add_comm])
    have e5 : ((p.length + q.length : Nat) : Int) < ((Lf (cvi p q s w) (h.length + s.length - 1)).length : Int) := by rw [Lf_length]; exact ar1 hps hqs
    have e6 : rd (Lf (cvi p q s w) (h.length + s.length - 1)) ((p.length + q.length : Nat) : Int) = cvi p q s w (p.length + q.length) := rd_Lf _ _ _ (ar2 hps hqs)
    have hwx := hb w (by rw [hp]; simp) x (by rw [hq]; simp)
    have e7 : wrap64 (w * x) = w * x := ar4 hwx hMM
    have e8 : cvi p q s w (p.length + q.length) = cv p s (p.length + q.length) := by
      unfold cvi
      rw [if_neg (ar3 _ _), Int.add_zero]
    have hcv := cv_bd hM p (p.length + q.length) (fun a ha => hb a (by rw [hp]; simp [ha]))
    have hpm := ar6 hps hM
    have e9 : wrap64 (cvi p q s w (p.length + q.length) + w * x) = cvi p q s w (p.length + q.length) + w * x := by
      rw [e8]
      exact ar5 hcv hwx hpm hM1
    have e10 : (Lf (cvi p q s w) (h.length + s.length - 1)).set (((p.length + q.length : Nat) : Int).toNat) (cvi p q s w (p.length + q.length) + w * x) = Lf (cvi p (q ++ [x]) s w) (h.length + s.length - 1) := by
      rw [Int.toNat_natCast, set_Lf]
      apply Lf_congr
      intro n _
      have := cvi_step p q t w x n
      rw [← hq] at this
      rw [← this]
      by_cases c : n = p.length + q.length
      · rw [if_pos c, if_pos c, c]
      · rw [if_neg c, if_neg c]
    refine Ev.step (fun k => ?_) (impl_answer_l1 h s M hM hM1 hMM hb hN hs p w u hp r t (q ++ [x]) (by simp [hq]) hr)
    simp only [impl_answer.l1, if_pos e1, if_pos (Int.natCast_nonneg _), e2, e3, e4, if_pos e5, e6, e7, e9, e10]
theorem impl_answer_l0 (h s : List Int) (M : Int) (hM : 0 ≤ M) (hM1 : (h.length : Int) * M ≤ 4000000000000000000) (hMM : M ≤ 4000000000000000000) (hb : ∀ a ∈ h, ∀ x ∈ s, -M ≤ a * x ∧ a * x ≤ M) (hN : h.length + s.length ≤ 100000000) (hs : s ≠ []) :
    ∀ (u p : List Int), h = p ++ u → Ev (fun k => impl_answer.l0 k s (Lf (cv p s) (h.length + s.length - 1)) h (h.length : Int) (p.length : Int)) (Lf (cv h s) (h.length + s.length - 1))
  | [], p, hp => by
    have e : p = h := by rw [hp]; simp
    subst e
    refine Ev.step (f := fun _ => some _) (fun k => ?_) (Ev.now _)
    simp [impl_answer.l0]
  | w :: u, p, hp => by
    have hps : p.length + 1 ≤ h.length := by rw [hp]; simp
    have e1 : (p.length : Int) < (h.length : Int) := Int.ofNat_lt.2 hps
    have e2 : rd h (p.length : Int) = w := by rw [hp]; exact rd_mid p u w
    have e3 : wrap64 ((p.length : Int) + 1) = ((p ++ [w]).length : Int) := w64_suc p w (ar8 hps hN)
    have ih := impl_answer_l0 h s M hM hM1 hMM hb hN hs u (p ++ [w]) (by simp [hp])
    rw [← e3] at ih
    have hh := impl_answer_l1 h s M hM hM1 hMM hb hN hs p w u hp _ s [] rfl ih
    rw [cvi_nil] at hh
    refine Ev.step (fun k => ?_) hh
    simp only [impl_answer.l0, if_pos e1, if_pos (Int.natCast_nonneg _), e2]
    rfl
theorem impl_answer_ev (h s : List Int) (M : Int) (hM : 0 ≤ M) (hM1 : (h.length : Int) * M ≤ 4000000000000000000) (hMM : M ≤ 4000000000000000000) (hb : ∀ a ∈ h, ∀ x ∈ s, -M ≤ a * x ∧ a * x ≤ M) (hN : h.length + s.length ≤ 100000000) : Ev (fun k => impl_answer.f k h s) (conv h s) := by
  simp only [impl_answer.f, conv]
  by_cases c : s = []
  · subst c
    exact Ev.tt (by simp) (Ev.now _)
  · rw [if_neg c]
    have hs1 : 1 ≤ s.length := by
      cases s with
      | nil => exact absurd rfl c
      | cons a t => simp
    have e : wrap64 ((wrap64 ((h.length : Int) + (s.length : Int))) - 1) = ((h.length + s.length - 1 : Nat) : Int) := by
      rw [w64 (n := (h.length : Int) + (s.length : Int)) (by omega) (by omega), w64 (n := (h.length : Int) + (s.length : Int) - 1) (by omega) (by omega)]
      omega
    refine Ev.ff (by omega) ?_
    rw [e]
    refine Ev.tt (by omega) (Ev.tt (by omega) ?_)
    rw [Int.toNat_natCast]
    have e2 : List.replicate (h.length + s.length - 1) (0 : Int) = Lf (cv [] s) (h.length + s.length - 1) := by
      apply List.ext_getElem
      · simp [Lf]
      · intro n h1 h2
        simp [Lf, cv]
    rw [e2]
    exact impl_answer_l0 h s M hM hM1 hMM hb hN c h [] rfl

theorem spec_cbDrop_l0 (l : List Int) (rate first : Nat) (hr : 1 ≤ rate) (hr8 : rate ≤ 1000) (hl : l.length ≤ 100000000) : ∀ (d j : Nat), j + d = dropN l.length rate first → first + j * rate ≤ 1000000000 →
    Ev (fun k => spec_cbDrop.l0 k l (rate : Int) (Lf (fun j => l.getD (first + j * rate) 0) j) ((first + j * rate : Nat) : Int)) (dropM l rate first)
  | 0, j, hj, hb => by
    have hn : ¬ first + j * rate < l.length := fun h => by
      have := (dropN_lt (len := l.length) (first := first) hr).2 h
      omega
    have ej : j = dropN l.length rate first := hj
    refine Ev.to (Ev.step (f := fun _ => some _) (fun k => ?_) (Ev.now (Lf (fun j => l.getD (first + j * rate) 0) j))) (by rw [dropM, ← ej])
    simp only [spec_cbDrop.l0]
    rw [if_neg (fun h => hn (Int.ofNat_lt.1 h))]
  | d + 1, j, hj, hb => by
    have hlt : first + j * rate < l.length := (dropN_lt hr).1 (by omega)
    have e3 : wrap64 (((first + j * rate : Nat) : Int) + (rate : Int)) = ((first + (j + 1) * rate : Nat) : Int) := by
      rw [w64_nat _ _ (by omega), Nat.add_mul, Nat.one_mul, Nat.add_assoc]
    have hbd : first + (j + 1) * rate ≤ 1000000000 := by rw [Nat.add_mul]; omega
    refine Ev.step (fun k => ?_) (spec_cbDrop_l0 l rate first hr hr8 hl d (j + 1) (by omega) hbd)
    simp only [spec_cbDrop.l0]
    rw [if_pos (Int.ofNat_lt.2 hlt), if_pos (Int.natCast_nonneg _), Lf_length, if_pos (by have := dropN_le (len := l.length) (first := first) hr; omega), rd_getD, e3, Lf_succ]
theorem spec_cbDrop_ev (l : List Int) (rate first : Nat) (hr : 1 ≤ rate) (hr8 : rate ≤ 1000) (hl : l.length ≤ 100000000) (hf : first ≤ 1000000) : Ev (fun k => spec_cbDrop.f k l (rate : Int) (first : Int)) (dropM l rate first) := by
  have h := spec_cbDrop_l0 l rate first hr hr8 hl (dropN l.length rate first) 0 (by omega) (by omega)
  simpa [spec_cbDrop.f, Lf] using h

theorem impl_drop_l0 (l : List Int) (rate first : Nat) (hr : 1 ≤ rate) (hr8 : rate ≤ 1000) (hl : l.length ≤ 100000000) : ∀ (d j : Nat), j + d = dropN l.length rate first → first + j * rate ≤ 1000000000 →
    Ev (fun k => impl_drop.l0 k l (rate : Int) (Lf (fun j => l.getD (first + j * rate) 0) j) ((first + j * rate : Nat) : Int)) (dropM l rate first)
  | 0, j, hj, hb => by
    have hn : ¬ first + j * rate < l.length := fun h => by
      have := (dropN_lt (len := l.length) (first := first) hr).2 h
      omega
    have ej : j = dropN l.length rate first := hj
    refine Ev.to (Ev.step (f := fun _ => some _) (fun k => ?_) (Ev.now (Lf (fun j => l.getD (first + j * rate) 0) j))) (by rw [dropM, ← ej])
    simp only [impl_drop.l0]
    rw [if_neg (fun h => hn (Int.ofNat_lt.1 h))]
  | d + 1, j, hj, hb => by
    have hlt : first + j * rate < l.length := (dropN_lt hr).1 (by omega)
    have e3 : wrap64 (((first + j * rate : Nat) : Int) + (rate : Int)) = ((first + (j + 1) * rate : Nat) : Int) := by
      rw [w64_nat _ _ (by omega), Nat.add_mul, Nat.one_mul, Nat.add_assoc]
    have hbd : first + (j + 1) * rate ≤ 1000000000 := by rw [Nat.add_mul]; omega
    refine Ev.step (fun k => ?_) (impl_drop_l0 l rate first hr hr8 hl d (j + 1) (by omega) hbd)
    simp only [impl_drop.l0]
    rw [if_pos (Int.ofNat_lt.2 hlt), if_pos (Int.natCast_nonneg _), Lf_length, if_pos (by have := dropN_le (len := l.length) (first := first) hr; omega), rd_getD, e3, Lf_succ]
theorem impl_drop_ev (l : List Int) (rate first : Nat) (hr : 1 ≤ rate) (hr8 : rate ≤ 1000) (hl : l.length ≤ 100000000) (hf : first ≤ 1000000) : Ev (fun k => impl_drop.f k l (rate : Int) (first : Int)) (dropM l rate first) := by
  have h := impl_drop_l0 l rate first hr hr8 hl (dropN l.length rate first) 0 (by omega) (by omega)
  simpa [impl_drop.f, Lf] using h

theorem spec_cbStuff_l1 (l : List Int) (p : Nat) (hp : 1 ≤ p) (hp8 : p ≤ 1000) (O : List Int) (i : Int) (r : List Int) : ∀ (d j : Nat), j + d = p → 1 ≤ j → O.length + p ≤ 1000000000 →
    Ev (fun k => spec_cbStuff.l0 k (p : Int) (O ++ List.replicate (p - 1) 0) l (l.length : Int) (wrap64 (i + 1))) r → Ev (fun k => spec_cbStuff.l1 k (p : Int) (O ++ List.replicate (j - 1) 0) (j : Int) l (l.length : Int) i) r
  | 0, j, hj, h1, hO, hr => by
    have e : j = p := hj
    subst e
    refine Ev.step (fun k => ?_) hr
    simp [spec_cbStuff.l1]
  | d + 1, j, hj, h1, hO, hr => by
    have hlt : (j : Int) < (p : Int) := by omega
    have e3 : wrap64 ((j : Int) + 1) = ((j + 1 : Nat) : Int) := w64_nat j 1 (by omega)
    have e : List.replicate (j + 1 - 1) (0 : Int) = List.replicate (j - 1) 0 ++ [0] := by
      have : j + 1 - 1 = (j - 1) + 1 := by omega
      rw [this, List.replicate_succ']
    have ih := spec_cbStuff_l1 l p hp hp8 O i r d (j + 1) (by omega) (by omega) hO hr
    rw [e, ← List.append_assoc] at ih
    refine Ev.step (fun k => ?_) ih
    simp only [spec_cbStuff.l1]
    rw [if_pos hlt, if_pos (by simp; omega), e3]
theorem spec_cbStuff_l0 (l : List Int) (p : Nat) (hp : 1 ≤ p) (hp8 : p ≤ 1000) (hl : l.length ≤ 100000) : ∀ (t q : List Int), l = q ++ t → Ev (fun k => spec_cbStuff.l0 k (p : Int) (stuffM p q) l (l.length : Int) (q.length : Int)) (stuffM p l)
  | [], q, h => by
    have e : q = l := by rw [h]; simp
    subst e
    refine Ev.step (f := fun _ => some _) (fun k => ?_) (Ev.now _)
    simp [spec_cbStuff.l0]
  | x :: t, q, h => by
    have e1 : (q.length : Int) < (l.length : Int) := by rw [h]; exact lt_mid q t x
    have e2 : rd l (q.length : Int) = x := by rw [h]; exact rd_mid q t x
    have e3 : wrap64 ((q.length : Int) + 1) = ((q ++ [x]).length : Int) := w64_suc q x (by omega)
    have ih := spec_cbStuff_l0 l p hp hp8 hl t (q ++ [x]) (by simp [h])
    rw [stuffM_snoc, ← e3] at ih
    have hql : q.length ≤ 100000 := by have : q.length ≤ l.length := by rw [h]; simp
                                       omega
    have hqp : q.length * p ≤ 100000 * 1000 := Nat.mul_le_mul hql hp8
    have h1 := spec_cbStuff_l1 l p hp hp8 (stuffM p q ++ [x]) (q.length : Int) (stuffM p l) (p - 1) 1 (by omega) (by omega) (by rw [List.length_append, stuffM_length p hp]; simp; omega) (by simpa using ih)
    refine Ev.step (fun k => ?_) h1
    simp only [spec_cbStuff.l0]
    rw [if_pos e1, if_pos (Int.natCast_nonneg _), if_pos e1, if_pos (by rw [stuffM_length p hp]; omega), e2]
    simp
theorem spec_cbStuff_ev (l : List Int) (p : Nat) (hp : 1 ≤ p) (hp8 : p ≤ 1000) (hl : l.length ≤ 100000) : Ev (fun k => spec_cbStuff.f k l (p : Int)) (stuffM p l) := by
  have h := spec_cbStuff_l0 l p hp hp8 hl l [] rfl
  simpa [spec_cbStuff.f, stuffM] using h

theorem impl_stuff_l0 (l : List Int) (p : Nat) (hp : 1 ≤ p) (hp8 : p ≤ 1000) (hl : l.length ≤ 100000) : ∀ (t q : List Int), l = q ++ t → Ev (fun k => impl_stuff.l0 k (p : Int) (stuffM p q ++ List.replicate (t.length * p) 0) l (l.length : Int) (q.length : Int)) (stuffM p l)
  | [], q, h => by
    have e : q = l := by rw [h]; simp
    subst e
    refine Ev.step (f := fun _ => some _) (fun k => ?_) (Ev.now _)
    simp [impl_stuff.l0]
  | x :: t, q, h => by
    have e1 : (q.length : Int) < (l.length : Int) := by rw [h]; exact lt_mid q t x
    have e2 : rd l (q.length : Int) = x := by rw [h]; exact rd_mid q t x
    have e3 : wrap64 ((q.length : Int) + 1) = ((q ++ [x]).length : Int) := w64_suc q x (by omega)
    have hql : q.length ≤ 100000 := by have : q.length ≤ l.length := by rw [h]; simp
                                       omega
    have hqp : q.length * p ≤ 100000 * 1000 := Nat.mul_le_mul hql hp8
    have e4 : wrap64 ((q.length : Int) * (p : Int)) = ((q.length * p : Nat) : Int) := by
      rw [← Int.natCast_mul]
      exact w64 (by omega) (by omega)
    have e5 : List.replicate ((x :: t).length * p) (0 : Int) = 0 :: (List.replicate (p - 1) 0 ++ List.replicate (t.length * p) 0) := by
      have : (x :: t).length * p = ((p - 1) + t.length * p) + 1 := by
        rw [List.length_cons, Nat.add_mul]
        omega
      rw [this, List.replicate_succ, ← List.replicate_append_replicate]
    have e6 : (stuffM p q ++ (0 :: (List.replicate (p - 1) 0 ++ List.replicate (t.length * p) 0))).set (((q.length * p : Nat) : Int).toNat) x = stuffM p (q ++ [x]) ++ List.replicate (t.length * p) 0 := by
      rw [Int.toNat_natCast, ← stuffM_length p hp q, stuffM_snoc]
      simp
    refine Ev.step (fun k => ?_) (impl_stuff_l0 l p hp hp8 hl t (q ++ [x]) (by simp [h]))
    simp only [impl_stuff.l0, e4]
    rw [if_pos e1, if_pos (Int.natCast_nonneg _), if_pos e1, if_pos (Int.natCast_nonneg _), e5, if_pos, e2, e3, e6]
    exact Int.ofNat_lt.2 (by rw [List.length_append, stuffM_length p hp, List.length_cons]; omega)
theorem impl_stuff_ev (l : List Int) (p : Nat) (hp : 1 ≤ p) (hp8 : p ≤ 1000) (hl : l.length ≤ 100000) : Ev (fun k => impl_stuff.f k l (p : Int)) (stuffM p l) := by
  have h := impl_stuff_l0 l p hp hp8 hl l [] rfl
  have hlp : l.length * p ≤ 100000 * 1000 := Nat.mul_le_mul hl hp8
  have e4 : wrap64 ((l.length : Int) * (p : Int)) = ((l.length * p : Nat) : Int) := by
    rw [← Int.natCast_mul]
    exact w64 (by omega) (by omega)
  simp only [impl_stuff.f, e4]
  rw [Int.toNat_natCast]
  refine Ev.tt (Int.natCast_nonneg _) (Ev.tt (by omega) ?_)
  simpa [stuffM] using h

theorem impl_isRate_eq (n : Int) : impl_isRate.f n = some (decide (1 ≤ n) && decide (n ≤ 8)) := by
  unfold impl_isRate.f
  rw [impl_in_eq]
  rfl

def stuffZ (l : List Int) (p : Int) : List Int × Bool := if sig l = true ∧ 1 ≤ p ∧ p ≤ 8 then toldM (stuffM p.toNat l) else ([], false)
theorem impl_StuffZeros_ev (l : List Int) (p : Int) (hl : l.length ≤ 140737488351232) : Ev (fun k => impl_StuffZeros.f k l p) (stuffZ l p) := by
  simp only [impl_StuffZeros.f, stuffZ]
  refine Ev.bind (impl_isSignal_ev l hl) ?_
  by_cases c : sig l = true
  · refine Ev.tt c (Ev.dbind (impl_isRate_eq p) ?_)
    by_cases d : 1 ≤ p ∧ p ≤ 8
    · have hd : (decide (1 ≤ p) && decide (p ≤ 8)) = true := by simp [d.1, d.2]
      rw [if_pos ⟨c, d⟩, hd]
      obtain ⟨n, rfl⟩ : ∃ n : Nat, p = (n : Int) := ⟨p.toNat, by omega⟩
      have hs := sig_len c
      refine Ev.step (fun k => by simp only [impl_StuffZeros.j0]; rfl) (Ev.ff (by decide) (Ev.bind (impl_stuff_ev l n (by omega) (by omega) (by omega)) (Ev.bind (impl_told_ev _ ?_) (Ev.now _))))
      have : l.length * n ≤ 64 * 8 := Nat.mul_le_mul hs (by omega)
      rw [stuffM_length n (by omega)]
      omega
    · have hd : (decide (1 ≤ p) && decide (p ≤ 8)) = false := by simp; omega
      rw [if_neg (fun h => d h.2), hd]
      exact Ev.step (f := fun _ => some ([], false)) (fun k => by simp [impl_StuffZeros.j0]) (Ev.now _)
  · rw [if_neg (fun h => c h.1)]
    exact Ev.ff c (Ev.step (f := fun _ => some ([], false)) (fun k => by simp [impl_StuffZeros.j0]) (Ev.now _))

def direct (h l : List Int) (p q : Nat) : List Int := dropM ((conv h (stuffM p l)).take (stuffM p l).length) q 0
theorem wts_sig_bd {h l : List Int} (hh : wts h = true) (hl : ∀ x ∈ l, -100000 ≤ x ∧ x ≤ 100000) : ∀ a ∈ h, ∀ x ∈ l, -(100000000 : Int) ≤ a * x ∧ a * x ≤ 100000000 := by
  intro a ha x hx
  have h1 := wts_mem hh a ha
  have h2 := hl x hx
  have h3 : (a * x).natAbs ≤ 1000 * 100000 := by
    rw [Int.natAbs_mul]
    exact Nat.mul_le_mul (by omega) (by omega)
  omega
theorem conv_len_ge (h s : List Int) (hh : 1 ≤ h.length) : s.length ≤ (conv h s).length := by
  by_cases c : s = []
  · subst c; simp
  · rw [conv_length h s c]
    omega
theorem spec_rsDirect_ev (h l : List Int) (p q : Nat) (hh : wts h = true) (hl : sig l = true) (hp : 1 ≤ p ∧ p ≤ 8) (hq : 1 ≤ q ∧ q ≤ 8) : Ev (fun k => spec_rsDirect.f k h l (p : Int) (q : Int)) (direct h l p q) := by
  have hs := sig_len hl
  have hw := wts_len hh
  have hlp : l.length * p ≤ 64 * 8 := Nat.mul_le_mul hs hp.2
  have hsl := stuffM_length p hp.1 l
  simp only [spec_rsDirect.f, direct]
  refine Ev.bind (spec_cbStuff_ev l p hp.1 (by omega) (by omega)) (Ev.bind (spec_weAnswer_ev h (stuffM p l) 100000000 (by omega) (by omega) (by omega) (wts_sig_bd hh (stuffM_sig p l (sig_mem hl))) (by omega)) ?_)
  refine Ev.tt (Int.natCast_nonneg _) (Ev.tt (Int.ofNat_le.2 (conv_len_ge h _ hw.1)) ?_)
  rw [Int.toNat_natCast]
  exact Ev.bind (spec_cbDrop_ev _ q 0 hq.1 (by omega) (by simp; omega) (by omega)) (Ev.now _)

def upDown (h l : List Int) (p q : Int) : List Int × Bool := if rsOk h l p q = true then toldM (direct h l p.toNat q.toNat) else ([], false)
theorem rsOk_iff {h l : List Int} {p q : Int} : rsOk h l p q = true ↔ wts h = true ∧ sig l = true ∧ (1 ≤ p ∧ p ≤ 8) ∧ (1 ≤ q ∧ q ≤ 8) ∧ (l.length : Int) * p ≤ 64 := by
  simp only [rsOk, Bool.and_eq_true, ratio_iff, decide_eq_true_eq]
  constructor
  · rintro ⟨a, ⟨b, c, d⟩, e⟩
    exact ⟨a, b, c, d, e⟩
  · rintro ⟨a, b, c, d, e⟩
    exact ⟨a, ⟨b, c, d⟩, e⟩
theorem direct_len (h l : List Int) (p q : Nat) (hl : sig l = true) (hp : 1 ≤ p ∧ p ≤ 8) (hq : 1 ≤ q) : (direct h l p q).length ≤ 512 := by
  have hs := sig_len hl
  have hlp : l.length * p ≤ 64 * 8 := Nat.mul_le_mul hs hp.2
  have hsl := stuffM_length p hp.1 l
  rw [direct, dropM_length]
  have := dropN_le (len := ((conv h (stuffM p l)).take (stuffM p l).length).length) (first := 0) hq
  rw [List.length_take] at this ⊢
  omega

theorem spec_UpFilterDown_ev (h l : List Int) (p q : Int) (hh : h.length ≤ 140737488351232) (hl : l.length ≤ 140737488351232) : Ev (fun k => spec_UpFilterDown.f k h l p q) (upDown h l p q) := by
  simp only [spec_UpFilterDown.f, upDown]
  refine Ev.bind (spec_rsAsked_ev h l p q hh hl) ?_
  by_cases c : rsOk h l p q = true
  · rw [if_pos c]
    have d := rsOk_iff.1 c
    have hd := d
    obtain ⟨m, rfl⟩ : ∃ m : Nat, p = (m : Int) := ⟨p.toNat, by omega⟩
    obtain ⟨n, rfl⟩ : ∃ n : Nat, q = (n : Int) := ⟨q.toNat, by omega⟩
    have h1 := spec_rsDirect_ev h l m n hd.1 hd.2.1 (by omega) (by omega)
    have := direct_len h l m n hd.2.1 (by omega) (by omega)
    refine Ev.tt c (Ev.bind h1 (Ev.bind (spec_wdIf_ev _ (by omega)) (Ev.now _)))
  · rw [if_neg c]
    exact Ev.ff c (Ev.now _)

theorem spec_DownFilter_ev (h l : List Int) (q : Int) (hh : h.length ≤ 140737488351232) (hl : l.length ≤ 140737488351232) : Ev (fun k => spec_DownFilter.f k h l q) (upDown h l 1 q) := by
  simp only [spec_DownFilter.f, upDown]
  refine Ev.bind (spec_rsAsked_ev h l 1 q hh hl) ?_
  by_cases c : rsOk h l 1 q = true
  · rw [if_pos c]
    have d := rsOk_iff.1 c
    have hd := d
    obtain ⟨n, rfl⟩ : ∃ n : Nat, q = (n : Int) := ⟨q.toNat, by omega⟩
    have h1 := spec_rsDirect_ev h l 1 n hd.1 hd.2.1 (by omega) (by omega)
    have := direct_len h l 1 n hd.2.1 (by omega) (by omega)
    refine Ev.tt c (Ev.bind h1 (Ev.bind (spec_wdIf_ev _ (by omega)) (Ev.now _)))
  · rw [if_neg c]
    exact Ev.ff c (Ev.now _)

theorem spec_UpFilter_ev (h l : List Int) (p : Int) (hh : h.length ≤ 140737488351232) (hl : l.length ≤ 140737488351232) : Ev (fun k => spec_UpFilter.f k h l p) (upDown h l p 1) := by
  simp only [spec_UpFilter.f, upDown]
  refine Ev.bind (spec_rsAsked_ev h l p 1 hh hl) ?_
  by_cases c : rsOk h l p 1 = true
  · rw [if_pos c]
    have d := rsOk_iff.1 c
    have hd := d
    obtain ⟨m, rfl⟩ : ∃ m : Nat, p = (m : Int) := ⟨p.toNat, by omega⟩
    have h1 := spec_rsDirect_ev h l m 1 hd.1 hd.2.1 (by omega) (by omega)
    have := direct_len h l m 1 hd.2.1 (by omega) (by omega)
    refine Ev.tt c (Ev.bind h1 (Ev.bind (spec_wdIf_ev _ (by omega)) (Ev.now _)))
  · rw [if_neg c]
    exact Ev.ff c (Ev.now _)

theorem impl_UpFilterDown_ev (h l : List Int) (p q : Int) (hh : h.length ≤ 140737488351232) (hl : l.length ≤ 140737488351232) : Ev (fun k => impl_UpFilterDown.f k h l p q) (upDown h l p q) := by
  simp only [impl_UpFilterDown.f, upDown]
  refine Ev.bind (impl_isWeights_ev h hh) ?_
  by_cases c : wts h = true
  · refine Ev.tt c (Ev.dbind (impl_isRatio_eq p q) ?_)
    by_cases d : ratio p q = true
    · rw [d]
      refine Ev.step (fun k => by simp only [impl_UpFilterDown.j0]; rfl) (Ev.ff (by decide) (Ev.bind (impl_StuffZeros_ev l p hl) ?_))
      have d' := ratio_iff.1 d
      obtain ⟨m, rfl⟩ : ∃ m : Nat, p = (m : Int) := ⟨p.toNat, by omega⟩
      obtain ⟨n, rfl⟩ : ∃ n : Nat, q = (n : Int) := ⟨q.toNat, by omega⟩
      have hsl := stuffM_length m (by omega) l
      by_cases e : sig l = true
      · have hs := sig_len e
        have hlp : l.length * m ≤ 64 * 8 := Nat.mul_le_mul hs (by omega)
        have e1 : stuffZ l (m : Int) = toldM (stuffM m l) := by rw [stuffZ, if_pos ⟨e, d'.1⟩, Int.toNat_natCast]
        rw [e1]
        by_cases g : (l.length : Int) * (m : Int) ≤ 64
        · have g' : l.length * m ≤ 64 := by
            rw [← Int.natCast_mul] at g
            omega
          have hsm : sig (stuffM m l) = true := sig_iff.2 ⟨by omega, stuffM_sig m l (sig_mem e)⟩
          have e2 : toldM (stuffM m l) = (stuffM m l, true) := by rw [toldM, if_pos hsm]
          have hw := wts_len c
          rw [e2, if_pos (rsOk_iff.2 ⟨c, e, d'.1, d'.2, g⟩)]
          refine Ev.tt rfl (Ev.bind (impl_answer_ev h (stuffM m l) 100000000 (by omega) (by omega) (by omega) (wts_sig_bd c (stuffM_sig m l (sig_mem e))) (by omega)) ?_)
          refine Ev.tt (Int.natCast_nonneg _) (Ev.tt (Int.ofNat_le.2 (conv_len_ge h _ hw.1)) ?_)
          rw [Int.toNat_natCast]
          refine Ev.bind (impl_drop_ev _ n 0 (by omega) (by omega) (by simp; omega) (by omega)) (Ev.bind (impl_told_ev _ ?_) (Ev.now _))
          have := direct_len h l m n e (by omega) (by omega)
          show (dropM (List.take (stuffM m l).length (conv h (stuffM m l))) n 0).length ≤ _
          rw [direct] at this
          omega
        · have g' : ¬ l.length * m ≤ 64 := by
            rw [← Int.natCast_mul] at g
            omega
          have e2 : toldM (stuffM m l) = ([], false) := by rw [toldM, if_neg (fun h => g' (by have := (sig_iff.1 h).1; omega))]
          rw [e2, if_neg (fun h => g (rsOk_iff.1 h).2.2.2.2)]
          exact Ev.ff (by decide) (Ev.now _)
      · have e1 : stuffZ l (m : Int) = ([], false) := by rw [stuffZ, if_neg (fun h => e h.1)]
        rw [e1, if_neg (fun h => e (rsOk_iff.1 h).2.1)]
        exact Ev.ff (by decide) (Ev.now _)
    · rw [if_neg (fun h => d (ratio_iff.2 ⟨(rsOk_iff.1 h).2.2.1, (rsOk_iff.1 h).2.2.2.1⟩)), Bool.eq_false_iff.mpr d]
      exact Ev.step (f := fun _ => some ([], false)) (fun k => by simp [impl_UpFilterDown.j0]) (Ev.now _)
  · rw [if_neg (fun h => c (rsOk_iff.1 h).1)]
    exact Ev.ff c (Ev.step (f := fun _ => some ([], false)) (fun k => by simp [impl_UpFilterDown.j0]) (Ev.now _))
theorem upDown_len (h l : List Int) (p q : Int) : (upDown h l p q).1.length ≤ 64 := by
  unfold upDown
  split
  · exact toldM_len _
  · simp

theorem UpFilterDown_agree (h l : List Int) (p q : Int) (hh : h.length ≤ 1048576) (hl : l.length ≤ 1048576) : ∃ r, Ev (fun k => spec_UpFilterDown.f k h l p q) r ∧ Ev (fun k => impl_UpFilterDown.f k h l p q) r ∧ r.1.length ≤ 1000000 :=
  ⟨_, spec_UpFilterDown_ev h l p q (by omega) (by omega), impl_UpFilterDown_ev h l p q (by omega) (by omega), by have := upDown_len h l p q; omega⟩

theorem DownFilter_agree (h l : List Int) (q : Int) (hh : h.length ≤ 1048576) (hl : l.length ≤ 1048576) : ∃ r, Ev (fun k => spec_DownFilter.f k h l q) r ∧ Ev (fun k => impl_DownFilter.f k h l q) r ∧ r.1.length ≤ 1000000 :=
  ⟨_, spec_DownFilter_ev h l q (by omega) (by omega), by simp only [impl_DownFilter.f]; exact Ev.bind (impl_UpFilterDown_ev h l 1 q (by omega) (by omega)) (Ev.now _), by have := upDown_len h l 1 q; omega⟩

theorem UpFilter_agree (h l : List Int) (p : Int) (hh : h.length ≤ 1048576) (hl : l.length ≤ 1048576) : ∃ r, Ev (fun k => spec_UpFilter.f k h l p) r ∧ Ev (fun k => impl_UpFilter.f k h l p) r ∧ r.1.length ≤ 1000000 :=
  ⟨_, spec_UpFilter_ev h l p (by omega) (by omega), by simp only [impl_UpFilter.f]; exact Ev.bind (impl_UpFilterDown_ev h l p 1 (by omega) (by omega)) (Ev.now _), by have := upDown_len h l p 1; omega⟩

/-- What a cursor gives: a value with P, and at most c steps further. -/
def Dr {α : Type} (P : α → Prop) (c : Int) (a : Int) (g : Option (α × Int × Int)) : Prop := ∃ v a' sd, g = some (v, a', sd) ∧ a ≤ a' ∧ a' ≤ a + c ∧ P v
theorem u64_bd (n : Int) : 0 ≤ IntKind.u64.wrap n ∧ IntKind.u64.wrap n < 18446744073709551616 := by
  simp only [IntKind.wrap, IntKind.bits, IntKind.signed]
  simp
  omega
theorem u64_and255 (x : Int) (h0 : 0 ≤ x) (h1 : x < 18446744073709551616) : Go.bits .and .u64 x 255 = x % 256 :=
  bits_mask .u64 64 (by decide) (fun n h0 h1 => by
    simp only [IntKind.wrap, IntKind.bits, IntKind.signed]
    simp
    omega) 8 (by decide) x h0 h1
def Bytes (l : List Int) : Prop := l.length ≤ 1048576 ∧ ∀ x ∈ l, 0 ≤ x ∧ x ≤ 255
theorem next_ok {l : List Int} (hl : Bytes l) (a sd : Int) (h0 : 0 ≤ a) (h1 : a ≤ 1000000000000000) : Dr (fun v => 0 ≤ v ∧ v ≤ 255) 1 a (spec_l1Cur_next.f l a sd) := by
  have hw : wrap64 (a + 1) = a + 1 := w64 (by omega) (by omega)
  have hm : ∀ y : Int, 0 ≤ wrap64 (Go.bits .and .u64 (IntKind.u64.wrap y / 1099511627776) 255) ∧ wrap64 (Go.bits .and .u64 (IntKind.u64.wrap y / 1099511627776) 255) ≤ 255 := by
    intro y
    have hy := u64_bd y
    rw [u64_and255 _ (by omega) (by omega), w64 (n := IntKind.u64.wrap y / 1099511627776 % 256) (by omega) (by omega)]
    omega
  unfold spec_l1Cur_next.f
  by_cases c : a < (l.length : Int)
  · have hr : 0 ≤ rd l a ∧ rd l a ≤ 255 := by
      obtain ⟨n, rfl⟩ : ∃ n : Nat, a = (n : Int) := ⟨a.toNat, by omega⟩
      have hn : n < l.length := by omega
      rw [rd_getD, List.getD_eq_getElem?_getD, List.getElem?_eq_getElem hn]
      exact hl.2 _ (List.getElem_mem hn)
    rw [if_pos c, if_pos h0, hw, if_pos (by omega), w64 (n := rd l a) (by omega) (by omega)]
    exact ⟨_, _, _, rfl, by omega, by omega, hr⟩
  · rw [if_neg c, hw]
    by_cases d : a + 1 ≤ (l.length : Int)
    · omega
    · rw [if_neg d]
      exact ⟨_, _, _, rfl, by omega, by omega, hm _⟩

theorem pick_ok {l : List Int} (hl : Bytes l) (a sd n : Int) (h0 : 0 ≤ a) (h1 : a ≤ 100000000000000) (hn : n ≤ 1000000) : Dr (fun v => 0 ≤ v ∧ (v < n ∨ v = 0)) 2 a (spec_l1Cur_pick.f l a sd n) := by
  unfold spec_l1Cur_pick.f
  by_cases c : n ≤ 1
  · rw [if_pos c]
    exact ⟨_, _, _, rfl, by omega, by omega, by omega, .inr rfl⟩
  · rw [if_neg c]
    obtain ⟨v, a', sd', e, ha, hb, hv⟩ := next_ok hl a sd h0 (by omega)
    rw [e]
    simp only [Option.bind_some]
    have hn0 : ¬ n = 0 := by omega
    by_cases d : n > 200
    · rw [if_pos d]
      obtain ⟨v2, a2, sd2, e2, ha2, hb2, hv2⟩ := next_ok hl a' sd' (by omega) (by omega)
      rw [e2]
      simp only [Option.bind_some]
      rw [if_neg hn0, w64 (n := v * 256) (by omega) (by omega), w64 (n := v * 256 + v2) (by omega) (by omega), Int.tmod_eq_emod_of_nonneg (by omega)]
      have := Int.emod_nonneg (v * 256 + v2) hn0
      have := Int.emod_lt_of_pos (v * 256 + v2) (show 0 < n by omega)
      exact ⟨_, _, _, rfl, by omega, by omega, by omega, .inl (by omega)⟩
    · rw [if_neg d, if_neg hn0, Int.tmod_eq_emod_of_nonneg (by omega)]
      have := Int.emod_nonneg v hn0
      have := Int.emod_lt_of_pos v (show 0 < n by omega)
      exact ⟨_, _, _, rfl, by omega, by omega, by omega, .inl (by omega)⟩

theorem among_ok {l : List Int} (hl : Bytes l) (a sd : Int) (m : List Int) (h0 : 0 ≤ a) (h1 : a ≤ 100000000000000) (hm : 1 ≤ m.length) (hm2 : m.length ≤ 1000) : Dr (fun v => v ∈ m) 2 a (spec_l1Cur_among.f l a sd m) := by
  unfold spec_l1Cur_among.f
  obtain ⟨v, a', sd', e, ha, hb, hv, hv2⟩ := pick_ok hl a sd (m.length : Int) h0 h1 (by omega)
  rw [e]
  simp only [Option.bind_some]
  rw [if_pos hv, if_pos (by omega)]
  refine ⟨_, _, _, rfl, ha, hb, ?_⟩
  obtain ⟨n, rfl⟩ : ∃ n : Nat, v = (n : Int) := ⟨v.toNat, by omega⟩
  have hn : n < m.length := by omega
  rw [rd_getD, List.getD_eq_getElem?_getD, List.getElem?_eq_getElem hn]
  exact List.getElem_mem hn

theorem one_ok {l : List Int} (hl : Bytes l) (a sd n : Int) (h0 : 0 ≤ a) (h1 : a ≤ 100000000000000) (hn : n ≤ 1000000) : Dr (fun _ => True) 2 a (spec_l1Cur_one.f l a sd n) := by
  unfold spec_l1Cur_one.f
  obtain ⟨v, a', sd', e, ha, hb, hv, hv2⟩ := pick_ok hl a sd n h0 h1 hn
  rw [e]
  simp only [Option.bind_some]
  exact ⟨_, _, _, rfl, ha, hb, trivial⟩

theorem laws_big_eq (l m : List Int) (hl : l.length ≤ 140737488355328) (hm : m.length ≤ 140737488355328) : laws_big.f l m = some (decide (1048576 < l.length + m.length)) := by
  unfold laws_big.f
  by_cases c : (l.length : Int) > 1048576
  · rw [if_pos c]
    simp; omega
  · rw [if_neg c, w64 (n := 1048576 - (l.length : Int)) (by omega) (by omega)]
    simp; omega
theorem bytes_of {l : List Int} (h : l.length ≤ 1048576) (hx : ∀ x ∈ l, (Lit.int .u8 x).wf = true) : Bytes l := by
  refine ⟨h, fun x hxl => ?_⟩
  have := hx x hxl
  simp [Lit.wf, IntKind.min, IntKind.max, IntKind.signed, IntKind.bits] at this
  omega

/-- A number shifted: down, to the nearest one, towards 0. -/
def shM (x b mode : Int) : Int := if mode = 1 ∧ b ≤ 2 * (x % b) ∧ 0 < x % b then x / b + 1 else if mode = 2 ∧ x < 0 ∧ 0 < x % b then x / b + 1 else x / b
theorem div_uniq {x b q r : Int} (h : x = q * b + r) (h0 : 0 ≤ r) (h1 : r < b) : x / b = q := by
  have hb : 0 < b := by omega
  exact ((Int.ediv_emod_unique hb).2 ⟨by rw [h, Int.mul_comm]; omega, h0, h1⟩).1
theorem pow2_pos (s : Nat) : (0 : Int) < 2 ^ s := Int.pow_pos (by decide)
theorem pow2_le {s : Nat} (h : s ≤ 20) : (2 : Int) ^ s ≤ 1048576 := by
  have h1 : (2 : Nat) ^ s ≤ 2 ^ 20 := Nat.pow_le_pow_right (by decide) h
  have h3 : (2 : Int) ^ s = (((2 : Nat) ^ s : Nat) : Int) := by simp
  rw [h3]
  have h2 : (2 : Nat) ^ 20 = 1048576 := by decide
  omega
theorem shl_one {s : Nat} (h : s ≤ 20) : shl .i64 1 (s : Int) = 2 ^ s := by
  unfold shl
  have h1 : min ((s : Int)).toNat IntKind.i64.bits = s := by
    simp [IntKind.bits]; omega
  rw [h1, Int.one_mul, IntKind.wrap_i64]
  have := pow2_pos s
  have := pow2_le h
  omega
theorem shl_mul {s : Nat} (h : s ≤ 20) (y : Int) (h1 : -9223372036854775808 ≤ y * 2 ^ s) (h2 : y * 2 ^ s ≤ 9223372036854775807) : shl .i64 y (s : Int) = y * 2 ^ s := by
  unfold shl
  have e : min ((s : Int)).toNat IntKind.i64.bits = s := by
    simp [IntKind.bits]; omega
  rw [e, IntKind.wrap_i64]
  omega
theorem shr_div {s : Nat} (h : s ≤ 20) (y : Int) : shr .i64 y (s : Int) = y / 2 ^ s := by
  unfold shr
  have e : min ((s : Int)).toNat IntKind.i64.bits = s := by
    simp [IntKind.bits]; omega
  rw [e]
theorem mod_eq (x b : Int) : x = (x / b) * b + x % b := by
  have := Int.emod_add_mul_ediv x b
  rw [Int.mul_comm] at this
  omega

theorem spec_wdShift_ev (x : Int) (s : Nat) (mode : Int) (hs : s ≤ 20) (hx : -4611686018427387904 ≤ x ∧ x ≤ 4611686018427387904) : Ev (fun k => spec_wdShift.f k x (s : Int) mode) (shM x (2 ^ s) mode) := by
  have hb := pow2_pos s
  have hb2 := pow2_le hs
  have hr0 := Int.emod_nonneg x (show (2 : Int) ^ s ≠ 0 by omega)
  have hr1 := Int.emod_lt_of_pos x hb
  have hd := mod_eq x (2 ^ s)
  have hq : -4611686018427387905 ≤ x / 2 ^ s ∧ x / 2 ^ s ≤ 4611686018427387905 := ediv_bd hb hx
  have key : ∀ d : Int, d = x / 2 ^ s → Ev (fun k => spec_wdShift.j0 k x mode (2 ^ s) d) (shM x (2 ^ s) mode) := by
    intro d e
    subst e
    have e1 : wrap64 (x / 2 ^ s * 2 ^ s) = x / 2 ^ s * 2 ^ s := w64 (by omega) (by omega)
    have e2 : wrap64 (x - x / 2 ^ s * 2 ^ s) = x % 2 ^ s := by
      rw [w64 (n := x - x / 2 ^ s * 2 ^ s) (by omega) (by omega)]
      omega
    have e3 : wrap64 (2 * (x % 2 ^ s)) = 2 * (x % 2 ^ s) := w64 (by omega) (by omega)
    have e4 : wrap64 (x / 2 ^ s + 1) = x / 2 ^ s + 1 := w64 (by omega) (by omega)
    have j1 : ∀ f : Bool, (f = true ↔ mode = 1 ∧ 2 ^ s ≤ 2 * (x % 2 ^ s) ∧ 0 < x % 2 ^ s) → Ev (fun k => spec_wdShift.j1 k x mode (x / 2 ^ s) (x % 2 ^ s) f) (shM x (2 ^ s) mode) := by
      intro f hf
      refine Ev.step (f := fun _ => some (shM x (2 ^ s) mode)) (fun k => ?_) (Ev.now _)
      simp only [spec_wdShift.j1, e4]
      unfold shM
      by_cases g : f = true
      · rw [if_pos g, if_pos (hf.1 g)]
      · rw [if_neg g, if_neg (fun h => g (hf.2 h))]
        by_cases m2 : mode = 2
        · rw [if_pos m2]
          by_cases x0 : x < 0
          · rw [if_pos x0]
            by_cases r0 : x % 2 ^ s > 0
            · rw [if_pos r0, if_pos ⟨m2, x0, r0⟩]
            · rw [if_neg r0, if_neg (fun h => r0 h.2.2)]
          · rw [if_neg x0, if_neg (fun h => x0 h.2.1)]
        · rw [if_neg m2, if_neg (fun h => m2 h.1)]
    by_cases m1 : mode = 1
    · by_cases g : 2 * (x % 2 ^ s) ≥ 2 ^ s
      · refine Ev.step (fun k => ?_) (j1 (decide (x % 2 ^ s > 0)) (by simp only [decide_eq_true_eq]; exact ⟨fun h => ⟨m1, g, h⟩, fun h => h.2.2⟩))
        simp only [spec_wdShift.j0, e1, e2, e3, if_pos m1, if_pos g]
      · refine Ev.step (fun k => ?_) (j1 false (by simp; intro _ h; omega))
        simp only [spec_wdShift.j0, e1, e2, e3, if_pos m1, if_neg g]
    · refine Ev.step (fun k => ?_) (j1 false (by simp; intro h; exact absurd h m1))
      simp only [spec_wdShift.j0, e1, e2, e3, if_neg m1]
  simp only [spec_wdShift.f, shl_one hs]
  refine Ev.tt (Int.natCast_nonneg _) (Ev.ff (by omega) ?_)
  by_cases g : Int.tmod x (2 ^ s) < 0
  · refine Ev.tt g (key _ ?_)
    have hx0 : x < 0 := by
      apply Int.not_le.1
      intro h
      have := Int.tmod_nonneg (2 ^ s) h
      omega
    have e := Int.tdiv_eq_ediv (a := x) (b := 2 ^ s)
    have e0 : ¬ (0 ≤ x ∨ (2 : Int) ^ s ∣ x) := by
      rintro (h | h)
      · omega
      · rw [Int.tmod_eq_zero_of_dvd h] at g
        omega
    rw [if_neg e0, Int.sign_eq_one_of_pos hb] at e
    rw [e, w64 (n := x / 2 ^ s + 1) (by omega) (by omega), w64 (n := x / 2 ^ s + 1 - 1) (by omega) (by omega)]
    omega
  · refine Ev.ff g (key _ ?_)
    have e := Int.tdiv_eq_ediv (a := x) (b := 2 ^ s)
    have e0 : 0 ≤ x ∨ (2 : Int) ^ s ∣ x := by
      by_cases h : 0 ≤ x
      · exact .inl h
      · right
        have h2 : Int.tmod x (2 ^ s) ≤ 0 := by
          have := Int.tmod_nonneg (2 ^ s) (show 0 ≤ -x by omega)
          rw [Int.neg_tmod] at this
          omega
        exact Int.dvd_of_tmod_eq_zero (by omega)
    rw [if_pos e0] at e
    rw [e, w64 (n := x / 2 ^ s + 0) (by omega) (by omega)]
    omega

def numOk (x : Int) : Bool := decide (-1000000000000 ≤ x) && decide (x ≤ 1000000000000)
def modeOk (s mode : Int) : Bool := (decide (0 ≤ s) && decide (s ≤ 20)) && (decide (0 ≤ mode) && decide (mode ≤ 2))
theorem numOk_iff {x : Int} : numOk x = true ↔ -1000000000000 ≤ x ∧ x ≤ 1000000000000 := by simp [numOk]
theorem modeOk_iff {s m : Int} : modeOk s m = true ↔ (0 ≤ s ∧ s ≤ 20) ∧ (0 ≤ m ∧ m ≤ 2) := by simp [modeOk]

def phS (s : List Int) : List Int → Int → Int
  | [], _ => 0
  | x :: t, i => x * atM s i + phS s t (i - 1)
def phL (h : List Int) (p : Nat) : List (List Int) := (List.range p).map (dropM h p)
def phOut (h s : List Int) (p q i : Nat) : Int := phS s (dropM h p (i * q % p)) ((i * q / p : Nat) : Int)
def byPh (h s : List Int) (p q : Nat) : List Int := Lf (phOut h s p q) (dropN (s.length * p) q 0)
theorem phS_neg (s : List Int) : ∀ (t : List Int) (i : Int), i < 0 → phS s t i = 0
  | [], _, _ => rfl
  | x :: t, i, h => by
    rw [phS, atM, if_neg (by omega), phS_neg s t (i - 1) (by omega)]
    simp
theorem nat_eq_lt {a b : Nat} (h : ∀ j, j < a ↔ j < b) : a = b := by
  have h1 := h a
  have h2 := h b
  omega
theorem dropM_snoc (l : List Int) (x : Int) (p k : Nat) (hk : k < p) : dropM (l ++ [x]) p k = if l.length % p = k then dropM l p k ++ [x] else dropM l p k := by
  have hp : 0 < p := by omega
  have hg : ∀ n, n < l.length → (l ++ [x]).getD n 0 = l.getD n 0 := by
    intro n hn
    simp [List.getD_eq_getElem?_getD, List.getElem?_append_left hn]
  by_cases c : l.length % p = k
  · rw [if_pos c]
    have hm := Nat.mod_add_div l.length p
    rw [c, Nat.mul_comm] at hm
    have e1 : dropN l.length p k = l.length / p := by
      apply nat_eq_lt
      intro j
      have := (Nat.mul_lt_mul_right hp : j * p < l.length / p * p ↔ j < l.length / p)
      rw [dropN_lt (by omega)]
      omega
    have e2 : dropN (l ++ [x]).length p k = l.length / p + 1 := by
      apply nat_eq_lt
      intro j
      have := (Nat.mul_le_mul_right_iff hp : j * p ≤ l.length / p * p ↔ j ≤ l.length / p)
      have e : (l ++ [x]).length = l.length + 1 := by simp
      rw [dropN_lt (by omega), Nat.lt_add_one_iff, e]
      omega
    rw [dropM, dropM, e1, e2, Lf_succ]
    congr 1
    · apply Lf_congr
      intro j hj
      apply hg
      have := (Nat.mul_lt_mul_right hp).2 hj
      omega
    · rw [hm, getD_mid]
  · rw [if_neg c]
    have e : dropN (l ++ [x]).length p k = dropN l.length p k := by
      apply nat_eq_lt
      intro j
      rw [dropN_lt (by omega), dropN_lt (by omega)]
      have : k + j * p ≠ l.length := by
        intro h
        apply c
        rw [← h, Nat.add_mul_mod_self_right, Nat.mod_eq_of_lt hk]
      simp
      omega
    rw [dropM, dropM, e]
    apply Lf_congr
    intro j hj
    apply hg
    exact (dropN_lt (by omega)).1 hj
theorem phL_length (h : List Int) (p : Nat) : (phL h p).length = p := by simp [phL]
theorem rd_phL (h : List Int) (p j : Nat) (hj : j < p) : rd_L2 (phL h p) (j : Int) = dropM h p j := by
  simp [rd_L2, phL, hj]
theorem phL_snoc (l : List Int) (x : Int) (p : Nat) (hp : 0 < p) : (phL l p).set (l.length % p) (dropM l p (l.length % p) ++ [x]) = phL (l ++ [x]) p := by
  apply List.ext_getElem
  · simp [phL]
  · intro n h1 h2
    have hn : n < p := by simpa [phL] using h2
    simp only [List.getElem_set, phL, List.getElem_map, List.getElem_range]
    rw [dropM_snoc l x p n hn]
    by_cases c : l.length % p = n
    · rw [if_pos c, if_pos c, c]
    · rw [if_neg c, if_neg c]
theorem phL_nil (p : Nat) (hp : 0 < p) : List.replicate p ([] : List Int) = phL [] p := by
  apply List.ext_getElem
  · simp [phL]
  · intro n h1 h2
    simp only [List.getElem_replicate, phL, List.getElem_map, List.getElem_range]
    have : dropN 0 p n = 0 := by
      unfold dropN
      rw [Nat.zero_sub, Nat.zero_add]
      exact Nat.div_eq_of_lt (by omega)
    simp [dropM, this, Lf]
theorem dropM_bd {l : List Int} {M : Int} (hM : 0 ≤ M) (h : ∀ x ∈ l, -M ≤ x ∧ x ≤ M) (p k : Nat) : ∀ x ∈ dropM l p k, -M ≤ x ∧ x ≤ M := by
  intro x hx
  simp only [dropM, Lf, List.mem_map] at hx
  obtain ⟨j, _, rfl⟩ := hx
  exact getD_all hM h _
theorem prod_bd {a x : Int} (ha : -1000 ≤ a ∧ a ≤ 1000) (hx : -100000 ≤ x ∧ x ≤ 100000) : -100000000 ≤ a * x ∧ a * x ≤ 100000000 := by
  have h1 : (a.natAbs * x.natAbs : Nat) ≤ 1000 * 100000 := Nat.mul_le_mul (by omega) (by omega)
  have h2 := Int.natAbs_mul a x
  omega
theorem byPh_len (h s : List Int) (p q : Nat) (hs : s.length * p ≤ 64) (hq : 1 ≤ q) : (byPh h s p q).length ≤ 64 := by
  rw [byPh, Lf_length]
  have := dropN_le (len := s.length * p) (rate := q) (first := 0) hq
  omega

theorem spec_rsPhases_l0 (h : List Int) (p : Nat) (hp : 0 < p) (hl : h.length ≤ 100000) : ∀ (t q : List Int), h = q ++ t → Ev (fun k => spec_rsPhases.l0 k (p : Int) (phL q p) h (h.length : Int) (q.length : Int)) (phL h p)
  | [], q, e => by
    have e' : h = q := by simpa using e
    subst e'
    refine Ev.step (f := fun _ => some (phL h p)) (fun k => ?_) (Ev.now _)
    simp only [spec_rsPhases.l0]
    rw [if_neg (by omega)]
  | x :: t, q, e => by
    subst e
    have hq : q.length ≤ 100000 := by simp at hl; omega
    have hm := Nat.mod_lt q.length hp
    have hd := dropN_le (len := q.length) (rate := p) (first := q.length % p) hp
    refine Ev.step (fun k => ?_) (spec_rsPhases_l0 (q ++ x :: t) p hp hl t (q ++ [x]) (by simp))
    simp only [spec_rsPhases.l0]
    rw [if_pos (lt_mid q t x), if_pos (Int.natCast_nonneg _), if_pos (lt_mid q t x), if_neg (by omega), tm, if_pos (Int.natCast_nonneg _), phL_length, if_pos (Int.ofNat_lt.2 hm), rd_phL _ _ _ hm, dropM_length, if_pos (by omega), Int.toNat_natCast, rd_mid, phL_snoc _ _ _ hp, w64_suc q x (by omega)]
theorem spec_rsPhases_ev (h : List Int) (p : Nat) (hp : 0 < p) (hp8 : p ≤ 1000) (hl : h.length ≤ 100000) : Ev (fun k => spec_rsPhases.f k h (p : Int)) (phL h p) := by
  simp only [spec_rsPhases.f, Int.toNat_natCast]
  refine Ev.tt (Int.natCast_nonneg _) (Ev.tt (by omega) ?_)
  rw [phL_nil p hp]
  exact spec_rsPhases_l0 h p hp hl h [] rfl

theorem spec_rsLength_eq (n p q : Nat) (hq : 1 ≤ q) (hq8 : q ≤ 8) (hn : n * p ≤ 64) : spec_rsLength.f (n : Int) (p : Int) (q : Int) = some ((dropN (n * p) q 0 : Nat) : Int) := by
  unfold spec_rsLength.f
  rw [if_neg (by omega), ← Int.natCast_mul, w64n (a := n * p) (by omega), ← Int.natCast_add, w64n (a := n * p + q) (by omega)]
  have e : ((n * p + q : Nat) : Int) - 1 = ((n * p + q - 1 : Nat) : Int) := by omega
  have hdv : (n * p + q - 1) / q ≤ n * p + q - 1 := Nat.div_le_self _ _
  rw [e, w64n (a := n * p + q - 1) (by omega), td, w64n (by omega), dropN, Nat.sub_zero]

theorem spec_rsByPhases_l1 (s : List Int) (hs : s.length ≤ 64) (hsb : ∀ x ∈ s, -100000 ≤ x ∧ x ≤ 100000) (p q : Int) (P : List (List Int)) (out : List Int) (hout : out.length ≤ 1000000) (i : Int) (src : Nat) (hsrc : src < s.length) (O F : List Int) (hF : F.length ≤ 9) (hFb : ∀ x ∈ F, -1000 ≤ x ∧ x ≤ 1000) :
    ∀ (t r : List Int), F = r ++ t → ∀ (sum c : Int), -(r.length * 100000000) ≤ sum → sum ≤ r.length * 100000000 →
    (∀ c, ∃ c', Ev (fun k => spec_rsByPhases.l0 k s p q P (out ++ [sum + phS s t ((src : Int) - r.length)]) c (wrap64 (i + 1))) (O, c')) →
    ∃ c', Ev (fun k => spec_rsByPhases.l1 k s p q P out c i (src : Int) sum F (F.length : Int) (r.length : Int)) (O, c') := by
  intro t
  induction t with
  | nil =>
    intro r e sum c _ _ hr
    have e' : F = r := by simpa using e
    subst e'
    obtain ⟨c', h⟩ := hr c
    refine ⟨c', Ev.step (fun k => ?_) h⟩
    simp only [spec_rsByPhases.l1]
    rw [if_neg (by omega), if_pos (by omega), phS, Int.add_zero]
  | cons x t ih =>
    intro r e sum c h0 h1 hr
    subst e
    have hrl : r.length + 1 ≤ 9 := by simp at hF; omega
    have hx := hFb x (by simp)
    by_cases g : r.length > src
    · obtain ⟨c', h⟩ := hr c
      rw [phS_neg _ _ _ (by omega), Int.add_zero] at h
      refine ⟨c', Ev.step (fun k => ?_) h⟩
      simp only [spec_rsByPhases.l1]
      rw [if_pos (lt_mid r t x), if_pos (Int.natCast_nonneg _), if_pos (lt_mid r t x), if_pos (by omega), if_pos (by omega)]
    · have ei : (src : Int) - (r.length : Int) = ((src - r.length : Nat) : Int) := by omega
      have ew : wrap64 ((src : Int) - (r.length : Int)) = ((src - r.length : Nat) : Int) := by rw [ei, w64n (by omega)]
      have hp := prod_bd hx (getD_all (by omega) hsb (src - r.length))
      have hl : ((r ++ [x]).length : Int) = (r.length : Int) + 1 := by simp
      have eat : atM s (((src - r.length : Nat) : Int)) = s.getD (src - r.length) 0 := by rw [atM, if_pos (by omega), Int.toNat_natCast]
      have hr' : ∀ c, ∃ c', Ev (fun k => spec_rsByPhases.l0 k s p q P (out ++ [(sum + x * s.getD (src - r.length) 0) + phS s t ((src : Int) - ((r ++ [x]).length : Int))]) c (wrap64 (i + 1))) (O, c') := by
        intro c
        obtain ⟨c', h⟩ := hr c
        refine ⟨c', ?_⟩
        rw [phS, ei, eat] at h
        have e2 : (src : Int) - ((r ++ [x]).length : Int) = ((src - r.length : Nat) : Int) - 1 := by omega
        rw [e2, Int.add_assoc]
        exact h
      obtain ⟨c', h⟩ := ih (r ++ [x]) (by simp) (sum + x * s.getD (src - r.length) 0) (wrap64 (c + 1)) (by omega) (by omega) hr'
      refine ⟨c', Ev.step (fun k => ?_) h⟩
      simp only [spec_rsByPhases.l1]
      rw [if_pos (lt_mid r t x), if_pos (Int.natCast_nonneg _), if_pos (lt_mid r t x), if_neg (by omega), ew, if_pos (Int.natCast_nonneg _), if_pos (by omega), rd_mid, rd_getD, w64 (n := x * s.getD (src - r.length) 0) (by omega) (by omega), w64 (n := sum + x * s.getD (src - r.length) 0) (by omega) (by omega), w64_suc r x (by omega)]
theorem spec_rsByPhases_l0 (h s : List Int) (p q : Nat) (hh : h.length ≤ 9) (hhb : ∀ x ∈ h, -1000 ≤ x ∧ x ≤ 1000) (hs : s.length ≤ 64) (hsb : ∀ x ∈ s, -100000 ≤ x ∧ x ≤ 100000) (hp : 1 ≤ p) (hq : 1 ≤ q) (hq8 : q ≤ 8) (hsp : s.length * p ≤ 64) : ∀ (d j : Nat), j + d = dropN (s.length * p) q 0 → ∀ c : Int,
    ∃ c', Ev (fun k => spec_rsByPhases.l0 k s (p : Int) (q : Int) (phL h p) (Lf (phOut h s p q) j) c (j : Int)) (byPh h s p q, c')
  | 0, j, hj, c => by
    have ej : j = dropN (s.length * p) q 0 := hj
    refine ⟨c, Ev.step (f := fun _ => some (byPh h s p q, c)) (fun k => ?_) (Ev.now _)⟩
    simp only [spec_rsByPhases.l0, spec_rsLength_eq s.length p q hq hq8 hsp, Option.bind_some]
    rw [if_neg (by omega), byPh, ← ej]
  | d + 1, j, hj, c => by
    have hj' : j + 1 + d = dropN (s.length * p) q 0 := by omega
    have hj0 : j ≤ 1000000 := by
      have := dropN_le (len := s.length * p) (rate := q) (first := 0) hq
      omega
    have hlt : 0 + j * q < s.length * p := (dropN_lt hq).1 (by omega)
    have hjq : j * q ≤ 1000000000 := by omega
    have hdq : j * q / p ≤ 1000000000 := Nat.le_trans (Nat.div_le_self _ _) hjq
    have hjl : (j : Int) < ((dropN (s.length * p) q 0 : Nat) : Int) := by omega
    have hm := Nat.mod_lt (j * q) (show 0 < p by omega)
    have hsrc : j * q / p < s.length := (Nat.div_lt_iff_lt_mul (by omega)).2 (by omega)
    have hF : (dropM h p (j * q % p)).length ≤ 9 := by
      rw [dropM_length]
      have := dropN_le (len := h.length) (rate := p) (first := j * q % p) hp
      omega
    have hFb := dropM_bd (M := 1000) (by omega) hhb p (j * q % p)
    have hnx : wrap64 ((j : Int) + 1) = ((j + 1 : Nat) : Int) := w64_nat j 1 (by omega)
    obtain ⟨c', hc⟩ := spec_rsByPhases_l1 s hs hsb (p : Int) (q : Int) (phL h p) (Lf (phOut h s p q) j) (by rw [Lf_length]; exact hj0) (j : Int) (j * q / p) hsrc (byPh h s p q) (dropM h p (j * q % p)) hF hFb (dropM h p (j * q % p)) [] rfl 0 c (by simp) (by simp) (by
      intro c
      obtain ⟨c', h'⟩ := spec_rsByPhases_l0 h s p q hh hhb hs hsb hp hq hq8 hsp d (j + 1) hj' c
      refine ⟨c', ?_⟩
      have e : 0 + phS s (dropM h p (j * q % p)) (((j * q / p : Nat) : Int) - (([] : List Int).length : Int)) = phOut h s p q j := by
        rw [phOut]
        simp
      rw [e, ← Lf_succ, hnx]
      exact h')
    refine ⟨c', Ev.step (fun k => ?_) hc⟩
    simp only [spec_rsByPhases.l0, spec_rsLength_eq s.length p q hq hq8 hsp, Option.bind_some]
    rw [if_pos hjl, if_neg (show ¬ ((p : Int) = 0) by omega), ← Int.natCast_mul, w64n (a := j * q) hjq, tm, td, if_pos (Int.natCast_nonneg _), phL_length, if_pos (Int.ofNat_lt.2 hm), rd_phL _ _ _ hm, w64n (a := j * q / p) hdq]
    rfl

def byPhases (h s : List Int) (p q : Int) : List Int × Bool := if rsOk h s p q = true then toldM (byPh h s p.toNat q.toNat) else ([], false)
theorem rsOk_iff' {h l : List Int} {p q : Int} : rsOk h l p q = true ↔ wts h = true ∧ sig l = true ∧ (1 ≤ p ∧ p ≤ 8) ∧ (1 ≤ q ∧ q ≤ 8) ∧ (l.length : Int) * p ≤ 64 := by
  simp only [rsOk, Bool.and_eq_true, ratio_iff, decide_eq_true_eq]
  constructor
  · rintro ⟨a, ⟨b, c, d⟩, e⟩
    exact ⟨a, b, c, d, e⟩
  · rintro ⟨a, b, c, d, e⟩
    exact ⟨a, ⟨b, c, d⟩, e⟩
theorem spec_ByPhases_ev (h s : List Int) (p q : Int) (hh : h.length ≤ 140737488351232) (hl : s.length ≤ 140737488351232) : Ev (fun k => spec_ByPhases.f k h s p q) (byPhases h s p q) := by
  simp only [spec_ByPhases.f, byPhases]
  refine Ev.bind (spec_rsAsked_ev h s p q hh hl) ?_
  by_cases c : rsOk h s p q = true
  · rw [if_pos c]
    obtain ⟨a, b, hp, hq, hsp⟩ := rsOk_iff'.1 c
    obtain ⟨m, rfl⟩ : ∃ m : Nat, p = (m : Int) := ⟨p.toNat, by omega⟩
    obtain ⟨n, rfl⟩ : ∃ n : Nat, q = (n : Int) := ⟨q.toNat, by omega⟩
    have hw := wts_len a
    have hs := sig_len b
    have hsp' : s.length * m ≤ 64 := by
      rw [← Int.natCast_mul] at hsp
      omega
    obtain ⟨c', hc⟩ := spec_rsByPhases_l0 h s m n hw.2 (wts_mem a) hs (sig_mem b) (by omega) (by omega) (by omega) hsp' (dropN (s.length * m) n 0) 0 (by omega) 0
    have hb : Ev (fun k => spec_rsByPhases.f k h s (m : Int) (n : Int)) (byPh h s m n, c') := by
      simp only [spec_rsByPhases.f]
      exact Ev.bind (spec_rsPhases_ev h m (by omega) (by omega) (by omega)) hc
    have := byPh_len h s m n hsp' (by omega)
    refine Ev.tt c (Ev.bind hb (Ev.bind (spec_wdIf_ev _ (by simp; omega)) (Ev.now _)))
  · rw [if_neg c]
    exact Ev.ff c (Ev.now _)

theorem impl_phasesOf_l0 (h : List Int) (p : Nat) (hp : 1 ≤ p) (hp8 : p ≤ 8) (hl : h.length ≤ 100000) : ∀ (d j : Nat), j + d = p → Ev (fun k => impl_phasesOf.l0 k h (p : Int) ((List.range j).map (dropM h p)) (p : Int) (j : Int)) (phL h p)
  | 0, j, e => by
    have e' : j = p := e
    subst e'
    refine Ev.step (f := fun _ => some (phL h j)) (fun k => ?_) (Ev.now _)
    simp only [impl_phasesOf.l0]
    rw [if_neg (by omega)]
    rfl
  | d + 1, j, e => by
    refine Ev.step (fun k => by simp only [impl_phasesOf.l0]; rfl) ?_
    refine Ev.tt (by omega) (Ev.bind (impl_drop_ev h p j (by omega) (by omega) (by omega) (by omega)) ?_)
    refine Ev.tt (by rw [List.length_map, List.length_range]; omega) ?_
    have e1 : wrap64 ((j : Int) + 1) = ((j + 1 : Nat) : Int) := w64_nat j 1 (by omega)
    rw [e1]
    have := impl_phasesOf_l0 h p hp hp8 hl d (j + 1) (by omega)
    simpa [List.range_succ] using this
theorem impl_phasesOf_ev (h : List Int) (p : Nat) (hp : 1 ≤ p) (hp8 : p ≤ 8) (hl : h.length ≤ 100000) : Ev (fun k => impl_phasesOf.f k h (p : Int)) (phL h p) := by
  have := impl_phasesOf_l0 h p hp hp8 hl p 0 (by omega)
  simpa [impl_phasesOf.f] using this

theorem impl_at_eq (s : List Int) (i : Int) (hs : s.length ≤ 140737488351232) : impl_at.f s i = some (if 0 ≤ i then s.getD i.toNat 0 else 0) := by
  unfold impl_at.f
  rw [impl_in_eq, w64 (n := (s.length : Int) - 1) (by omega) (by omega)]
  simp only [Option.bind_some]
  by_cases c : 0 ≤ i
  · by_cases d : i ≤ (s.length : Int) - 1
    · rw [if_pos (by simp; omega), if_pos c, if_pos (by omega), if_pos c]
      rfl
    · rw [if_neg (by simp; omega), if_pos c, List.getD_eq_getElem?_getD, List.getElem?_eq_none (by omega)]
      rfl
  · rw [if_neg (by simp; omega), if_neg c]

theorem impl_ByPhases_l1 (s : List Int) (hs : s.length ≤ 64) (hsb : ∀ x ∈ s, -100000 ≤ x ∧ x ≤ 100000) (p : Nat) (hp : 1 ≤ p) (q : Int) (P : List (List Int)) (out : List Int) (hout : out.length ≤ 1000000) (n : Nat) (hn : n ≤ 1000000) (O : List Int × Bool) (F : List Int) (hF : F.length ≤ 9) (hFb : ∀ x ∈ F, -1000 ≤ x ∧ x ≤ 1000) :
    ∀ (t r : List Int), F = r ++ t → ∀ (sum : Int), -(r.length * 100000000) ≤ sum → sum ≤ r.length * 100000000 →
    Ev (fun k => impl_ByPhases.l0 k s (p : Int) q P (out ++ [sum + phS s t (((n / p : Nat) : Int) - r.length)]) (wrap64 ((n : Int) + q))) O →
    Ev (fun k => impl_ByPhases.l1 k s (p : Int) q P out (n : Int) sum F (F.length : Int) (r.length : Int)) O := by
  intro t
  induction t with
  | nil =>
    intro r e sum _ _ hr
    have e' : F = r := by simpa using e
    subst e'
    refine Ev.step (fun k => ?_) hr
    simp only [impl_ByPhases.l1]
    rw [if_neg (by omega), if_pos (by omega), phS, Int.add_zero]
  | cons x t ih =>
    intro r e sum h0 h1 hr
    subst e
    have hrl : r.length + 1 ≤ 9 := by simp at hF; omega
    have hx := hFb x (by simp)
    have hdv : n / p ≤ n := Nat.div_le_self _ _
    have hd0 : (0 : Int) ≤ ((n / p : Nat) : Int) := Int.natCast_nonneg _
    have hat : -100000 ≤ atM s (((n / p : Nat) : Int) - r.length) ∧ atM s (((n / p : Nat) : Int) - r.length) ≤ 100000 := by
      unfold atM
      split
      · exact getD_all (by omega) hsb _
      · omega
    have hpr := prod_bd hx hat
    have hl : ((r ++ [x]).length : Int) = (r.length : Int) + 1 := by simp
    have hr' : Ev (fun k => impl_ByPhases.l0 k s (p : Int) q P (out ++ [(sum + x * atM s (((n / p : Nat) : Int) - r.length)) + phS s t (((n / p : Nat) : Int) - ((r ++ [x]).length : Int))]) (wrap64 ((n : Int) + q))) O := by
      rw [phS] at hr
      have e2 : ((n / p : Nat) : Int) - ((r ++ [x]).length : Int) = ((n / p : Nat) : Int) - (r.length : Int) - 1 := by omega
      rw [e2, Int.add_assoc]
      exact hr
    have hh := ih (r ++ [x]) (by simp) (sum + x * atM s (((n / p : Nat) : Int) - r.length)) (by omega) (by omega) hr'
    refine Ev.step (fun k => ?_) hh
    simp only [impl_ByPhases.l1]
    rw [if_pos (lt_mid r t x), if_pos (Int.natCast_nonneg _), if_pos (lt_mid r t x), if_neg (by omega), td, w64n (a := n / p) (by omega), w64 (n := ((n / p : Nat) : Int) - (r.length : Int)) (by omega) (by omega), impl_at_eq s _ (by omega), Option.bind_some, rd_mid, ← atM, w64 (n := x * atM s (((n / p : Nat) : Int) - r.length)) (by omega) (by omega), w64 (n := sum + x * atM s (((n / p : Nat) : Int) - r.length)) (by omega) (by omega), w64_suc r x (by omega)]
theorem impl_ByPhases_l0 (h s : List Int) (p q : Nat) (hh : h.length ≤ 9) (hhb : ∀ x ∈ h, -1000 ≤ x ∧ x ≤ 1000) (hs : s.length ≤ 64) (hsb : ∀ x ∈ s, -100000 ≤ x ∧ x ≤ 100000) (hp : 1 ≤ p) (hq : 1 ≤ q) (hq8 : q ≤ 8) (hsp : s.length * p ≤ 64) : ∀ (d j : Nat), j + d = dropN (s.length * p) q 0 → j * q ≤ 1000000 →
    Ev (fun k => impl_ByPhases.l0 k s (p : Int) (q : Int) (phL h p) (Lf (phOut h s p q) j) ((j * q : Nat) : Int)) (toldM (byPh h s p q))
  | 0, j, hj, hjq => by
    have ej : j = dropN (s.length * p) q 0 := hj
    have hnl : ¬ (0 + j * q < s.length * p) := fun g => by
      have := (dropN_lt (len := s.length * p) (first := 0) hq).2 g
      omega
    have eL : Lf (phOut h s p q) j = byPh h s p q := by rw [byPh, ← ej]
    have hl := byPh_len h s p q hsp hq
    rw [eL]
    refine Ev.step (fun k => by simp only [impl_ByPhases.l0]; rfl) ?_
    rw [← Int.natCast_mul, w64n (a := s.length * p) (by omega)]
    refine Ev.ff (by omega) (Ev.bind (impl_told_ev _ (by omega)) (Ev.now _))
  | d + 1, j, hj, hjq => by
    have hlt : 0 + j * q < s.length * p := (dropN_lt hq).1 (by omega)
    have hjN := dropN_le (len := s.length * p) (rate := q) (first := 0) hq
    have hm := Nat.mod_lt (j * q) (show 0 < p by omega)
    have hF : (dropM h p (j * q % p)).length ≤ 9 := by
      rw [dropM_length]
      have := dropN_le (len := h.length) (rate := p) (first := j * q % p) hp
      omega
    have hFb := dropM_bd (M := 1000) (by omega) hhb p (j * q % p)
    have hnx : wrap64 (((j * q : Nat) : Int) + (q : Int)) = (((j + 1) * q : Nat) : Int) := by
      rw [w64_nat _ _ (by omega), Nat.add_mul, Nat.one_mul]
    have hc := impl_ByPhases_l1 s hs hsb p hp (q : Int) (phL h p) (Lf (phOut h s p q) j) (by rw [Lf_length]; omega) (j * q) (by omega) (toldM (byPh h s p q)) (dropM h p (j * q % p)) hF hFb (dropM h p (j * q % p)) [] rfl 0 (by simp) (by simp) (by
      have h' := impl_ByPhases_l0 h s p q hh hhb hs hsb hp hq hq8 hsp d (j + 1) (by omega) (by rw [Nat.add_mul]; omega)
      have e : 0 + phS s (dropM h p (j * q % p)) (((j * q / p : Nat) : Int) - (([] : List Int).length : Int)) = phOut h s p q j := by
        rw [phOut]
        simp
      rw [e, ← Lf_succ, hnx]
      exact h')
    refine Ev.step (fun k => ?_) hc
    simp only [impl_ByPhases.l0]
    rw [← Int.natCast_mul, w64n (a := s.length * p) (by omega), if_pos (by omega), if_neg (by omega), tm, if_pos (Int.natCast_nonneg _), phL_length, if_pos (Int.ofNat_lt.2 hm), rd_phL _ _ _ hm]
    rfl
theorem impl_ByPhases_ev (h s : List Int) (p q : Int) (hh : h.length ≤ 140737488351232) (hl : s.length ≤ 140737488351232) : Ev (fun k => impl_ByPhases.f k h s p q) (byPhases h s p q) := by
  have fail : Ev (fun k => impl_ByPhases.j0 k h s p q true) (([] : List Int), false) := by
    exact Ev.step (f := fun _ => some ([], false)) (fun k => by simp [impl_ByPhases.j0]) (Ev.now _)
  simp only [impl_ByPhases.f, byPhases]
  refine Ev.bind (impl_isWeights_ev h hh) ?_
  by_cases a : wts h = true
  · refine Ev.tt a (Ev.bind (impl_isSignal_ev s hl) ?_)
    by_cases b : sig s = true
    · refine Ev.tt b (Ev.dbind (impl_isRatio_eq p q) ?_)
      by_cases r : ratio p q = true
      · refine Ev.tt r ?_
        have r' := ratio_iff.1 r
        have hw := wts_len a
        have hs := sig_len b
        obtain ⟨m, rfl⟩ : ∃ m : Nat, p = (m : Int) := ⟨p.toNat, by omega⟩
        obtain ⟨n, rfl⟩ : ∃ n : Nat, q = (n : Int) := ⟨q.toNat, by omega⟩
        have hlp : s.length * m ≤ 64 * 8 := Nat.mul_le_mul hs (by omega)
        rw [← Int.natCast_mul, w64n (a := s.length * m) (by omega)]
        by_cases g : s.length * m ≤ 64
        · rw [if_pos (rsOk_iff'.2 ⟨a, b, r'.1, r'.2, by rw [← Int.natCast_mul]; omega⟩), decide_eq_false (by omega)]
          refine Ev.step (fun k => by simp only [impl_ByPhases.j0]; rfl) (Ev.ff (by decide) (Ev.bind (impl_phasesOf_ev h m (by omega) (by omega) (by omega)) ?_))
          have := impl_ByPhases_l0 h s m n hw.2 (wts_mem a) hs (sig_mem b) (by omega) (by omega) (by omega) g (dropN (s.length * m) n 0) 0 (by omega) (by omega)
          simpa [Lf] using this
        · rw [if_neg (fun h => g (by have := (rsOk_iff'.1 h).2.2.2.2; rw [← Int.natCast_mul] at this; omega)), decide_eq_true (by omega)]
          exact fail
      · rw [if_neg (fun h => r (ratio_iff.2 ⟨(rsOk_iff'.1 h).2.2.1, (rsOk_iff'.1 h).2.2.2.1⟩))]
        exact Ev.ff r fail
    · rw [if_neg (fun h => b (rsOk_iff'.1 h).2.1)]
      exact Ev.ff b fail
  · rw [if_neg (fun h => a (rsOk_iff'.1 h).1)]
    exact Ev.ff a fail

theorem ByPhases_agree (h l : List Int) (p q : Int) (hh : h.length ≤ 1048576) (hl : l.length ≤ 1048576) : ∃ r, Ev (fun k => spec_ByPhases.f k h l p q) r ∧ Ev (fun k => impl_ByPhases.f k h l p q) r ∧ r.1.length ≤ 1000000 :=
  ⟨_, spec_ByPhases_ev h l p q (by omega) (by omega), impl_ByPhases_ev h l p q (by omega) (by omega), by
    unfold byPhases
    split
    · have := toldM_len (byPh h l p.toNat q.toNat)
      omega
    · simp⟩

theorem laws_iSame_l0 (l : List Int) (hl : l.length ≤ 140737488351232) : ∀ (t p : List Int), l = p ++ t → Ev (fun k => laws_iSame.l0 k l l (l.length : Int) (p.length : Int)) true
  | [], p, h => by
    refine Ev.step (f := fun _ => some true) (fun k => ?_) (Ev.now _)
    subst h
    simp [laws_iSame.l0]
  | x :: t, p, h => by
    have e1 : (p.length : Int) < (l.length : Int) := by rw [h]; exact lt_mid p t x
    have e3 : wrap64 ((p.length : Int) + 1) = ((p ++ [x]).length : Int) := nx_mid p t x (h ▸ hl)
    refine Ev.step (fun k => ?_) (laws_iSame_l0 l hl t (p ++ [x]) (by simp [h]))
    simp only [laws_iSame.l0, if_pos e1, if_pos (Int.natCast_nonneg _), e3]
    rw [if_pos trivial]
theorem laws_iSame_ev (l : List Int) (hl : l.length ≤ 140737488351232) : Ev (fun k => laws_iSame.f k l l) true := by
  simp only [laws_iSame.f]
  exact Ev.tt trivial (laws_iSame_l0 l hl l [] rfl)

theorem laws_iRows_l0 (l : List (List Int)) (hl : l.length ≤ 140737488351232) (hb : ∀ x ∈ l, x.length ≤ 1000000) : ∀ (t p : List (List Int)), l = p ++ t → Ev (fun k => laws_iRows.l0 k l l (l.length : Int) (p.length : Int)) true
  | [], p, h => by
    refine Ev.step (f := fun _ => some true) (fun k => ?_) (Ev.now _)
    subst h
    simp [laws_iRows.l0]
  | x :: t, p, h => by
    have e1 : (p.length : Int) < (l.length : Int) := by rw [h]; exact lt_mid p t x
    have e2 : rd_L2 l (p.length : Int) = x := by rw [h]; simp [rd_L2]
    have e3 : wrap64 ((p.length : Int) + 1) = ((p ++ [x]).length : Int) := nx_mid p t x (h ▸ hl)
    have hx := hb x (by rw [h]; simp)
    refine Ev.step (fun k => by simp only [laws_iRows.l0]; rfl) ?_
    rw [e2, e3]
    exact Ev.tt e1 (Ev.tt (Int.natCast_nonneg _) (Ev.tt e1 (Ev.tt e1 (Ev.bind (laws_iSame_ev x (by omega)) (Ev.tt rfl (laws_iRows_l0 l hl hb t (p ++ [x]) (by simp [h])))))))
theorem laws_iRows_ev (l : List (List Int)) (hl : l.length ≤ 140737488351232) (hb : ∀ x ∈ l, x.length ≤ 1000000) : Ev (fun k => laws_iRows.f k l l) true := by
  simp only [laws_iRows.f]
  exact Ev.tt trivial (laws_iRows_l0 l hl hb l [] rfl)

theorem signal_l0 {l : List Int} (hl : Bytes l) (sz : Int) (hs : 1 ≤ sz ∧ sz ≤ 100000) : ∀ (n : Nat) (q : List Int) (a sd : Int), q.length + n ≤ 100000 → 0 ≤ a → a + 10 * n ≤ 100000000000 → ∃ s a' sd', Ev (fun k => spec_l1Cur_signal.l0 k sz q (n : Int) l a sd) (s, a', sd') ∧ s.length ≤ 100001 ∧ a ≤ a' ∧ a' ≤ a + 10 * n + 10
  | 0, q, a, sd, hq, h0, h1 => by
    obtain ⟨u, a1, sd1, e1, ha1, hb1, -⟩ := pick_ok hl a sd 16 h0 (by omega) (by omega)
    by_cases c : u = 0
    · obtain ⟨v, a2, sd2, e2, ha2, hb2, -⟩ := among_ok hl a1 sd1 [100000, (-100000), 100001, 4611686018427387904] (by omega) (by omega) (by simp) (by simp)
      refine ⟨q ++ [v], a2, sd2, Ev.step (f := fun _ => some (q ++ [v], a2, sd2)) (fun k => ?_) (Ev.now _), by simp; omega, by omega, by omega⟩
      simp only [spec_l1Cur_signal.l0, e1, e2, Option.bind_some, if_pos c]
      rw [if_neg (by omega), if_pos (by omega)]
    · by_cases d : u = 1
      · obtain ⟨v, a2, sd2, e2, ha2, hb2, hv, hv2⟩ := pick_ok hl a1 sd1 2 (by omega) (by omega) (by omega)
        have e3 : wrap64 (64 + v) = 64 + v := w64 (by omega) (by omega)
        refine ⟨List.replicate (64 + v).toNat 0, a2, sd2, Ev.step (f := fun _ => some (List.replicate (64 + v).toNat 0, a2, sd2)) (fun k => ?_) (Ev.now _), by simp; omega, by omega, by omega⟩
        simp only [spec_l1Cur_signal.l0, e1, e2, Option.bind_some, if_neg c, if_pos d, e3]
        rw [if_neg (by omega), if_pos (by omega), if_pos (by omega)]
      · refine ⟨q, a1, sd1, Ev.step (f := fun _ => some (q, a1, sd1)) (fun k => ?_) (Ev.now _), by omega, by omega, by omega⟩
        simp only [spec_l1Cur_signal.l0, e1, Option.bind_some, if_neg c, if_neg d]
        rw [if_neg (by omega)]
  | n + 1, q, a, sd, hq, h0, h1 => by
    obtain ⟨u, a1, sd1, e1, ha1, hb1, -⟩ := one_ok hl a sd 4 h0 (by omega) (by omega)
    have e3 : wrap64 (((n + 1 : Nat) : Int) - 1) = (n : Int) := by
      rw [w64 (n := ((n + 1 : Nat) : Int) - 1) (by omega) (by omega)]
      omega
    have hn : ((n + 1 : Nat) : Int) > 0 := by omega
    have hql : q.length < 17592186044416 := by omega
    by_cases c : u = true
    · obtain ⟨s, a', sd', h, hs1, ha, hb⟩ := signal_l0 hl sz hs n (q ++ [0]) a1 sd1 (by simp; omega) (by omega) (by omega)
      refine ⟨s, a', sd', Ev.step (fun k => ?_) h, hs1, by omega, by omega⟩
      simp only [spec_l1Cur_signal.l0, e1, Option.bind_some, if_pos c, if_pos hn, if_pos hql, e3]
    · have e4 : wrap64 (wrap64 (2 * sz) + 1) = 2 * sz + 1 := by
        rw [w64 (n := 2 * sz) (by omega) (by omega), w64 (n := 2 * sz + 1) (by omega) (by omega)]
      obtain ⟨v, a2, sd2, e2, ha2, hb2, -⟩ := pick_ok hl a1 sd1 (2 * sz + 1) (by omega) (by omega) (by omega)
      obtain ⟨s, a', sd', h, hs1, ha, hb⟩ := signal_l0 hl sz hs n (q ++ [wrap64 (v - sz)]) a2 sd2 (by simp; omega) (by omega) (by omega)
      refine ⟨s, a', sd', Ev.step (fun k => ?_) h, hs1, by omega, by omega⟩
      simp only [spec_l1Cur_signal.l0, e1, Option.bind_some, if_neg c, if_pos hn, e4, e2, if_pos hql, e3]
theorem signal_ok {l : List Int} (hl : Bytes l) (a sd most sz : Int) (h0 : 0 ≤ a) (h1 : a ≤ 1000000000) (hm : 0 ≤ most ∧ most ≤ 10000) (hs : 1 ≤ sz ∧ sz ≤ 100000) : ∃ s a' sd', Ev (fun k => spec_l1Cur_signal.f k l a sd most sz) (s, a', sd') ∧ s.length ≤ 100001 ∧ a ≤ a' ∧ a' ≤ a + 1000000 := by
  obtain ⟨u, a1, sd1, e1, ha1, hb1, hu, hu2⟩ := pick_ok hl a sd (most + 1) h0 (by omega) (by omega)
  obtain ⟨n, rfl⟩ : ∃ n : Nat, u = (n : Int) := ⟨u.toNat, by omega⟩
  obtain ⟨s, a', sd', h, hs1, ha, hb⟩ := signal_l0 hl sz hs n [] a1 sd1 (by simp; omega) (by omega) (by omega)
  refine ⟨s, a', sd', ?_, hs1, by omega, by omega⟩
  simp only [spec_l1Cur_signal.f]
  rw [w64 (n := most + 1) (by omega) (by omega)]
  exact Ev.dbind e1 h

def phasesM (h : List Int) (p : Int) : List (List Int) × Bool := if (wts h && (decide (1 ≤ p) && decide (p ≤ 8))) = true then (phL h p.toNat, true) else ([], false)
theorem impl_PhasesOf_ev (h : List Int) (p : Int) (hh : h.length ≤ 10000000) : Ev (fun k => impl_PhasesOf.f k h p) (phasesM h p) := by
  simp only [impl_PhasesOf.f, impl_isRatio_eq, Option.bind_some]
  refine Ev.bind (impl_isWeights_ev h (by omega)) ?_
  have hr : ratio p 1 = (decide (1 ≤ p) && decide (p ≤ 8)) := by simp [ratio]
  by_cases c : wts h = true
  · refine Ev.tt c ?_
    rw [hr]
    by_cases d : (decide (1 ≤ p) && decide (p ≤ 8)) = true
    · have hp : 1 ≤ p ∧ p ≤ 8 := by simpa only [Bool.and_eq_true, decide_eq_true_eq] using d
      obtain ⟨n, rfl⟩ : ∃ n : Nat, p = (n : Int) := ⟨p.toNat, by omega⟩
      have hl := wts_len c
      refine Ev.tt d (Ev.bind (impl_phasesOf_ev h n (by omega) (by omega) (by omega)) (Ev.to (Ev.now _) ?_))
      rw [phasesM, if_pos (by rw [c, d]; rfl), Int.toNat_natCast]
    · exact Ev.ff d (Ev.to (Ev.now _) (by rw [phasesM, if_neg (by rw [Bool.eq_false_iff.mpr d, Bool.and_false]; decide)]))
  · exact Ev.ff c (Ev.to (Ev.now _) (by rw [phasesM, if_neg (by rw [Bool.eq_false_iff.mpr c, Bool.false_and]; decide)]))
theorem spec_PhasesOf_ev (h : List Int) (p : Int) (hh : h.length ≤ 10000000) : Ev (fun k => spec_PhasesOf.f k h p) (phasesM h p) := by
  simp only [spec_PhasesOf.f, spec_l1In_eq, Option.bind_some]
  refine Ev.bind (spec_weGood_ev h (by omega)) ?_
  by_cases c : wts h = true
  · refine Ev.tt c ?_
    by_cases d : (decide (1 ≤ p) && decide (p ≤ 8)) = true
    · have hp : 1 ≤ p ∧ p ≤ 8 := by simpa only [Bool.and_eq_true, decide_eq_true_eq] using d
      obtain ⟨n, rfl⟩ : ∃ n : Nat, p = (n : Int) := ⟨p.toNat, by omega⟩
      have hl := wts_len c
      refine Ev.tt d (Ev.bind (spec_rsPhases_ev h n (by omega) (by omega) (by omega)) (Ev.to (Ev.now _) ?_))
      rw [phasesM, if_pos (by rw [c, d]; rfl), Int.toNat_natCast]
    · exact Ev.ff d (Ev.to (Ev.now _) (by rw [phasesM, if_neg (by rw [Bool.eq_false_iff.mpr d, Bool.and_false]; decide)]))
  · exact Ev.ff c (Ev.to (Ev.now _) (by rw [phasesM, if_neg (by rw [Bool.eq_false_iff.mpr c, Bool.false_and]; decide)]))
theorem phasesM_len (h : List Int) (p : Int) : (phasesM h p).1.length ≤ 1048576 ∧ ∀ x ∈ (phasesM h p).1, x.length ≤ 1048576 := by
  unfold phasesM
  split
  · rename_i c
    have c' : wts h = true ∧ 1 ≤ p ∧ p ≤ 8 := by simpa only [Bool.and_eq_true, decide_eq_true_eq] using c
    have hl := wts_len c'.1
    refine ⟨by simp only [phL_length]; omega, fun x hx => ?_⟩
    simp only [phL, List.mem_map] at hx
    obtain ⟨k, hk, rfl⟩ := hx
    have := dropN_le (len := h.length) (rate := p.toNat) (first := k) (by omega)
    rw [dropM_length]
    omega
  · exact ⟨by simp, fun x hx => by simp at hx⟩

theorem sum_ge (Q r : Nat) : ∀ (a : List Nat) (j : Nat), (∀ k, (h : k < a.length) → Q + (if j + k < r then 1 else 0) ≤ a[k]) → a.length * Q + min (r - j) a.length ≤ a.sum
  | [], j, h => by simp
  | x :: t, j, h => by
    have h0 := h 0 (by simp)
    have ih := sum_ge Q r t (j + 1) (fun k hk => by
      have := h (k + 1) (by simp; omega)
      simp only [List.getElem_cons_succ] at this
      rw [show j + 1 + k = j + (k + 1) by omega]
      exact this)
    simp only [List.getElem_cons_zero, Nat.add_zero] at h0
    simp only [List.length_cons, List.sum_cons, Nat.succ_mul]
    generalize t.length * Q = z at *
    split at h0 <;> omega
theorem sum_le (q m : Nat) : ∀ (a : List Nat) (j : Nat), (∀ k, (h : k < a.length) → a[k] ≤ q + (if j + k < m then 1 else 0)) → a.sum ≤ a.length * q + min (m - j) a.length
  | [], j, h => by simp
  | x :: t, j, h => by
    have h0 := h 0 (by simp)
    have ih := sum_le q m t (j + 1) (fun k hk => by
      have := h (k + 1) (by simp; omega)
      simp only [List.getElem_cons_succ] at this
      rw [show j + 1 + k = j + (k + 1) by omega]
      exact this)
    simp only [List.getElem_cons_zero, Nat.add_zero] at h0
    simp only [List.length_cons, List.sum_cons, Nat.succ_mul]
    generalize t.length * q = z at *
    split at h0 <;> omega
theorem sum_eq (Q r : Nat) : ∀ (a : List Nat) (j : Nat), (∀ k, (h : k < a.length) → Q + (if j + k < r then 1 else 0) ≤ a[k]) → a.sum ≤ a.length * Q + min (r - j) a.length → ∀ k, (h : k < a.length) → a[k] = Q + (if j + k < r then 1 else 0)
  | [], j, h, hs, k, hk => by simp at hk
  | x :: t, j, h, hs, k, hk => by
    have h0 := h 0 (by simp)
    have hT : ∀ k, (h : k < t.length) → Q + (if j + 1 + k < r then 1 else 0) ≤ t[k] := fun k hk => by
      have := h (k + 1) (by simp; omega)
      simp only [List.getElem_cons_succ] at this
      rw [show j + 1 + k = j + (k + 1) by omega]
      exact this
    have ge := sum_ge Q r t (j + 1) hT
    simp only [List.getElem_cons_zero, Nat.add_zero] at h0
    simp only [List.length_cons, List.sum_cons, Nat.succ_mul] at hs
    have ih := sum_eq Q r t (j + 1) hT (by
      generalize t.length * Q = z at *
      split at h0 <;> omega)
    cases k with
    | zero =>
      simp only [List.getElem_cons_zero, Nat.add_zero]
      generalize t.length * Q = z at *
      split <;> split at h0 <;> omega
    | succ k =>
      simp only [List.getElem_cons_succ]
      rw [ih k (by simpa using hk), show j + 1 + k = j + (k + 1) by omega]
def shapeOk (a : List Nat) : Prop := ∀ k, (h : k < a.length) → (k = 0 ∨ a[k] ≤ a[k - 1]'(by omega)) ∧ a[0]'(by omega) ≤ a[k] + 1
def fillOk (a : List Nat) : Prop := ∀ i, i < a.sum → ∃ h : i % a.length < a.length, i / a.length < a[i % a.length]
theorem fill_len {a : List Nat} (hp : 0 < a.length) (h : fillOk a) : ∀ k, (hk : k < a.length) → a[k] = a.sum / a.length + (if k < a.sum % a.length then 1 else 0) := by
  obtain ⟨p, hpe⟩ : ∃ p, a.length = p := ⟨_, rfl⟩
  have hn := Nat.div_add_mod a.sum p
  have hr : a.sum % p < p := Nat.mod_lt _ (by omega)
  have hQ : ∀ k, (hk : k < a.length) → a.sum / p + (if 0 + k < a.sum % p then 1 else 0) ≤ a[k] := by
    intro k hk
    rw [Nat.zero_add]
    split
    · rename_i c
      obtain ⟨h1, h2⟩ := h (p * (a.sum / p) + k) (by omega)
      have e1 : (p * (a.sum / p) + k) % a.length = k := by rw [hpe, Nat.mul_add_mod]; exact Nat.mod_eq_of_lt (by omega)
      have e2 : (p * (a.sum / p) + k) / a.length = a.sum / p := by rw [hpe, Nat.mul_add_div (show 0 < p by omega), Nat.div_eq_of_lt (show k < p by omega)]; omega
      rw [e2] at h2
      simp only [e1] at h2
      omega
    · by_cases z : a.sum / p = 0
      · omega
      · have hm : p * (a.sum / p) = p * (a.sum / p - 1) + p := by
          obtain ⟨u, hu⟩ := Nat.exists_eq_succ_of_ne_zero z
          rw [hu, Nat.succ_sub_one, Nat.mul_succ]
        obtain ⟨h1, h2⟩ := h (p * (a.sum / p - 1) + k) (by omega)
        have e1 : (p * (a.sum / p - 1) + k) % a.length = k := by rw [hpe, Nat.mul_add_mod]; exact Nat.mod_eq_of_lt (by omega)
        have e2 : (p * (a.sum / p - 1) + k) / a.length = a.sum / p - 1 := by rw [hpe, Nat.mul_add_div (show 0 < p by omega), Nat.div_eq_of_lt (show k < p by omega)]; omega
        rw [e2] at h2
        simp only [e1] at h2
        omega
  have hs : a.sum ≤ a.length * (a.sum / p) + min (a.sum % p - 0) a.length := by rw [hpe]; omega
  have he := sum_eq (a.sum / p) (a.sum % p) a 0 hQ hs
  intro k hk
  have := he k hk
  rw [Nat.zero_add] at this
  have e1 : a.sum / a.length = a.sum / p := by rw [hpe]
  have e2 : a.sum % a.length = a.sum % p := by rw [hpe]
  rw [e1, e2]
  exact this
theorem fill_shape {a : List Nat} (hp : 0 < a.length) (h : fillOk a) : shapeOk a := by
  have he := fill_len hp h
  intro k hk
  have h0 := he 0 (by omega)
  have h1 := he k hk
  refine ⟨?_, ?_⟩
  · by_cases z : k = 0
    · exact .inl z
    · right
      have h2 := he (k - 1) (by omega)
      rw [h1, h2]
      split <;> split <;> omega
  · rw [h0, h1]
    split <;> split <;> omega
theorem shape_mono {a : List Nat} (h : shapeOk a) : ∀ (k j : Nat), (hk : k < a.length) → (hj : j ≤ k) → a[k] ≤ a[j]'(by omega)
  | 0, j, hk, hj => by
    have : j = 0 := by omega
    subst this
    exact Nat.le_refl _
  | k + 1, j, hk, hj => by
    by_cases e : j = k + 1
    · subst e
      exact Nat.le_refl _
    · have h1 := shape_mono h k j (by omega) (by omega)
      rcases (h (k + 1) hk).1 with h2 | h2
      · omega
      · simp only [Nat.add_sub_cancel] at h2
        omega
theorem shape_fill {a : List Nat} (hp : 0 < a.length) (h : shapeOk a) : fillOk a := by
  intro i hi
  have hk : i % a.length < a.length := Nat.mod_lt _ hp
  refine ⟨hk, ?_⟩
  rcases Nat.lt_or_ge (i / a.length) (a[i % a.length]) with c | c
  · exact c
  · exfalso
    have hle := sum_le (i / a.length) (i % a.length) a 0 (fun k hk2 => by
      rw [Nat.zero_add]
      split
      · have h1 := shape_mono h k 0 hk2 (by omega)
        have h2 := (h (i % a.length) hk).2
        omega
      · have h1 := shape_mono h k (i % a.length) hk2 (by omega)
        omega)
    have hd := Nat.div_add_mod i a.length
    have e : a.length * (i / a.length) + i % a.length = i := hd
    simp only [Nat.sub_zero] at hle
    have : min (i % a.length) a.length ≤ i % a.length := Nat.min_le_left _ _
    omega
def lensOf (L : List (List Int)) : List Nat := L.map List.length
theorem totL_sum : ∀ (L : List (List Int)), totL L = (lensOf L).sum
  | [] => rfl
  | x :: t => by simp [totL, lensOf, totL_sum t]
theorem len_le_tot : ∀ (L : List (List Int)), ∀ x ∈ L, x.length ≤ totL L
  | y :: t, x, h => by
    simp only [List.mem_cons] at h
    simp only [totL]
    rcases h with rfl | h
    · omega
    · have := len_le_tot t x h
      omega
def lnAt (L : List (List Int)) (i : Nat) : Nat := (L.getD i []).length
def shp (L : List (List Int)) : Nat → List (List Int) → Bool
  | _, [] => true
  | n, x :: t => (decide (n = 0 ∨ x.length ≤ lnAt L (n - 1)) && decide (lnAt L 0 ≤ x.length + 1)) && shp L (n + 1) t
theorem shp_iff (L : List (List Int)) : ∀ (t q : List (List Int)), L = q ++ t → (shp L q.length t = true ↔ ∀ k, q.length ≤ k → k < L.length → (k = 0 ∨ lnAt L k ≤ lnAt L (k - 1)) ∧ lnAt L 0 ≤ lnAt L k + 1)
  | [], q, h => by
    simp only [shp, true_iff]
    intro k h1 h2
    rw [h] at h2
    simp at h2
    omega
  | x :: t, q, h => by
    have ih := shp_iff L t (q ++ [x]) (by simp [h])
    have ex : lnAt L q.length = x.length := by rw [lnAt, h]; simp
    rw [List.length_append, List.length_singleton] at ih
    simp only [shp, Bool.and_eq_true, decide_eq_true_eq, ih]
    constructor
    · rintro ⟨⟨h1, h2⟩, h3⟩ k k1 k2
      by_cases e : k = q.length
      · subst e
        rw [ex]
        exact ⟨h1, h2⟩
      · exact h3 k (by omega) k2
    · intro hh
      have h0 := hh q.length (by omega) (by rw [h]; simp)
      rw [ex] at h0
      exact ⟨h0, fun k k1 k2 => hh k (by omega) k2⟩
theorem lnAt_get (L : List (List Int)) (k : Nat) (h : k < (lensOf L).length) : (lensOf L)[k] = lnAt L k := by
  have h' : k < L.length := by simpa [lensOf] using h
  simp [lensOf, lnAt, List.getD, List.getElem?_eq_getElem h']
theorem shp_shape (L : List (List Int)) : shp L 0 L = true ↔ shapeOk (lensOf L) := by
  have h := shp_iff L L [] rfl
  simp only [List.length_nil] at h
  rw [h]
  have hl : (lensOf L).length = L.length := by simp [lensOf]
  constructor
  · intro hh k hk
    have := hh k (by omega) (by omega)
    simp only [lnAt_get]
    exact this
  · intro hh k _ hk
    have hk' : k < (lensOf L).length := by omega
    have := hh k hk'
    simp only [lnAt_get] at this
    exact this
def passB (L : List (List Int)) (p i : Nat) : Bool := decide (i / p < lnAt L (i % p))
def fillR (L : List (List Int)) (p : Nat) : Nat → Nat → Bool
  | _, 0 => true
  | i, r + 1 => passB L p i && fillR L p (i + 1) r
theorem fillR_iff (L : List (List Int)) (p : Nat) : ∀ (r i : Nat), fillR L p i r = true ↔ ∀ j, i ≤ j → j < i + r → j / p < lnAt L (j % p)
  | 0, i => by
    simp only [fillR, true_iff]
    intro j h1 h2
    omega
  | r + 1, i => by
    simp only [fillR, passB, Bool.and_eq_true, decide_eq_true_eq, fillR_iff L p r (i + 1)]
    constructor
    · rintro ⟨h1, h2⟩ j j1 j2
      by_cases e : j = i
      · subst e
        exact h1
      · exact h2 j (by omega) (by omega)
    · intro h
      exact ⟨h i (by omega) (by omega), fun j j1 j2 => h j (by omega) (by omega)⟩
theorem shp_fill (L : List (List Int)) (hp : 0 < L.length) : shp L 0 L = true ↔ fillR L L.length 0 (totL L) = true := by
  rw [shp_shape, fillR_iff]
  have hl : (lensOf L).length = L.length := by simp [lensOf]
  constructor
  · intro h j _ hj
    obtain ⟨h1, h2⟩ := shape_fill (by omega) h j (by rw [← totL_sum]; omega)
    rw [lnAt_get] at h2
    rw [hl] at h2
    exact h2
  · intro h
    refine fill_shape (by omega) (fun i hi => ?_)
    have hm : i % (lensOf L).length < (lensOf L).length := Nat.mod_lt _ (by omega)
    refine ⟨hm, ?_⟩
    rw [lnAt_get, hl]
    exact h i (by omega) (by rw [totL_sum]; omega)
def joinV (L : List (List Int)) (p i : Nat) : Int := (L.getD (i % p) []).getD (i / p) 0
def joinR (L : List (List Int)) (p : Nat) : Nat → Nat → List Int
  | _, 0 => []
  | i, r + 1 => joinV L p i :: joinR L p (i + 1) r
theorem joinR_length (L : List (List Int)) (p : Nat) : ∀ (r i : Nat), (joinR L p i r).length = r
  | 0, _ => rfl
  | r + 1, i => by simp [joinR, joinR_length L p r]
def wtdM (l : List Int) : List Int × Bool := if wts l = true then (l, true) else ([], false)
def joinM (L : List (List Int)) : List Int × Bool := if (decide (1 ≤ L.length) && decide (L.length ≤ 8)) = true then (if (shp L 0 L && decide (totL L ≤ 9)) = true then wtdM (joinR L L.length 0 (totL L)) else ([], false)) else ([], false)
theorem joinM_len (L : List (List Int)) : (joinM L).1.length ≤ 1048576 := by
  have hw : ∀ l, (wtdM l).1.length ≤ 1048576 := by
    intro l
    unfold wtdM
    split
    · have := wts_len ‹_›
      simp only
      omega
    · simp
  unfold joinM
  split
  · split
    · exact hw _
    · simp
  · simp
theorem joinM_in {L : List (List Int)} (h1 : 1 ≤ L.length) (h8 : L.length ≤ 8) : joinM L = if (shp L 0 L && decide (totL L ≤ 9)) = true then wtdM (joinR L L.length 0 (totL L)) else ([], false) := by
  unfold joinM
  rw [if_pos (by simp only [Bool.and_eq_true, decide_eq_true_eq]; exact ⟨h1, h8⟩)]
theorem rd_ln (L : List (List Int)) (i : Nat) : (rd_L2 L (i : Int)).length = lnAt L i := by simp [rd_L2, lnAt]
theorem rd_join (L : List (List Int)) (p i : Nat) : rd (rd_L2 L ((i % p : Nat) : Int)) ((i / p : Nat) : Int) = joinV L p i := by simp only [rd_L2, joinV, rd, Int.toNat_natCast]
theorem impl_wtd_ev (l : List Int) (hl : l.length ≤ 1000000) : Ev (fun k => impl_weighed.f k l) (wtdM l) := by
  simp only [impl_weighed.f]
  refine Ev.bind (impl_isWeights_ev l (by omega)) ?_
  by_cases c : wts l = true
  · exact Ev.tt c (Ev.to (Ev.now _) (by rw [wtdM, if_pos c]))
  · exact Ev.ff c (Ev.to (Ev.now _) (by rw [wtdM, if_neg c]))
theorem spec_wtd_ev (l : List Int) (hl : l.length ≤ 1000000) : Ev (fun k => spec_weIf.f k l) (wtdM l) := by
  simp only [spec_weIf.f]
  refine Ev.bind (spec_weGood_ev l (by omega)) ?_
  by_cases c : wts l = true
  · exact Ev.tt c (Ev.to (Ev.now _) (by rw [wtdM, if_pos c]))
  · exact Ev.ff c (Ev.to (Ev.now _) (by rw [wtdM, if_neg c]))
theorem impl_join_l1 (L : List (List Int)) (hp : 0 < L.length) (hp8 : L.length ≤ 8) (n : Nat) (hn : n ≤ 1000) : ∀ (r i : Nat) (acc : List Int), i + r = n → acc.length = i → fillR L L.length i r = true →
    Ev (fun k => impl_JoinPhases.l1 k L (L.length : Int) acc (n : Int) (i : Int)) (wtdM (acc ++ joinR L L.length i r))
  | 0, i, acc, h, ha, hf => by
    refine Ev.step (fun k => by simp only [impl_JoinPhases.l1]; rfl) ?_
    refine Ev.ff (by omega) (Ev.bind (impl_wtd_ev acc (by omega)) (Ev.to (Ev.now _) (by simp [joinR])))
  | r + 1, i, acc, h, ha, hf => by
    simp only [fillR, passB, Bool.and_eq_true, decide_eq_true_eq] at hf
    have hm := Nat.mod_lt i hp
    have hd : i / L.length ≤ i := Nat.div_le_self _ _
    have e1 : wrap64 ((i : Int) + 1) = ((i + 1 : Nat) : Int) := by rw [w64 (n := (i : Int) + 1) (by omega) (by omega)]; omega
    have e2 : wrap64 ((i / L.length : Nat) : Int) = ((i / L.length : Nat) : Int) := w64n (Nat.le_trans hd (by omega))
    have ih := impl_join_l1 L hp hp8 n hn r (i + 1) (acc ++ [joinV L L.length i]) (by omega) (by simp [ha]) hf.2
    refine Ev.to (Ev.step (fun k => by simp only [impl_JoinPhases.l1]; rfl) ?_) (show wtdM ((acc ++ [joinV L L.length i]) ++ joinR L L.length (i + 1) r) = _ by simp [joinR])
    rw [tm, td, e2, e1, rd_ln, rd_join]
    exact Ev.tt (by omega) (Ev.ff (by omega) (Ev.tt (Int.natCast_nonneg _) (Ev.tt (by omega) (Ev.tt (Int.natCast_nonneg _) (Ev.tt (by have := hf.1; omega) (Ev.tt (by omega) ih))))))
theorem spec_join_l1 (L : List (List Int)) (hp : 0 < L.length) (hp8 : L.length ≤ 8) (n : Nat) (hn : n ≤ 1000) : ∀ (r i : Nat) (acc : List Int), i + r = n → acc.length = i →
    Ev (fun k => spec_JoinPhases.l1 k L (L.length : Int) (n : Int) acc (i : Int)) (if fillR L L.length i r = true then wtdM (acc ++ joinR L L.length i r) else ([], false))
  | 0, i, acc, h, ha => by
    refine Ev.step (fun k => by simp only [spec_JoinPhases.l1]; rfl) ?_
    refine Ev.ff (by omega) (Ev.bind (spec_wtd_ev acc (by omega)) (Ev.to (Ev.now _) (by simp [joinR, fillR])))
  | r + 1, i, acc, h, ha => by
    have hm := Nat.mod_lt i hp
    have hd : i / L.length ≤ i := Nat.div_le_self _ _
    have e1 : wrap64 ((i : Int) + 1) = ((i + 1 : Nat) : Int) := by rw [w64 (n := (i : Int) + 1) (by omega) (by omega)]; omega
    have e2 : wrap64 ((i / L.length : Nat) : Int) = ((i / L.length : Nat) : Int) := w64n (Nat.le_trans hd (by omega))
    have ih := spec_join_l1 L hp hp8 n hn r (i + 1) (acc ++ [joinV L L.length i]) (by omega) (by simp [ha])
    by_cases c : passB L L.length i = true
    · have c' : i / L.length < lnAt L (i % L.length) := by simpa [passB] using c
      refine Ev.to (Ev.step (fun k => by simp only [spec_JoinPhases.l1]; rfl) ?_) (show (if fillR L L.length (i + 1) r = true then wtdM ((acc ++ [joinV L L.length i]) ++ joinR L L.length (i + 1) r) else ([], false)) = _ by simp [joinR, fillR, c])
      rw [tm, td, e2, e1, rd_ln, rd_join]
      exact Ev.tt (by omega) (Ev.ff (by omega) (Ev.tt (Int.natCast_nonneg _) (Ev.tt (by omega) (Ev.ff (by omega) (Ev.tt (Int.natCast_nonneg _) (Ev.tt (by omega) (Ev.tt (by omega) ih)))))))
    · have c' : ¬ (i / L.length < lnAt L (i % L.length)) := by simpa [passB] using c
      refine Ev.to (Ev.step (fun k => by simp only [spec_JoinPhases.l1]; rfl) ?_) (show (([] : List Int), false) = _ by rw [if_neg (by simp only [fillR, Bool.and_eq_true]; exact fun z => c z.1)])
      rw [tm, td, e2, rd_ln]
      exact Ev.tt (by omega) (Ev.ff (by omega) (Ev.tt (Int.natCast_nonneg _) (Ev.tt (by omega) (Ev.tt (by omega) (Ev.now _)))))
theorem impl_join_l0 (L : List (List Int)) (hp : 0 < L.length) (hp8 : L.length ≤ 8) (hx : ∀ x ∈ L, x.length ≤ 2000000) : ∀ (t q : List (List Int)), L = q ++ t → (shp L q.length t = true → shp L 0 L = true) →
    Ev (fun k => impl_JoinPhases.l0 k L (L.length : Int) (totL q : Int) L (L.length : Int) (q.length : Int)) (if (shp L q.length t && decide (totL L ≤ 9)) = true then wtdM (joinR L L.length 0 (totL L)) else ([], false))
  | [], q, h, hs => by
    have e : L = q := by simpa using h
    refine Ev.step (fun k => by simp only [impl_JoinPhases.l0]; rfl) ?_
    rw [← e]
    refine Ev.ff (by omega) ?_
    by_cases c : totL L ≤ 9
    · refine Ev.ff (by omega) ?_
      have hf := (shp_fill L hp).1 (hs rfl)
      have h1 := impl_join_l1 L hp hp8 (totL L) (by omega) (totL L) 0 [] (by omega) rfl hf
      exact Ev.to h1 (by simp [shp, c])
    · exact Ev.tt (by omega) (Ev.to (Ev.now _) (by simp [shp, c]))
  | x :: t, q, h, hs => by
    have hq : q.length < L.length := by rw [h]; simp
    have e1 : (q.length : Int) < (L.length : Int) := by omega
    have e2 : lnAt L q.length = x.length := by rw [lnAt, h]; simp
    have e3 : wrap64 ((q.length : Int) + 1) = ((q ++ [x]).length : Int) := nx_mid q t x (by rw [← h]; omega)
    have hxx : x.length ≤ 2000000 := hx x (by rw [h]; simp)
    have hz : lnAt L 0 ≤ 2000000 := by
      obtain ⟨y, u, hyu⟩ : ∃ y u, L = y :: u := by
        cases L with
        | nil => simp at hp
        | cons y u => exact ⟨y, u, rfl⟩
      have := hx y (by rw [hyu]; simp)
      rw [lnAt, hyu]
      simpa using this
    have htot : totL q ≤ 2000000 * q.length := by
      have hgen : ∀ z : List (List Int), (∀ y ∈ z, y.length ≤ 2000000) → totL z ≤ 2000000 * z.length := by
        intro z
        induction z with
        | nil => intro _; simp [totL]
        | cons y u ih =>
          intro hy
          have h1 := ih (fun w hw => hy w (by simp [hw]))
          have h2 := hy y (by simp)
          simp only [totL, List.length_cons]
          omega
      exact hgen q (fun y hy => hx y (by rw [h]; simp [hy]))
    have e4 : wrap64 ((totL q : Int) + (x.length : Int)) = (totL (q ++ [x]) : Int) := by
      have ha : totL (q ++ [x]) = totL q + x.length := by
        rw [totL_sum, totL_sum]
        simp [lensOf]
      rw [ha, w64 (n := (totL q : Int) + (x.length : Int)) (by omega) (by omega)]
      omega
    have e5 : (rd_L2 L 0).length = lnAt L 0 := by have := rd_ln L 0; simpa using this
    have e6 : wrap64 ((lnAt L 0 : Int) - 1) = (lnAt L 0 : Int) - 1 := w64 (by omega) (by omega)
    have ih := impl_join_l0 L hp hp8 hx t (q ++ [x]) (by simp [h])
    have e7 : (q ++ [x]).length = q.length + 1 := by simp
    rw [e7] at ih
    rw [e7] at e3
    have fin : ∀ (c1 : q.length = 0 ∨ x.length ≤ lnAt L (q.length - 1)), Ev (fun k => if (0 : Int) < (L.length : Int) then (if (x.length : Int) < wrap64 (((rd_L2 L 0).length : Int) - 1) then some (([] : List Int), false) else impl_JoinPhases.l0 k L (L.length : Int) (wrap64 ((totL q : Int) + (x.length : Int))) L (L.length : Int) (wrap64 ((q.length : Int) + 1))) else none) (if (shp L q.length (x :: t) && decide (totL L ≤ 9)) = true then wtdM (joinR L L.length 0 (totL L)) else ([], false)) := by
      intro c1
      refine Ev.tt (by omega) ?_
      rw [e5, e6, e3, e4]
      by_cases c2 : lnAt L 0 ≤ x.length + 1
      · refine Ev.ff (by omega) ?_
        have e8 : shp L q.length (x :: t) = shp L (q.length + 1) t := by rw [shp, decide_eq_true c1, decide_eq_true c2]; rfl
        rw [e8]
        exact ih (fun hh => hs (by rw [e8]; exact hh))
      · exact Ev.tt (by omega) (Ev.to (Ev.now _) (by rw [shp, decide_eq_false c2]; simp))
    refine Ev.step (fun k => by simp only [impl_JoinPhases.l0]; rfl) ?_
    rw [rd_ln, e2]
    refine Ev.tt e1 (Ev.tt (Int.natCast_nonneg _) (Ev.tt e1 ?_))
    by_cases z : q.length = 0
    · exact Ev.ff (by omega) (fin (.inl z))
    · have e9 : wrap64 ((q.length : Int) - 1) = ((q.length - 1 : Nat) : Int) := by rw [w64 (n := (q.length : Int) - 1) (by omega) (by omega)]; omega
      refine Ev.tt (by omega) ?_
      rw [e9, rd_ln]
      refine Ev.tt (Int.natCast_nonneg _) (Ev.tt (by omega) ?_)
      by_cases c1 : x.length ≤ lnAt L (q.length - 1)
      · exact Ev.ff (by omega) (fin (.inr c1))
      · refine Ev.tt (by omega) (Ev.to (Ev.now _) ?_)
        rw [shp, decide_eq_false (fun hh => hh.elim z c1)]
        simp
theorem spec_join_l0 (L : List (List Int)) (hp : 0 < L.length) (hp8 : L.length ≤ 8) : ∀ (t q : List (List Int)), L = q ++ t → totL q ≤ 9 * q.length →
    Ev (fun k => spec_JoinPhases.l0 k L (L.length : Int) (totL q : Int) L (L.length : Int) (q.length : Int)) (if ((t.all fun x => decide (x.length ≤ 9)) && fillR L L.length 0 (totL L)) = true then wtdM (joinR L L.length 0 (totL L)) else ([], false))
  | [], q, h, hq => by
    have e : L = q := by simpa using h
    refine Ev.step (fun k => by simp only [spec_JoinPhases.l0]; rfl) ?_
    rw [← e] at hq ⊢
    refine Ev.ff (by omega) ?_
    have h1 := spec_join_l1 L hp hp8 (totL L) (by omega) (totL L) 0 [] (by omega) rfl
    exact Ev.to h1 (by simp)
  | x :: t, q, h, hq => by
    have e1 : (q.length : Int) < (L.length : Int) := by rw [h]; exact lt_mid q t x
    have hql : q.length < L.length := by rw [h]; simp
    have e2 : lnAt L q.length = x.length := by rw [lnAt, h]; simp
    have e3 : wrap64 ((q.length : Int) + 1) = ((q ++ [x]).length : Int) := nx_mid q t x (by rw [← h]; omega)
    refine Ev.step (fun k => by simp only [spec_JoinPhases.l0]; rfl) ?_
    rw [rd_ln, e2, e3]
    refine Ev.tt e1 (Ev.tt (Int.natCast_nonneg _) (Ev.tt e1 ?_))
    by_cases c : x.length ≤ 9
    · have ha : totL (q ++ [x]) = totL q + x.length := by
        rw [totL_sum, totL_sum]
        simp [lensOf]
      have e4 : wrap64 ((totL q : Int) + (x.length : Int)) = (totL (q ++ [x]) : Int) := by
        rw [ha, w64 (n := (totL q : Int) + (x.length : Int)) (by omega) (by omega)]
        omega
      rw [e4]
      have ih := spec_join_l0 L hp hp8 t (q ++ [x]) (by simp [h]) (by rw [ha]; simp; omega)
      exact Ev.ff (by omega) (Ev.to ih (by rw [List.all_cons, decide_eq_true c, Bool.true_and]))
    · exact Ev.tt (by omega) (Ev.to (Ev.now _) (by rw [List.all_cons, decide_eq_false c]; simp))
theorem impl_JoinPhases_ev (L : List (List Int)) (hL : L.length ≤ 2000000) (hx : ∀ x ∈ L, x.length ≤ 2000000) : Ev (fun k => impl_JoinPhases.f k L) (joinM L) := by
  simp only [impl_JoinPhases.f, impl_in_eq, Option.bind_some]
  by_cases c : (decide (1 ≤ (L.length : Int)) && decide ((L.length : Int) ≤ 8)) = true
  · have c' : 1 ≤ (L.length : Int) ∧ (L.length : Int) ≤ 8 := by simpa only [Bool.and_eq_true, decide_eq_true_eq] using c
    have h := impl_join_l0 L (by omega) (by omega) hx L [] rfl (fun h => h)
    refine Ev.tt c (Ev.to h ?_)
    rw [joinM_in (by omega) (by omega)]
    rfl
  · refine Ev.ff c (Ev.to (Ev.now _) ?_)
    rw [joinM, if_neg (by
      intro h
      apply c
      simp only [Bool.and_eq_true, decide_eq_true_eq] at h ⊢
      omega)]
theorem spec_JoinPhases_ev (L : List (List Int)) (hL : L.length ≤ 2000000) : Ev (fun k => spec_JoinPhases.f k L) (joinM L) := by
  simp only [spec_JoinPhases.f, spec_l1In_eq, Option.bind_some]
  by_cases c : (decide (1 ≤ (L.length : Int)) && decide ((L.length : Int) ≤ 8)) = true
  · have c' : 1 ≤ (L.length : Int) ∧ (L.length : Int) ≤ 8 := by simpa only [Bool.and_eq_true, decide_eq_true_eq] using c
    have h := spec_join_l0 L (by omega) (by omega) L [] rfl (by simp [totL])
    refine Ev.tt c (Ev.to h ?_)
    rw [joinM_in (by omega) (by omega)]
    have hsf := shp_fill L (by omega)
    by_cases c9 : totL L ≤ 9
    · have hall : (L.all fun x => decide (x.length ≤ 9)) = true := by
        simp only [List.all_eq_true, decide_eq_true_eq]
        intro x hx
        have := len_le_tot L x hx
        omega
      rw [hall, Bool.true_and, decide_eq_true c9, Bool.and_true]
      by_cases s : shp L 0 L = true
      · rw [if_pos s, if_pos (hsf.1 s)]
      · rw [if_neg s, if_neg (fun z => s (hsf.2 z))]
    · rw [decide_eq_false c9, Bool.and_false, if_neg (show ¬ (false = true) by decide)]
      split
      · rw [wtdM, if_neg]
        intro hw
        have := (wts_len hw).2
        rw [joinR_length] at this
        omega
      · rfl
  · refine Ev.ff c (Ev.to (Ev.now _) ?_)
    rw [joinM, if_neg (by
      intro h
      apply c
      simp only [Bool.and_eq_true, decide_eq_true_eq] at h ⊢
      omega)]

def lenA (n p q : Nat) : Nat := (n * p + q - 1) / q
theorem lenA_le {n p q : Nat} (hn : n ≤ 64) (hp : p ≤ 8) (hq : 1 ≤ q ∧ q ≤ 8) : lenA n p q ≤ 519 := by
  have h1 : n * p ≤ 64 * 8 := Nat.mul_le_mul hn hp
  exact Nat.le_trans (Nat.div_le_self _ _) (by omega)
theorem src_lt {n p q i : Nat} (hp : 1 ≤ p) (hq : 1 ≤ q) (h : i < lenA n p q) : i * q / p < n := by
  rw [Nat.div_lt_iff_lt_mul hp]
  have h1 : (i + 1) * q ≤ n * p + q - 1 := (Nat.le_div_iff_mul_le hq).1 h
  rw [Nat.add_mul, Nat.one_mul] at h1
  omega
theorem lenF_eq (n p q : Nat) (hn : n ≤ 64) (hp : p ≤ 8) (hq : 1 ≤ q ∧ q ≤ 8) : (if (q : Int) = 0 then (none : Option Int) else some (wrap64 (Int.tdiv (wrap64 (wrap64 (wrap64 ((n : Int) * (p : Int)) + (q : Int)) - 1)) (q : Int)))) = some ((lenA n p q : Nat) : Int) := by
  have h1 : n * p ≤ 64 * 8 := Nat.mul_le_mul hn hp
  have e1 : wrap64 ((n : Int) * (p : Int)) = ((n * p : Nat) : Int) := by
    rw [← Int.natCast_mul]
    exact w64n (by omega)
  have e2 : wrap64 (((n * p : Nat) : Int) + (q : Int)) = ((n * p + q : Nat) : Int) := w64_nat _ _ (by omega)
  have e3 : wrap64 (((n * p + q : Nat) : Int) - 1) = ((n * p + q - 1 : Nat) : Int) := by
    rw [w64 (n := ((n * p + q : Nat) : Int) - 1) (by omega) (by omega)]
    omega
  rw [if_neg (by omega), e1, e2, e3, td, w64n (Nat.le_trans (Nat.div_le_self _ _) (by omega))]
  rfl
theorem src_w {i q : Nat} (hi : i ≤ 1000) (hq : q ≤ 8) : i * q ≤ 8000 := Nat.mul_le_mul hi hq
theorem mul_w {i q : Nat} (hi : i ≤ 1000) (hq : q ≤ 8) : wrap64 ((i : Int) * (q : Int)) = ((i * q : Nat) : Int) := by
  have h := src_w hi hq
  rw [← Int.natCast_mul]
  exact w64n (by omega)
theorem src_e {i p q : Nat} (hi : i ≤ 1000) (hq : q ≤ 8) : wrap64 (Int.tdiv (wrap64 ((i : Int) * (q : Int))) (p : Int)) = ((i * q / p : Nat) : Int) := by
  have h := src_w hi hq
  rw [mul_w hi hq, td]
  exact w64n (Nat.le_trans (Nat.div_le_self _ _) (by omega))
theorem prt_e {i p q : Nat} (hi : i ≤ 1000) (hq : q ≤ 8) : Int.tmod (wrap64 ((i : Int) * (q : Int))) (p : Int) = ((i * q % p : Nat) : Int) := by
  rw [mul_w hi hq, tm]
theorem nx_e {i : Nat} (hi : i ≤ 1000000) : wrap64 ((i : Int) + 1) = ((i + 1 : Nat) : Int) := by
  rw [w64 (n := (i : Int) + 1) (by omega) (by omega)]
  omega
def vH (s : List Int) (p a b : Nat) : Int := rd s (a : Int)
def vN (s : List Int) (p a b : Nat) : Int := if 2 * b < p ∨ a + 1 = s.length then rd s (a : Int) else rd s ((a + 1 : Nat) : Int)
def nxt (s : List Int) (a : Nat) : Nat := if a + 1 < s.length then a + 1 else a
def vL (s : List Int) (p a b : Nat) : Int := (p : Int) * rd s (a : Int) + (b : Int) * (rd s ((nxt s a : Nat) : Int) - rd s (a : Int))
def resM (v : List Int → Nat → Nat → Nat → Int) (s : List Int) (p q : Nat) : List Int := Lf (fun i => v s p (i * q / p) (i * q % p)) (lenA s.length p q)
def samM (v : List Int → Nat → Nat → Nat → Int) (s : List Int) (p q : Int) : List Int × Bool := if (sig s && ratio p q) = true then toldM (resM v s p.toNat q.toNat) else ([], false)
theorem rd_bd {s : List Int} (hs : sig s = true) {a : Nat} (ha : a < s.length) : -100000 ≤ rd s (a : Int) ∧ rd s (a : Int) ≤ 100000 := by
  rw [rd_getD, List.getD_eq_getElem?_getD, List.getElem?_eq_getElem ha]
  exact sig_mem hs _ (List.getElem_mem _)
theorem nxt_lt {s : List Int} {a : Nat} (ha : a < s.length) : nxt s a < s.length := by
  unfold nxt
  split <;> omega
theorem mulN_bd {b : Nat} {x M : Int} (hb : b ≤ 8) (hM : 0 ≤ M) (hx : -M ≤ x ∧ x ≤ M) : -(8 * M) ≤ (b : Int) * x ∧ (b : Int) * x ≤ 8 * M := by
  have h1 : (b : Int) * M ≤ 8 * M := Int.mul_le_mul_of_nonneg_right (by omega) hM
  have h2 : (b : Int) * x ≤ (b : Int) * M := Int.mul_le_mul_of_nonneg_left hx.2 (by omega)
  have h3 : (b : Int) * -M ≤ (b : Int) * x := Int.mul_le_mul_of_nonneg_left hx.1 (by omega)
  rw [Int.mul_neg] at h3
  exact ⟨by omega, by omega⟩
theorem vL_w {s : List Int} (hs : sig s = true) {p a b : Nat} (ha : a < s.length) (hp : p ≤ 8) (hb : b ≤ 8) : wrap64 (wrap64 ((p : Int) * rd s (a : Int)) + wrap64 ((b : Int) * wrap64 (rd s ((nxt s a : Nat) : Int) - rd s (a : Int)))) = vL s p a b := by
  have h1 := rd_bd hs ha
  have h2 := rd_bd hs (nxt_lt ha)
  have h3 := mulN_bd hp (by omega) h1
  have h4 := mulN_bd (x := rd s ((nxt s a : Nat) : Int) - rd s (a : Int)) (M := 200000) hb (by omega) (by omega)
  rw [w64 (n := (p : Int) * rd s (a : Int)) (by omega) (by omega), w64 (n := rd s ((nxt s a : Nat) : Int) - rd s (a : Int)) (by omega) (by omega), w64 (n := (b : Int) * (rd s ((nxt s a : Nat) : Int) - rd s (a : Int))) (by omega) (by omega), w64 (n := (p : Int) * rd s (a : Int) + (b : Int) * (rd s ((nxt s a : Nat) : Int) - rd s (a : Int))) (by omega) (by omega)]
  rfl

theorem imLen_eq (n p q : Nat) (hn : n ≤ 64) (hp : p ≤ 8) (hq : 1 ≤ q ∧ q ≤ 8) : impl_lengthAfter.f (n : Int) (p : Int) (q : Int) = some ((lenA n p q : Nat) : Int) := by
  simp only [impl_lengthAfter.f]
  exact lenF_eq n p q hn hp hq

theorem rsLen_eq (n p q : Nat) (hn : n ≤ 64) (hp : p ≤ 8) (hq : 1 ≤ q ∧ q ≤ 8) : spec_rsLength.f (n : Int) (p : Int) (q : Int) = some ((lenA n p q : Nat) : Int) := by
  simp only [spec_rsLength.f]
  exact lenF_eq n p q hn hp hq

theorem drawRatio_ok {l : List Int} (hl : Bytes l) (a sd : Int) (h0 : 0 ≤ a) (h1 : a ≤ 1000000000) : ∃ p q a' sd', spec_l1Cur_ratio.f l a sd = some (p, q, a', sd') ∧ a ≤ a' ∧ a' ≤ a + 10 := by
  obtain ⟨u, a1, sd1, e1, ha1, hb1, -⟩ := one_ok hl a sd 12 h0 (by omega) (by omega)
  by_cases c : u = true
  · obtain ⟨v, a2, sd2, e2, ha2, hb2, -⟩ := among_ok hl a1 sd1 [0, 1, 8, 9] (by omega) (by omega) (by simp) (by simp)
    obtain ⟨x, a3, sd3, e3, ha3, hb3, -⟩ := among_ok hl a2 sd2 [0, 1, 8, 9] (by omega) (by omega) (by simp) (by simp)
    refine ⟨v, x, a3, sd3, ?_, by omega, by omega⟩
    simp only [spec_l1Cur_ratio.f, e1, e2, e3, Option.bind_some, if_pos c]
  · obtain ⟨v, a2, sd2, e2, ha2, hb2, -⟩ := pick_ok hl a1 sd1 4 (by omega) (by omega) (by omega)
    obtain ⟨x, a3, sd3, e3, ha3, hb3, -⟩ := pick_ok hl a2 sd2 4 (by omega) (by omega) (by omega)
    refine ⟨wrap64 (1 + v), wrap64 (1 + x), a3, sd3, ?_, by omega, by omega⟩
    simp only [spec_l1Cur_ratio.f, e1, e2, e3, Option.bind_some, if_neg c]

def cvf : List Int → (Nat → Int) → Nat → Int
  | [], _, _ => 0
  | w :: _, f, 0 => w * f 0
  | w :: h, f, n + 1 => w * f (n + 1) + cvf h f n
def gD (l : List Int) (n : Nat) : Int := l.getD n 0
theorem cv_cvf : ∀ (h s : List Int) (n : Nat), cv h s n = cvf h (gD s) n
  | [], s, n => by simp [cv, cvf]
  | w :: h, s, 0 => rfl
  | w :: h, s, n + 1 => by simp only [cv, cvf, cv_cvf h s n]; rfl
theorem cvf_congr {f g : Nat → Int} : ∀ (h : List Int) (n : Nat), (∀ i, i ≤ n → f i = g i) → cvf h f n = cvf h g n
  | [], n, e => rfl
  | w :: h, 0, e => by simp only [cvf, e 0 (Nat.le_refl 0)]
  | w :: h, n + 1, e => by simp only [cvf, e (n + 1) (Nat.le_refl _), cvf_congr h n (fun i hi => e i (by omega))]
theorem cvf_mul (c : Int) (f : Nat → Int) : ∀ (h : List Int) (n : Nat), cvf h (fun i => c * f i) n = c * cvf h f n
  | [], n => by simp [cvf]
  | w :: h, 0 => by simp only [cvf]; grind
  | w :: h, n + 1 => by simp only [cvf, cvf_mul c f h n]; grind
theorem cvf_add (f g : Nat → Int) : ∀ (h : List Int) (n : Nat), cvf h (fun i => f i + g i) n = cvf h f n + cvf h g n
  | [], n => by simp [cvf]
  | w :: h, 0 => by simp only [cvf]; grind
  | w :: h, n + 1 => by simp only [cvf, cvf_add f g h n]; grind
def Sh (f : Nat → Int) : Nat → Int
  | 0 => 0
  | n + 1 => f n
theorem cvf_zero : ∀ (h : List Int) (n : Nat), cvf h (fun _ => 0) n = 0
  | [], n => rfl
  | w :: h, 0 => by simp [cvf]
  | w :: h, n + 1 => by simp [cvf, cvf_zero h n]
theorem cvf_Sh (f : Nat → Int) : ∀ (h : List Int) (n : Nat), cvf h (Sh f) n = Sh (cvf h f) n
  | [], 0 => rfl
  | [], n + 1 => rfl
  | w :: h, 0 => by simp [cvf, Sh]
  | w :: h, 1 => by
    simp only [cvf, Sh, cvf_Sh f h 0]
    simp
  | w :: h, n + 2 => by
    simp only [cvf, Sh, cvf_Sh f h (n + 1)]
theorem cvf_cons (w : Int) (h : List Int) (f : Nat → Int) (n : Nat) : cvf (w :: h) f n = w * f n + Sh (cvf h f) n := by
  cases n <;> simp [cvf, Sh]
theorem cvf_comm (b : List Int) (f : Nat → Int) : ∀ (a : List Int) (n : Nat), cvf b (cvf a f) n = cvf a (cvf b f) n
  | [], n => cvf_zero b n
  | w :: a, n => by
    rw [cvf_congr (g := fun i => (fun i => w * f i) i + Sh (cvf a f) i) b n (fun i _ => cvf_cons w a f i), cvf_add, cvf_mul, cvf_Sh, cvf_cons]
    congr 1
    cases n with
    | zero => rfl
    | succ n => exact cvf_comm b f a n
def dl (n : Nat) : Int := if n = 0 then 1 else 0
theorem cvf_dl : ∀ (h : List Int) (n : Nat), cvf h dl n = gD h n
  | [], n => by simp [cvf, gD]
  | w :: h, 0 => by simp [cvf, dl, gD]
  | w :: h, n + 1 => by
    simp only [cvf, cvf_dl h n]
    simp [dl, gD]
theorem cvf_far : ∀ (h : List Int) (s : List Int) (n : Nat), s ≠ [] → h.length + s.length - 1 ≤ n → cvf h (gD s) n = 0
  | [], s, n, _, _ => rfl
  | w :: h, s, 0, hs, hn => by
    have : 1 ≤ s.length := by cases s <;> simp_all
    simp only [List.length_cons] at hn
    omega
  | w :: h, s, n + 1, hs, hn => by
    have h1 : 1 ≤ s.length := by cases s <;> simp_all
    simp only [List.length_cons] at hn
    have e : gD s (n + 1) = 0 := by
      rw [gD, List.getD_eq_getElem?_getD, List.getElem?_eq_none (by omega)]
      rfl
    rw [cvf, e, cvf_far h s n hs (by omega)]
    simp
theorem gD_Lf (f : Nat → Int) (N n : Nat) : gD (Lf f N) n = if n < N then f n else 0 := by
  by_cases c : n < N
  · rw [if_pos c, gD, List.getD_eq_getElem?_getD]
    simp [Lf, c]
  · rw [if_neg c, gD, List.getD_eq_getElem?_getD, List.getElem?_eq_none (by rw [Lf_length]; omega)]
    rfl
theorem gD_conv (h s : List Int) (n : Nat) (hs : s ≠ []) : gD (conv h s) n = cvf h (gD s) n := by
  rw [conv, if_neg hs, gD_Lf]
  by_cases c : n < h.length + s.length - 1
  · rw [if_pos c, cv_cvf]
  · rw [if_neg c, cvf_far h s n hs (by omega)]
theorem list_gD {a b : List Int} (hl : a.length = b.length) (h : ∀ n, gD a n = gD b n) : a = b := by
  apply List.ext_getElem hl
  intro n h1 h2
  have := h n
  rw [gD, gD, List.getD_eq_getElem?_getD, List.getD_eq_getElem?_getD, List.getElem?_eq_getElem h1, List.getElem?_eq_getElem h2] at this
  exact this
theorem conv_comm {a b : List Int} (ha : a ≠ []) (hb : b ≠ []) : conv a b = conv b a := by
  apply list_gD
  · rw [conv_length a b hb, conv_length b a ha, Nat.add_comm]
  intro n
  rw [gD_conv a b n hb, gD_conv b a n ha, ← cvf_congr a n (fun i _ => cvf_dl b i), cvf_comm a dl b n]
  exact cvf_congr b n (fun i _ => cvf_dl a i)
theorem conv_ne {a b : List Int} (ha : a ≠ []) (hb : b ≠ []) : conv a b ≠ [] := by
  intro h
  have h1 := conv_length a b hb
  rw [h] at h1
  have : 1 ≤ a.length := by cases a <;> simp_all
  have : 1 ≤ b.length := by cases b <;> simp_all
  simp at h1
  omega
theorem cvf_conv {a b : List Int} (hb : b ≠ []) (f : Nat → Int) (n : Nat) (s : List Int) (hf : ∀ i, f i = gD s i) : cvf (conv a b) f n = cvf a (cvf b f) n := by
  have e1 : ∀ i, f i = cvf s dl i := fun i => (hf i).trans (cvf_dl s i).symm
  rw [cvf_congr (g := cvf s dl) (conv a b) n (fun i _ => e1 i), cvf_comm (conv a b) dl s n]
  rw [cvf_congr (g := cvf a (cvf b dl)) s n (fun i _ => by rw [cvf_dl, gD_conv a b i hb]; exact cvf_congr a i (fun j _ => (cvf_dl b j).symm))]
  rw [cvf_comm s (cvf b dl) a n]
  refine cvf_congr a n (fun i _ => ?_)
  rw [cvf_comm s dl b i]
  exact cvf_congr b i (fun j _ => (e1 j).symm)
theorem conv_assoc {a b s : List Int} (ha : a ≠ []) (hb : b ≠ []) (hs : s ≠ []) : conv b (conv a s) = conv (conv a b) s := by
  apply list_gD
  · have h1 : 1 ≤ a.length := by cases a <;> simp_all
    have h2 : 1 ≤ b.length := by cases b <;> simp_all
    have h3 : 1 ≤ s.length := by cases s <;> simp_all
    rw [conv_length b _ (conv_ne ha hs), conv_length a s hs, conv_length _ s hs, conv_length a b hb]
    omega
  intro n
  rw [gD_conv b _ n (conv_ne ha hs), gD_conv _ s n hs, cvf_conv hb (gD s) n s (fun _ => rfl), ← cvf_comm b (gD s) a n]
  exact cvf_congr b n (fun i _ => gD_conv a s i hs)
/-- the value of a list at z -/
def evz (z : Int) : List Int → Int
  | [] => 0
  | w :: t => w + z * evz z t
def evf (z : Int) : (Nat → Int) → Nat → Int
  | _, 0 => 0
  | f, n + 1 => f 0 + z * evf z (fun i => f (i + 1)) n
theorem evf_congr (z : Int) : ∀ (n : Nat) (f g : Nat → Int), (∀ i, i < n → f i = g i) → evf z f n = evf z g n
  | 0, _, _, _ => rfl
  | n + 1, f, g, h => by
    simp only [evf, h 0 (by omega), evf_congr z n (fun i => f (i + 1)) (fun i => g (i + 1)) (fun i hi => h (i + 1) (by omega))]
theorem evf_lin (z c : Int) : ∀ (n : Nat) (f g : Nat → Int), evf z (fun i => c * f i + g i) n = c * evf z f n + evf z g n
  | 0, _, _ => by simp [evf]
  | n + 1, f, g => by
    simp only [evf, evf_lin z c n (fun i => f (i + 1)) (fun i => g (i + 1))]
    grind
theorem evf_gD (z : Int) : ∀ (l : List Int) (n : Nat), l.length ≤ n → evf z (gD l) n = evz z l
  | [], 0, _ => rfl
  | [], n + 1, _ => by
    have ih := evf_gD z [] n (by simp)
    simp only [evf, evz] at ih ⊢
    have e : evf z (fun i => gD [] (i + 1)) n = 0 := by
      rw [← ih]
      exact evf_congr z n _ _ (fun i _ => by simp [gD])
    rw [e]
    simp [gD]
  | w :: l, 0, h => by simp at h
  | w :: l, n + 1, h => by
    simp only [evf, evz]
    have e : evf z (fun i => gD (w :: l) (i + 1)) n = evz z l := by
      rw [← evf_gD z l n (by simpa using h)]
      exact evf_congr z n _ _ (fun i _ => by simp [gD])
    rw [e]
    simp [gD]
theorem evf_cvf (z : Int) (s : List Int) (hs : s ≠ []) : ∀ (h : List Int) (n : Nat), h.length + s.length - 1 ≤ n → evf z (cvf h (gD s)) n = evz z h * evz z s
  | [], n, _ => by
    have e : ∀ (n : Nat), evf z (cvf [] (gD s)) n = 0 := by
      intro n
      have : ∀ n, evf z (fun _ => (0 : Int)) n = 0 := by
        intro n
        induction n with
        | zero => rfl
        | succ n ih => simp [evf, ih]
      rw [← this n]
      exact evf_congr z n _ _ (fun i _ => rfl)
    rw [e n]
    simp [evz]
  | w :: h, n, hn => by
    have h1 : 1 ≤ s.length := by cases s <;> simp_all
    simp only [List.length_cons] at hn
    obtain ⟨m, rfl⟩ : ∃ m, n = m + 1 := ⟨n - 1, by omega⟩
    rw [evf_congr z (m + 1) _ (fun i => w * gD s i + Sh (cvf h (gD s)) i) (fun i _ => cvf_cons w h (gD s) i), evf_lin, evf_gD z s (m + 1) (by omega)]
    have e : evf z (Sh (cvf h (gD s))) (m + 1) = z * (evz z h * evz z s) := by
      rw [evf]
      have : evf z (fun i => Sh (cvf h (gD s)) (i + 1)) m = evz z h * evz z s := by
        rw [← evf_cvf z s hs h m (by omega)]
        exact evf_congr z m _ _ (fun i _ => rfl)
      rw [this]
      simp [Sh]
    rw [e, evz]
    grind
theorem evz_conv (z : Int) {h s : List Int} (hs : s ≠ []) : evz z (conv h s) = evz z h * evz z s := by
  rw [← evf_gD z (conv h s) (h.length + s.length - 1) (by rw [conv_length h s hs]; omega), ← evf_cvf z s hs h (h.length + s.length - 1) (by omega)]
  exact evf_congr z _ _ _ (fun i _ => gD_conv h s i hs)

def weighM (h : List Int) : List Int × Bool := if wts h = true then (h, true) else ([], false)
theorem impl_weighed_ev (h : List Int) (hl : h.length ≤ 1000000) : Ev (fun k => impl_weighed.f k h) (weighM h) := by
  simp only [impl_weighed.f, weighM]
  refine Ev.bind (impl_isWeights_ev h (by omega)) ?_
  by_cases c : wts h = true
  · exact Ev.tt c (Ev.to (Ev.now _) (by rw [if_pos c]))
  · exact Ev.ff c (Ev.to (Ev.now _) (by rw [if_neg c]))

theorem spec_weIf_ev (h : List Int) (hl : h.length ≤ 1000000) : Ev (fun k => spec_weIf.f k h) (weighM h) := by
  simp only [spec_weIf.f, weighM]
  refine Ev.bind (spec_weGood_ev h (by omega)) ?_
  by_cases c : wts h = true
  · exact Ev.tt c (Ev.to (Ev.now _) (by rw [if_pos c]))
  · exact Ev.ff c (Ev.to (Ev.now _) (by rw [if_neg c]))

theorem wt_prod {h s : List Int} {A B : Int} (hA : 0 ≤ A) (hB : 0 ≤ B) (hh : ∀ a ∈ h, -A ≤ a ∧ a ≤ A) (hs : ∀ x ∈ s, -B ≤ x ∧ x ≤ B) : ∀ a ∈ h, ∀ x ∈ s, -(A * B) ≤ a * x ∧ a * x ≤ A * B := by
  intro a ha x hx
  have h1 := hh a ha
  have h2 := hs x hx
  have h : (a * x).natAbs ≤ A.toNat * B.toNat := by
    rw [Int.natAbs_mul]
    exact Nat.mul_le_mul (by omega) (by omega)
  have e : ((A.toNat * B.toNat : Nat) : Int) = A * B := by
    rw [Int.natCast_mul, Int.toNat_of_nonneg hA, Int.toNat_of_nonneg hB]
  omega
theorem conv_len_le (h s : List Int) : (conv h s).length ≤ h.length + s.length := by
  by_cases c : s = []
  · rw [conv, if_pos c]; simp
  · rw [conv_length h s c]; omega

def filtM (h s : List Int) : List Int × Bool := if (wts h && sig s) = true then toldM (conv h s) else ([], false)
theorem filt_ans {h s : List Int} (c : (wts h && sig s) = true) : Ev (fun k => impl_answer.f k h s) (conv h s) := by
  simp only [Bool.and_eq_true] at c
  have h1 := wts_len c.1
  have h2 := sig_len c.2
  exact impl_answer_ev h s (1000 * 100000) (by omega) (by omega) (by omega) (wt_prod (by omega) (by omega) (wts_mem c.1) (sig_mem c.2)) (by omega)
theorem filt_len {h s : List Int} (c : (wts h && sig s) = true) : (conv h s).length ≤ 73 := by
  simp only [Bool.and_eq_true] at c
  have h1 := wts_len c.1
  have h2 := sig_len c.2
  have := conv_len_le h s
  omega
theorem conv_ge {h s : List Int} (c : wts h = true) : s.length ≤ (conv h s).length := by
  by_cases e : s = []
  · rw [e]; simp
  · have := wts_len c
    rw [conv_length h s e]
    omega

def shortM (h s : List Int) : List Int × Bool := if (wts h && sig s) = true then toldM ((conv h s).take s.length) else ([], false)

theorem impl_FilterShort_ev (h s : List Int) (hh : h.length ≤ 1000000) (hs : s.length ≤ 1000000) : Ev (fun k => impl_FilterShort.f k h s) (shortM h s) := by
  simp only [impl_FilterShort.f]
  refine Ev.bind (impl_isWeights_ev h (by omega)) ?_
  by_cases c : wts h = true
  · refine Ev.tt c (Ev.bind (impl_isSignal_ev s (by omega)) ?_)
    by_cases d : sig s = true
    · have cd : (wts h && sig s) = true := by rw [c, d]; rfl
      rw [d, shortM, if_pos cd]
      have := filt_len cd
      have hg := conv_ge (s := s) c
      refine Ev.step (fun k => by simp only [impl_FilterShort.j0]; rfl) (Ev.ff (by decide) (Ev.bind (filt_ans cd) (Ev.tt (Int.natCast_nonneg _) (Ev.tt (Int.ofNat_le.2 hg) ?_))))
      rw [Int.toNat_natCast]
      exact Ev.bind (impl_told_ev _ (by rw [List.length_take]; omega)) (Ev.now _)
    · rw [Bool.eq_false_iff.mpr d, shortM, Bool.eq_false_iff.mpr d, Bool.and_false, if_neg (by decide)]
      exact Ev.step (fun k => by simp only [impl_FilterShort.j0]; rfl) (Ev.tt (by decide) (Ev.now _))
  · rw [shortM, Bool.eq_false_iff.mpr c, Bool.false_and, if_neg (by decide)]
    refine Ev.ff (by decide) ?_
    exact Ev.step (fun k => by simp only [impl_FilterShort.j0]; rfl) (Ev.tt (by decide) (Ev.now _))

theorem spec_weBack_ev (l : List Int) (hl : l.length ≤ 1000) : ∃ r, Ev (fun k => spec_weBack.f k l) r ∧ r.length = l.length ∧ ∀ x ∈ r, x ∈ l := by
  have key : ∀ (n : Nat) (q : List Int), n ≤ l.length → q.length + n ≤ 1000 → (∀ x ∈ q, x ∈ l) → ∃ r, Ev (fun k => spec_weBack.l0 k l q ((n : Int) - 1)) r ∧ r.length = q.length + n ∧ ∀ x ∈ r, x ∈ l := by
    intro n
    induction n with
    | zero =>
      intro q h h2 hq
      refine ⟨q, Ev.step (f := fun _ => some q) (fun k => ?_) (Ev.now _), by omega, hq⟩
      simp [spec_weBack.l0]
    | succ n ih =>
      intro q h h2 hq
      have hm : rd l (n : Int) ∈ l := by
        rw [rd_getD, List.getD_eq_getElem?_getD, List.getElem?_eq_getElem (by omega)]
        exact List.getElem_mem (by omega)
      obtain ⟨r, hr, hrl, hrm⟩ := ih (q ++ [rd l (n : Int)]) (by omega) (by simp; omega) (fun x hx => by
        rcases List.mem_append.1 hx with hx | hx
        · exact hq x hx
        · simp at hx
          rw [hx]
          exact hm)
      refine ⟨r, Ev.step (fun k => by simp only [spec_weBack.l0]; rfl) ?_, by simp at hrl; omega, hrm⟩
      have e : ((n + 1 : Nat) : Int) - 1 = (n : Int) := by omega
      rw [e, w64 (n := (n : Int) - 1) (by omega) (by omega)]
      exact Ev.tt (by omega) (Ev.tt (by omega) (Ev.tt (by omega) (Ev.tt (by omega) hr)))
  obtain ⟨r, hr, hrl, hrm⟩ := key l.length [] (Nat.le_refl _) (by simp; omega) (fun x hx => by simp at hx)
  refine ⟨r, ?_, by simpa using hrl, hrm⟩
  simp only [spec_weBack.f]
  rw [w64 (n := (l.length : Int) - 1) (by omega) (by omega)]
  exact hr
theorem spec_wdScale_ex (l : List Int) (c : Int) (hl : l.length ≤ 1000) : ∃ r, Ev (fun k => spec_wdScale.f k l c) r ∧ r.length = l.length := by
  have key : ∀ (t p q : List Int), l = p ++ t → q.length = p.length → ∃ r, Ev (fun k => spec_wdScale.l0 k c q l (l.length : Int) (p.length : Int)) r ∧ r.length = l.length := by
    intro t
    induction t with
    | nil =>
      intro p q h hq
      refine ⟨q, Ev.step (f := fun _ => some q) (fun k => ?_) (Ev.now _), by rw [h]; simp [hq]⟩
      subst h
      simp [spec_wdScale.l0]
    | cons x t ih =>
      intro p q h hq
      have e1 : (p.length : Int) < (l.length : Int) := by rw [h]; exact lt_mid p t x
      have e3 : wrap64 ((p.length : Int) + 1) = ((p ++ [x]).length : Int) := nx_mid p t x (by rw [← h]; omega)
      obtain ⟨r, hr, hrl⟩ := ih (p ++ [x]) (q ++ [wrap64 (c * rd l (p.length : Int))]) (by simp [h]) (by simp [hq])
      refine ⟨r, Ev.step (fun k => by simp only [spec_wdScale.l0]; rfl) ?_, hrl⟩
      rw [e3]
      exact Ev.tt e1 (Ev.tt (Int.natCast_nonneg _) (Ev.tt e1 (Ev.tt (by omega) hr)))
  obtain ⟨r, hr, hrl⟩ := key l [] [] rfl rfl
  refine ⟨r, ?_, hrl⟩
  simp only [spec_wdScale.f]
  exact hr
theorem weights_l0 {l : List Int} (hl : Bytes l) : ∀ (n : Nat) (q : List Int) (a sd : Int), q.length + n ≤ 100 → 0 ≤ a → a + 10 * n ≤ 100000000000 → ∃ s a' sd', Ev (fun k => spec_l1Cur_weights.l0 k q (n : Int) l a sd) (s, a', sd') ∧ s.length ≤ 300 ∧ a ≤ a' ∧ a' ≤ a + 10 * n + 10
  | 0, q, a, sd, hq, h0, h1 => by
    obtain ⟨u, a1, sd1, e1, ha1, hb1, -⟩ := pick_ok hl a sd 16 h0 (by omega) (by omega)
    have wrapv : ∀ {r : List Int × Int × Int}, r.1.length ≤ 300 → a ≤ r.2.1 → r.2.1 ≤ a + 10 → Ev (fun k => spec_l1Cur_weights.l0 k q ((0 : Nat) : Int) l a sd) r → ∃ s a' sd', Ev (fun k => spec_l1Cur_weights.l0 k q ((0 : Nat) : Int) l a sd) (s, a', sd') ∧ s.length ≤ 300 ∧ a ≤ a' ∧ a' ≤ a + 10 * ((0 : Nat) : Int) + 10 := fun {r} g1 g2 g3 h => ⟨r.1, r.2.1, r.2.2, h, g1, g2, by simpa using g3⟩
    by_cases c0 : u = 0
    · obtain ⟨v, a2, sd2, e2, ha2, hb2, -⟩ := one_ok hl a1 sd1 2 (by omega) (by omega) (by omega)
      by_cases d : v = true
      · refine wrapv (r := (q, a2, sd2)) (by simp; omega) (by simp; omega) (by simp; omega) (Ev.step (fun k => by simp only [spec_l1Cur_weights.l0, spec_l1Cur_among2.f, e1, e2, Option.bind_some, if_pos c0, if_pos d]; rfl) ?_)
        exact Ev.ff (by omega) (Ev.now _)
      · refine wrapv (r := ([], a2, sd2)) (by simp) (by simp; omega) (by simp; omega) (Ev.step (fun k => by simp only [spec_l1Cur_weights.l0, spec_l1Cur_among2.f, e1, e2, Option.bind_some, if_pos c0, if_neg d]; rfl) ?_)
        exact Ev.ff (by omega) (Ev.now _)
    by_cases c1 : u = 1
    · obtain ⟨v, a2, sd2, e2, ha2, hb2, -⟩ := among_ok hl a1 sd1 [1000, (-1000), 1001, 4611686018427387904] (by omega) (by omega) (by simp) (by simp)
      refine wrapv (r := (q ++ [v], a2, sd2)) (by simp; omega) (by simp; omega) (by simp; omega) (Ev.step (fun k => by simp only [spec_l1Cur_weights.l0, e1, e2, Option.bind_some, if_neg c0, if_pos c1]; rfl) ?_)
      exact Ev.ff (by omega) (Ev.tt (by omega) (Ev.now _))
    by_cases c2 : u = 2
    · obtain ⟨v, a2, sd2, e2, ha2, hb2, hv, hv2⟩ := pick_ok hl a1 sd1 2 (by omega) (by omega) (by omega)
      have e3 : wrap64 (9 + v) = 9 + v := w64 (by omega) (by omega)
      refine wrapv (r := (List.replicate (9 + v).toNat 0, a2, sd2)) (by simp; omega) (by simp; omega) (by simp; omega) (Ev.step (fun k => by simp only [spec_l1Cur_weights.l0, e1, e2, e3, Option.bind_some, if_neg c0, if_neg c1, if_pos c2]; rfl) ?_)
      exact Ev.ff (by omega) (Ev.tt (by omega) (Ev.tt (by omega) (Ev.now _)))
    by_cases c3 : u = 3
    · obtain ⟨r, hr, hrl, -⟩ := spec_weBack_ev q (by omega)
      refine wrapv (r := (r ++ q, a1, sd1)) (by simp; omega) (by simp; omega) (by simp; omega) (Ev.step (fun k => by simp only [spec_l1Cur_weights.l0, e1, Option.bind_some, if_neg c0, if_neg c1, if_neg c2, if_pos c3]; rfl) ?_)
      exact Ev.ff (by omega) (Ev.bind hr (Ev.tt (by omega) (Ev.now _)))
    by_cases c4 : u = 4
    · obtain ⟨r, hr, hrl, -⟩ := spec_weBack_ev q (by omega)
      obtain ⟨r2, hr2, hrl2⟩ := spec_wdScale_ex r (-1) (by omega)
      refine wrapv (r := (r2 ++ q, a1, sd1)) (by simp; omega) (by simp; omega) (by simp; omega) (Ev.step (fun k => by simp only [spec_l1Cur_weights.l0, e1, Option.bind_some, if_neg c0, if_neg c1, if_neg c2, if_neg c3, if_pos c4]; rfl) ?_)
      exact Ev.ff (by omega) (Ev.bind hr (Ev.bind hr2 (Ev.tt (by omega) (Ev.now _))))
    refine wrapv (r := (q, a1, sd1)) (by simp; omega) (by simp; omega) (by simp; omega) (Ev.step (fun k => by simp only [spec_l1Cur_weights.l0, e1, Option.bind_some, if_neg c0, if_neg c1, if_neg c2, if_neg c3, if_neg c4]; rfl) ?_)
    exact Ev.ff (by omega) (Ev.now _)
  | n + 1, q, a, sd, hq, h0, h1 => by
    obtain ⟨v, a2, sd2, e2, ha2, hb2, -⟩ := pick_ok hl a sd 9 h0 (by omega) (by omega)
    have e3 : wrap64 (((n + 1 : Nat) : Int) - 1) = (n : Int) := by
      rw [w64 (n := ((n + 1 : Nat) : Int) - 1) (by omega) (by omega)]
      omega
    obtain ⟨s, a', sd', h, hs1, ha, hb⟩ := weights_l0 hl n (q ++ [wrap64 (v - 4)]) a2 sd2 (by simp; omega) (by omega) (by omega)
    refine ⟨s, a', sd', Ev.step (fun k => by simp only [spec_l1Cur_weights.l0, e2, e3, Option.bind_some]; rfl) ?_, hs1, by omega, by omega⟩
    exact Ev.tt (by omega) (Ev.tt (by omega) h)
theorem weights_ok {l : List Int} (hl : Bytes l) (a sd : Int) (h0 : 0 ≤ a) (h1 : a ≤ 1000000000) : ∃ s a' sd', Ev (fun k => spec_l1Cur_weights.f k l a sd) (s, a', sd') ∧ s.length ≤ 300 ∧ a ≤ a' ∧ a' ≤ a + 1000 := by
  obtain ⟨u, a1, sd1, e1, ha1, hb1, hu, hu2⟩ := pick_ok hl a sd 5 h0 (by omega) (by omega)
  obtain ⟨n, hn⟩ : ∃ n : Nat, 1 + u = (n : Int) := ⟨(1 + u).toNat, by omega⟩
  obtain ⟨s, a', sd', h, hs1, ha, hb⟩ := weights_l0 hl n [] a1 sd1 (by simp; omega) (by omega) (by omega)
  refine ⟨s, a', sd', ?_, hs1, by omega, by omega⟩
  simp only [spec_l1Cur_weights.f]
  refine Ev.dbind e1 ?_
  rw [w64 (n := 1 + u) (by omega) (by omega), hn]
  exact h

theorem iSameD_l0 (l m : List Int) (hlm : l.length = m.length) (hl : l.length ≤ 1000000) : ∀ (t p : List Int), l = p ++ t → p = m.take p.length → Ev (fun k => laws_iSame.l0 k l m (l.length : Int) (p.length : Int)) (decide (l = m))
  | [], p, h, hp => by
    have e : l = m := by
      have hpl : p.length = m.length := by rw [← hlm, h]; simp
      rw [hpl, List.take_length] at hp
      rw [h, List.append_nil]
      exact hp
    rw [decide_eq_true e]
    refine Ev.step (f := fun _ => some true) (fun k => ?_) (Ev.now _)
    subst h
    simp [laws_iSame.l0]
  | x :: t, p, h, hp => by
    have e1 : (p.length : Int) < (l.length : Int) := by rw [h]; exact lt_mid p t x
    have e2 : rd l (p.length : Int) = x := by rw [h]; exact rd_mid p t x
    have e3 : wrap64 ((p.length : Int) + 1) = ((p ++ [x]).length : Int) := nx_mid p t x (by rw [← h]; omega)
    have hpm : p.length < m.length := by omega
    have e4 : rd m (p.length : Int) = m[p.length] := by
      rw [rd_getD, List.getD_eq_getElem?_getD, List.getElem?_eq_getElem hpm]
      rfl
    refine Ev.step (fun k => by simp only [laws_iSame.l0]; rfl) ?_
    rw [e2, e3, e4]
    refine Ev.tt e1 (Ev.tt (Int.natCast_nonneg _) (Ev.tt e1 (Ev.tt (by omega) ?_)))
    by_cases c : x = m[p.length]
    · refine Ev.tt c (iSameD_l0 l m hlm hl t (p ++ [x]) (by simp [h]) ?_)
      rw [List.length_append, List.length_singleton, List.take_succ_eq_append_getElem hpm, ← hp, c]
    · refine Ev.ff c (Ev.to (Ev.now _) (decide_eq_false (fun e => c ?_)).symm)
      subst e
      have : (p ++ x :: t)[p.length]'(by simp) = x := by simp
      simp only [h] at *
      simp
theorem iSameD_ev (l m : List Int) (hl : l.length ≤ 1000000) : Ev (fun k => laws_iSame.f k l m) (decide (l = m)) := by
  simp only [laws_iSame.f]
  by_cases c : l.length = m.length
  · exact Ev.tt (by omega) (iSameD_l0 l m c hl l [] rfl rfl)
  · refine Ev.ff (by omega) (Ev.to (Ev.now _) (decide_eq_false (fun e => c (by rw [e]))).symm)

def dropS (l : List Int) (R f : Int) : List Int × Bool := if sig l = true ∧ (1 ≤ R ∧ R ≤ 8) ∧ (0 ≤ f ∧ f ≤ R - 1) then (dropM l R.toNat f.toNat, true) else ([], false)

theorem impl_DropSamples_ev (l : List Int) (R f : Int) (hl : l.length ≤ 1000000) : Ev (fun k => impl_DropSamples.f k l R f) (dropS l R f) := by
  simp only [impl_DropSamples.f]
  refine Ev.bind (impl_isSignal_ev l (by omega)) ?_
  by_cases c : sig l = true
  · refine Ev.tt c (Ev.dbind (impl_isRate_eq R) ?_)
    by_cases d : 1 ≤ R ∧ R ≤ 8
    · have hd : (decide (1 ≤ R) && decide (R ≤ 8)) = true := by simp [d.1, d.2]
      refine Ev.tt hd (Ev.dbind (impl_in_eq f 0 _) ?_)
      rw [w64 (n := R - 1) (by omega) (by omega)]
      by_cases e : 0 ≤ f ∧ f ≤ R - 1
      · have he : (decide (0 ≤ f) && decide (f ≤ R - 1)) = true := by simp [e.1, e.2]
        rw [dropS, if_pos ⟨c, d, e⟩]
        obtain ⟨R, rfl⟩ : ∃ n : Nat, R = (n : Int) := ⟨R.toNat, by omega⟩
        obtain ⟨f, rfl⟩ : ∃ n : Nat, f = (n : Int) := ⟨f.toNat, by omega⟩
        have := sig_len c
        exact Ev.tt he (Ev.bind (impl_drop_ev l R f (by omega) (by omega) (by omega) (by omega)) (Ev.now _))
      · rw [dropS, if_neg (fun h => e h.2.2)]
        refine Ev.ff ?_ (Ev.now _)
        simp only [Bool.and_eq_true, decide_eq_true_eq]
        exact e
    · rw [dropS, if_neg (fun h => d h.2.1)]
      refine Ev.ff ?_ (Ev.now _)
      simp only [Bool.and_eq_true, decide_eq_true_eq]
      exact d
  · rw [dropS, if_neg (fun h => c h.1)]
    exact Ev.ff c (Ev.now _)

def cntOk (h : List Int) (n p q : Int) : Bool := wts h && (decide (0 ≤ n ∧ n ≤ 64) && (ratio p q && decide (n * p ≤ 64)))
theorem cntOk_iff {h : List Int} {n p q : Int} : cntOk h n p q = true ↔ wts h = true ∧ (0 ≤ n ∧ n ≤ 64) ∧ ratio p q = true ∧ n * p ≤ 64 := by simp only [cntOk, Bool.and_eq_true, decide_eq_true_eq]
theorem np_bd {n p : Int} (h0 : 0 ≤ n ∧ n ≤ 64) (h1 : 1 ≤ p ∧ p ≤ 8) : 0 ≤ n * p ∧ n * p ≤ 512 := by
  have a := Int.mul_nonneg h0.1 (show 0 ≤ p by omega)
  have b : n * p ≤ 64 * p := Int.mul_le_mul_of_nonneg_right h0.2 (by omega)
  omega

theorem impl_isProducts_ev (h : List Int) (n p q : Int) (hh : h.length ≤ 1000000) : Ev (fun k => impl_isProducts.f k h n p q) (cntOk h n p q) := by
  simp only [impl_isProducts.f]
  refine Ev.bind (impl_isWeights_ev h (by omega)) ?_
  by_cases c : wts h = true
  · refine Ev.tt c (Ev.dbind (impl_in_eq n 0 64) ?_)
    by_cases d : 0 ≤ n ∧ n ≤ 64
    · refine Ev.tt (by simp [d.1, d.2]) (Ev.dbind (impl_isRatio_eq p q) ?_)
      by_cases e : ratio p q = true
      · have := np_bd d (ratio_iff.1 e).1
        refine Ev.tt e (Ev.to (Ev.now _) ?_)
        rw [w64 (n := n * p) (by omega) (by omega), cntOk, c, e, decide_eq_true d]
        rfl
      · exact Ev.ff e (Ev.to (Ev.now _) (by rw [cntOk, Bool.eq_false_iff.mpr e]; simp))
    · refine Ev.ff (by simp; omega) (Ev.to (Ev.now _) (by rw [cntOk, decide_eq_false d]; simp))
  · exact Ev.ff c (Ev.to (Ev.now _) (by rw [cntOk, Bool.eq_false_iff.mpr c]; simp))

theorem spec_rsCount_ev (h : List Int) (n p q : Int) (hh : h.length ≤ 1000000) : Ev (fun k => spec_rsCount.f k h n p q) (cntOk h n p q) := by
  simp only [spec_rsCount.f]
  refine Ev.bind (spec_weGood_ev h (by omega)) ?_
  by_cases c : wts h = true
  · refine Ev.tt c (Ev.dbind (spec_l1In_eq n 0 64) ?_)
    by_cases d : 0 ≤ n ∧ n ≤ 64
    · refine Ev.tt (by simp [d.1, d.2]) (Ev.dbind (spec_rsRatio_eq p q) ?_)
      by_cases e : ratio p q = true
      · have := np_bd d (ratio_iff.1 e).1
        refine Ev.tt e (Ev.to (Ev.now _) ?_)
        rw [w64 (n := n * p) (by omega) (by omega), cntOk, c, e, decide_eq_true d]
        rfl
      · exact Ev.ff e (Ev.to (Ev.now _) (by rw [cntOk, Bool.eq_false_iff.mpr e]; simp))
    · refine Ev.ff (by simp; omega) (Ev.to (Ev.now _) (by rw [cntOk, decide_eq_false d]; simp))
  · exact Ev.ff c (Ev.to (Ev.now _) (by rw [cntOk, Bool.eq_false_iff.mpr c]; simp))

def psum (f : Nat → Nat) : Nat → Nat
  | 0 => 0
  | n + 1 => psum f n + f n
theorem psum_le (f : Nat → Nat) (M : Nat) (h : ∀ i, f i ≤ M) : ∀ n, psum f n ≤ n * M
  | 0 => by simp [psum]
  | n + 1 => by
    have := psum_le f M h n
    have := h n
    simp only [psum, Nat.succ_mul]
    omega
theorem psum_mono (f : Nat → Nat) {a : Nat} : ∀ b, a ≤ b → psum f a ≤ psum f b
  | 0, h => by
    have : a = 0 := by omega
    subst this
    exact Nat.le_refl _
  | b + 1, h => by
    by_cases e : a = b + 1
    · subst e
      exact Nat.le_refl _
    · have := psum_mono f b (show a ≤ b by omega)
      simp only [psum]
      omega
theorem nx1n {n : Nat} (h : n + 1 ≤ 1000000000) : wrap64 ((n : Int) + 1) = ((n + 1 : Nat) : Int) := by
  rw [w64 (n := (n : Int) + 1) (by omega) (by omega)]
  omega
theorem mn_min (a b : Nat) : mn (a : Int) (b : Int) = ((min a b : Nat) : Int) := by
  unfold mn
  split <;> omega
def dterm (h : List Int) (i : Nat) : Nat := min h.length (i + 1)
def prodD (h : List Int) (n p q : Int) : Int × Bool := if cntOk h n p q = true then (((psum (dterm h) (n.toNat * p.toNat) : Nat) : Int), true) else (0, false)
theorem dterm_sum {h : List Int} (hh : h.length ≤ 9) (i : Nat) : psum (dterm h) i ≤ i * 9 := by
  exact psum_le _ 9 (fun j => by unfold dterm; omega) i
theorem impl_prodD_l0 (h : List Int) (N : Nat) (hh : h.length ≤ 9) (hN : N ≤ 1000) : ∀ (d i : Nat), i + d = N → Ev (fun k => impl_ProductsDirect.l0 k h ((psum (dterm h) i : Nat) : Int) (N : Int) (i : Int)) (((psum (dterm h) N : Nat) : Int), true)
  | 0, i, e => by
    have e' : i = N := e
    subst e'
    exact Ev.step (f := fun _ => some (((psum (dterm h) i : Nat) : Int), true)) (fun k => by simp [impl_ProductsDirect.l0]) (Ev.now _)
  | d + 1, i, e => by
    have ih := impl_prodD_l0 h N hh hN d (i + 1) (by omega)
    have hs := dterm_sum hh i
    have e1 : wrap64 ((i : Int) + 1) = ((i + 1 : Nat) : Int) := w64_nat i 1 (by omega)
    have e2 : wrap64 (((psum (dterm h) i : Nat) : Int) + ((min h.length (i + 1) : Nat) : Int)) = ((psum (dterm h) (i + 1) : Nat) : Int) := by
      rw [w64 (n := ((psum (dterm h) i : Nat) : Int) + ((min h.length (i + 1) : Nat) : Int)) (by omega) (by omega)]
      simp only [psum, dterm]
      omega
    refine Ev.step (fun k => by simp only [impl_ProductsDirect.l0]; rfl) ?_
    rw [e1, mn_min, e2]
    exact Ev.tt (by omega) ih
theorem spec_prodD_l0 (h : List Int) (n p : Nat) (hh : h.length ≤ 9) (hN : n * p ≤ 1000) : ∀ (d i : Nat), i + d = n * p → Ev (fun k => spec_ProductsDirect.l0 k h (n : Int) (p : Int) ((psum (dterm h) i : Nat) : Int) (i : Int)) (((psum (dterm h) (n * p) : Nat) : Int), true)
  | 0, i, e => by
    have e' : i = n * p := e
    have ew : wrap64 ((n : Int) * (p : Int)) = ((n * p : Nat) : Int) := by rw [← Int.natCast_mul, w64n (a := n * p) (by omega)]
    refine Ev.step (fun k => by simp only [spec_ProductsDirect.l0]; rfl) ?_
    rw [ew, e']
    exact Ev.ff (by omega) (Ev.now _)
  | d + 1, i, e => by
    have ih := spec_prodD_l0 h n p hh hN d (i + 1) (by omega)
    have hs := dterm_sum hh i
    have ew : wrap64 ((n : Int) * (p : Int)) = ((n * p : Nat) : Int) := by rw [← Int.natCast_mul, w64n (a := n * p) (by omega)]
    have e1 : wrap64 ((i : Int) + 1) = ((i + 1 : Nat) : Int) := w64_nat i 1 (by omega)
    have e2 : wrap64 (((psum (dterm h) i : Nat) : Int) + ((min h.length (i + 1) : Nat) : Int)) = ((psum (dterm h) (i + 1) : Nat) : Int) := by
      rw [w64 (n := ((psum (dterm h) i : Nat) : Int) + ((min h.length (i + 1) : Nat) : Int)) (by omega) (by omega)]
      simp only [psum, dterm]
      omega
    have el : spec_l1Least.f (h.length : Int) ((i + 1 : Nat) : Int) = some ((min h.length (i + 1) : Nat) : Int) := by
      unfold spec_l1Least.f
      split
      · congr 1
        omega
      · congr 1
        omega
    refine Ev.step (fun k => by simp only [spec_ProductsDirect.l0]; rfl) ?_
    rw [ew, e1]
    refine Ev.tt (by omega) (Ev.dbind el ?_)
    rw [e2]
    exact ih
theorem impl_ProductsDirect_ev (h : List Int) (n p q : Int) (hh : h.length ≤ 1000000) : Ev (fun k => impl_ProductsDirect.f k h n p q) (prodD h n p q) := by
  simp only [impl_ProductsDirect.f]
  refine Ev.bind (impl_isProducts_ev h n p q hh) ?_
  by_cases c : cntOk h n p q = true
  · obtain ⟨a, b, r, hnp⟩ := cntOk_iff.1 c
    have d := ratio_iff.1 r
    have w := np_bd b d.1
    obtain ⟨n, rfl⟩ : ∃ m : Nat, n = (m : Int) := ⟨n.toNat, by omega⟩
    obtain ⟨p, rfl⟩ : ∃ m : Nat, p = (m : Int) := ⟨p.toNat, by omega⟩
    rw [← Int.natCast_mul] at w hnp
    rw [prodD, if_pos c, Int.toNat_natCast, Int.toNat_natCast]
    refine Ev.tt c ?_
    rw [← Int.natCast_mul, w64n (a := n * p) (by omega)]
    exact impl_prodD_l0 h (n * p) (wts_len a).2 (by omega) (n * p) 0 (by omega)
  · rw [prodD, if_neg c]
    exact Ev.ff c (Ev.now _)
theorem spec_ProductsDirect_ev (h : List Int) (n p q : Int) (hh : h.length ≤ 1000000) : Ev (fun k => spec_ProductsDirect.f k h n p q) (prodD h n p q) := by
  simp only [spec_ProductsDirect.f]
  refine Ev.bind (spec_rsCount_ev h n p q hh) ?_
  by_cases c : cntOk h n p q = true
  · obtain ⟨a, b, r, hnp⟩ := cntOk_iff.1 c
    have d := ratio_iff.1 r
    have w := np_bd b d.1
    obtain ⟨n, rfl⟩ : ∃ m : Nat, n = (m : Int) := ⟨n.toNat, by omega⟩
    obtain ⟨p, rfl⟩ : ∃ m : Nat, p = (m : Int) := ⟨p.toNat, by omega⟩
    rw [← Int.natCast_mul] at w hnp
    rw [prodD, if_pos c, Int.toNat_natCast, Int.toNat_natCast]
    exact Ev.tt c (spec_prodD_l0 h n p (wts_len a).2 (by omega) (n * p) 0 (by omega))
  · rw [prodD, if_neg c]
    exact Ev.ff c (Ev.now _)

def pterm (h : List Int) (p i : Nat) : Nat := min (dropM h p (i % p)).length (i / p + 1)
def pcnt (h : List Int) (N p q : Nat) : Nat := psum (fun j => pterm h p (j * q)) (dropN N q 0)
def prodP (h : List Int) (n p q : Int) : Int × Bool := if cntOk h n p q = true then (((pcnt h (n.toNat * p.toNat) p.toNat q.toNat : Nat) : Int), true) else (0, false)
theorem pterm_le (h : List Int) {p : Nat} (hp : 1 ≤ p) (i : Nat) : pterm h p i ≤ dterm h i := by
  have h1 := dropN_le (len := h.length) (rate := p) (first := i % p) hp
  have h2 : i / p ≤ i := Nat.div_le_self _ _
  unfold pterm dterm
  rw [dropM_length]
  omega
theorem few_many (h : List Int) (N p q : Nat) (hp : 1 ≤ p) (hq : 1 ≤ q) : pcnt h N p q ≤ psum (dterm h) N := by
  have key : ∀ J, psum (fun j => pterm h p (j * q)) J ≤ psum (dterm h) (J * q) := by
    intro J
    induction J with
    | zero => simp [psum]
    | succ J ih =>
      have h1 := pterm_le h hp (J * q)
      have h2 : psum (dterm h) (J * q + 1) ≤ psum (dterm h) ((J + 1) * q) := psum_mono _ _ (by rw [Nat.succ_mul]; omega)
      simp only [psum] at h2 ⊢
      omega
  unfold pcnt
  obtain ⟨J, hJ⟩ : ∃ J, dropN N q 0 = J := ⟨_, rfl⟩
  rw [hJ]
  cases J with
  | zero => simp [psum]
  | succ J =>
    have h0 := (dropN_lt (len := N) (rate := q) (first := 0) (j := J) hq).1 (by omega)
    have h1 := key J
    have h2 := pterm_le h hp (J * q)
    have h3 : psum (dterm h) (J * q + 1) ≤ psum (dterm h) N := psum_mono _ _ (by omega)
    simp only [psum] at h3 ⊢
    omega
theorem pterm_nine {h : List Int} {p : Nat} (hh : h.length ≤ 9) (hp : 1 ≤ p) (i : Nat) : pterm h p i ≤ 9 := by
  have h1 := pterm_le h hp i
  have h2 : dterm h i ≤ 9 := by
    unfold dterm
    omega
  omega
theorem pterm_sum {h : List Int} {p q : Nat} (hh : h.length ≤ 9) (hp : 1 ≤ p) (j : Nat) : psum (fun j => pterm h p (j * q)) j ≤ j * 9 := by
  exact psum_le _ 9 (fun i => pterm_nine hh hp _) j
theorem impl_prodP_l0 (h : List Int) (n p q : Nat) (hh : h.length ≤ 9) (hp : 1 ≤ p) (hq : 1 ≤ q ∧ q ≤ 8) (hN : n * p ≤ 1000) : ∀ (d j : Nat), j + d = dropN (n * p) q 0 → Ev (fun k => impl_ProductsByPhases.l0 k (n : Int) (p : Int) (q : Int) (phL h p) ((psum (fun j => pterm h p (j * q)) j : Nat) : Int) ((j * q : Nat) : Int)) (((pcnt h (n * p) p q : Nat) : Int), true)
  | 0, j, e => by
    have e' : j = dropN (n * p) q 0 := e
    have ew : wrap64 ((n : Int) * (p : Int)) = ((n * p : Nat) : Int) := by rw [← Int.natCast_mul, w64n (a := n * p) (by omega)]
    have hn : ¬ 0 + j * q < n * p := fun h => by have := (dropN_lt (len := n * p) (rate := q) (first := 0) (j := j) hq.1).2 h; omega
    refine Ev.step (fun k => by simp only [impl_ProductsByPhases.l0]; rfl) ?_
    rw [ew]
    refine Ev.ff (by omega) (Ev.to (Ev.now _) ?_)
    rw [pcnt, e']
  | d + 1, j, e => by
    have ih := impl_prodP_l0 h n p q hh hp hq hN d (j + 1) (by omega)
    have hl : 0 + j * q < n * p := (dropN_lt (len := n * p) (rate := q) (first := 0) (j := j) hq.1).1 (by omega)
    have hs := pterm_sum (q := q) hh hp j
    have hx := pterm_nine hh hp (j * q)
    have hm := Nat.mod_lt (j * q) (show 0 < p by omega)
    have hd : j * q / p ≤ j * q := Nat.div_le_self _ _
    have hjq : j ≤ j * q := Nat.le_mul_of_pos_right _ hq.1
    have hsc : (j + 1) * q = j * q + q := Nat.succ_mul _ _
    have g1 : n * p ≤ 1000000000 := by omega
    have g2 : j * q / p ≤ 1000000000 := by omega
    have g3 : j * q / p + 1 ≤ 1000000000 := by omega
    have g4 : psum (fun j => pterm h p (j * q)) j + pterm h p (j * q) ≤ 1000000000 := by omega
    have g5 : j * q + q ≤ 1000000000 := by omega
    have g6 : ((j * q : Nat) : Int) < ((n * p : Nat) : Int) := by omega
    have g7 : ¬ (p : Int) = 0 := by omega
    clear hd hjq hl hN hs hx e
    refine Ev.step (fun k => by simp only [impl_ProductsByPhases.l0]; rfl) ?_
    rw [← Int.natCast_mul, w64n g1, tm, td, w64n g2, nx1n g3, rd_phL _ _ _ hm, mn_min]
    have e4 : ((min (dropM h p (j * q % p)).length (j * q / p + 1) : Nat) : Int) = ((pterm h p (j * q) : Nat) : Int) := rfl
    have e5 : psum (fun j => pterm h p (j * q)) j + pterm h p (j * q) = psum (fun j => pterm h p (j * q)) (j + 1) := rfl
    rw [e4, w64_nat _ _ g4, e5, w64_nat _ _ g5, ← hsc]
    exact Ev.tt g6 (Ev.ff g7 (Ev.tt (Int.natCast_nonneg _) (Ev.tt (by rw [phL_length]; exact Int.ofNat_lt.2 hm) ih)))
theorem impl_ProductsByPhases_ev (h : List Int) (n p q : Int) (hh : h.length ≤ 1000000) : Ev (fun k => impl_ProductsByPhases.f k h n p q) (prodP h n p q) := by
  simp only [impl_ProductsByPhases.f]
  refine Ev.bind (impl_isProducts_ev h n p q hh) ?_
  by_cases c : cntOk h n p q = true
  · obtain ⟨a, b, r, hnp⟩ := cntOk_iff.1 c
    have d := ratio_iff.1 r
    have w := np_bd b d.1
    obtain ⟨n, rfl⟩ : ∃ m : Nat, n = (m : Int) := ⟨n.toNat, by omega⟩
    obtain ⟨p, rfl⟩ : ∃ m : Nat, p = (m : Int) := ⟨p.toNat, by omega⟩
    obtain ⟨q, rfl⟩ : ∃ m : Nat, q = (m : Int) := ⟨q.toNat, by omega⟩
    rw [← Int.natCast_mul] at w hnp
    rw [prodP, if_pos c, Int.toNat_natCast, Int.toNat_natCast, Int.toNat_natCast]
    have hw := wts_len a
    have h0 := impl_prodP_l0 h n p q hw.2 (by omega) (by omega) (by omega) (dropN (n * p) q 0) 0 (by omega)
    rw [Nat.zero_mul] at h0
    exact Ev.tt c (Ev.bind (impl_phasesOf_ev h p (by omega) (by omega) (by omega)) h0)
  · rw [prodP, if_neg c]
    exact Ev.ff c (Ev.now _)
theorem rsCnt_l1 (s : List Int) (p q : Int) (P : List (List Int)) (i : Int) (src : Nat) (hsrc : src < s.length) (hs : s.length ≤ 64) (F : List Int) (hF : F.length ≤ 9) (C : Int) : ∀ (t r : List Int), F = r ++ t → r.length ≤ src + 1 → ∀ (out : List Int), out.length ≤ 1000000 → ∀ (sum : Int) (c : Nat), c ≤ 1000 + r.length →
    (∀ v, ∃ O, Ev (fun k => spec_rsByPhases.l0 k s p q P (out ++ [v]) ((c + (min F.length (src + 1) - r.length) : Nat) : Int) (wrap64 (i + 1))) (O, C)) →
    ∃ O, Ev (fun k => spec_rsByPhases.l1 k s p q P out (c : Int) i (src : Int) sum F (F.length : Int) (r.length : Int)) (O, C) := by
  intro t
  induction t with
  | nil =>
    intro r e hr out hout sum c hc hk
    have e' : F = r := by simpa using e
    subst e'
    obtain ⟨O, h⟩ := hk sum
    have e1 : c + (min F.length (src + 1) - F.length) = c := by omega
    rw [e1] at h
    refine ⟨O, Ev.step (fun k => ?_) h⟩
    simp only [spec_rsByPhases.l1]
    rw [if_neg (by omega), if_pos (by omega)]
  | cons x t ih =>
    intro r e hr out hout sum c hc hk
    subst e
    have hrl : r.length + 1 ≤ 9 := by simp at hF; omega
    have hlen : r.length + 1 ≤ (r ++ x :: t).length := by simp
    by_cases g : r.length > src
    · obtain ⟨O, h⟩ := hk sum
      have e1 : c + (min (r ++ x :: t).length (src + 1) - r.length) = c := by omega
      rw [e1] at h
      refine ⟨O, Ev.step (fun k => ?_) h⟩
      simp only [spec_rsByPhases.l1]
      rw [if_pos (lt_mid r t x), if_pos (Int.natCast_nonneg _), if_pos (lt_mid r t x), if_pos (by omega), if_pos (by omega)]
    · have hin : ((src - r.length : Nat) : Int) < (s.length : Int) := by omega
      have ew : wrap64 ((src : Int) - (r.length : Int)) = ((src - r.length : Nat) : Int) := by
        rw [w64 (n := (src : Int) - (r.length : Int)) (by omega) (by omega)]
        omega
      obtain ⟨O, h⟩ := ih (r ++ [x]) (by simp) (by simp; omega) out hout (wrap64 (sum + wrap64 (rd (r ++ x :: t) (r.length : Int) * rd s ((src - r.length : Nat) : Int)))) (c + 1) (by simp; omega) (by
        intro v
        obtain ⟨O, h⟩ := hk v
        refine ⟨O, ?_⟩
        have e1 : c + 1 + (min (r ++ x :: t).length (src + 1) - (r ++ [x]).length) = c + (min (r ++ x :: t).length (src + 1) - r.length) := by
          have : (r ++ [x]).length = r.length + 1 := by simp
          omega
        rw [e1]
        exact h)
      refine ⟨O, Ev.step (fun k => ?_) h⟩
      simp only [spec_rsByPhases.l1]
      rw [if_pos (lt_mid r t x), if_pos (Int.natCast_nonneg _), if_pos (lt_mid r t x), if_neg (fun h => g (Int.ofNat_lt.1 h)), ew, if_pos (Int.natCast_nonneg _), if_pos hin, nx1n (n := c) (by omega), w64_suc r x (by omega)]
theorem rsCnt_l0 (h s : List Int) (p q : Nat) (hh : h.length ≤ 9) (hs : s.length ≤ 64) (hp : 1 ≤ p) (hq : 1 ≤ q) (hq8 : q ≤ 8) (hsp : s.length * p ≤ 64) : ∀ (d j : Nat), j + d = dropN (s.length * p) q 0 → ∀ out : List Int, out.length ≤ j →
    ∃ O, Ev (fun k => spec_rsByPhases.l0 k s (p : Int) (q : Int) (phL h p) out ((psum (fun j => pterm h p (j * q)) j : Nat) : Int) (j : Int)) (O, ((pcnt h (s.length * p) p q : Nat) : Int))
  | 0, j, hj, out, ho => by
    have ej : j = dropN (s.length * p) q 0 := hj
    refine ⟨out, Ev.step (fun k => by simp only [spec_rsByPhases.l0, spec_rsLength_eq s.length p q hq hq8 hsp, Option.bind_some]; rfl) ?_⟩
    exact Ev.ff (by omega) (Ev.to (Ev.now _) (by rw [pcnt, ej]))
  | d + 1, j, hj, out, ho => by
    have hj' : j + 1 + d = dropN (s.length * p) q 0 := by omega
    have hj0 : j ≤ 64 := by
      have := dropN_le (len := s.length * p) (rate := q) (first := 0) hq
      omega
    have hlt : 0 + j * q < s.length * p := (dropN_lt hq).1 (by omega)
    have hdq : j * q / p ≤ 1000000000 := Nat.le_trans (Nat.div_le_self _ _) (by omega)
    have hm := Nat.mod_lt (j * q) (show 0 < p by omega)
    have hsrc : j * q / p < s.length := (Nat.div_lt_iff_lt_mul (by omega)).2 (by omega)
    have hF : (dropM h p (j * q % p)).length ≤ 9 := by
      rw [dropM_length]
      have := dropN_le (len := h.length) (rate := p) (first := j * q % p) hp
      omega
    have hsm := pterm_sum (q := q) hh hp j
    have hjl : (j : Int) < ((dropN (s.length * p) q 0 : Nat) : Int) := by omega
    have hp0 : ¬ (p : Int) = 0 := by omega
    have hjq : j * q ≤ 1000000000 := by omega
    have ho6 : out.length ≤ 1000000 := by omega
    have hs6 : psum (fun j => pterm h p (j * q)) j ≤ 1000 + ([] : List Int).length := by simp; omega
    have hj1 : j + 1 ≤ 1000000000 := by omega
    have ih := rsCnt_l0 h s p q hh hs hp hq hq8 hsp d (j + 1) hj'
    obtain ⟨O, hc⟩ := rsCnt_l1 s (p : Int) (q : Int) (phL h p) (j : Int) (j * q / p) hsrc hs (dropM h p (j * q % p)) hF ((pcnt h (s.length * p) p q : Nat) : Int) (dropM h p (j * q % p)) [] rfl (by simp) out ho6 0 (psum (fun j => pterm h p (j * q)) j) hs6 (by
      intro v
      obtain ⟨O, h'⟩ := ih (out ++ [v]) (by simp; omega)
      refine ⟨O, ?_⟩
      rw [nx1n hj1]
      exact h')
    clear ih hs6 ho6 hsm
    refine ⟨O, Ev.step (fun k => ?_) hc⟩
    simp only [spec_rsByPhases.l0, spec_rsLength_eq s.length p q hq hq8 hsp, Option.bind_some]
    rw [if_pos hjl, if_neg hp0, ← Int.natCast_mul, w64n (a := j * q) hjq, tm, td, if_pos (Int.natCast_nonneg _), phL_length, if_pos (Int.ofNat_lt.2 hm), rd_phL _ _ _ hm, w64n (a := j * q / p) hdq]
    rfl
theorem spec_ProductsByPhases_ev (h : List Int) (n p q : Int) (hh : h.length ≤ 1000000) : Ev (fun k => spec_ProductsByPhases.f k h n p q) (prodP h n p q) := by
  simp only [spec_ProductsByPhases.f]
  refine Ev.bind (spec_rsCount_ev h n p q hh) ?_
  by_cases c : cntOk h n p q = true
  · obtain ⟨a, b, r, hnp⟩ := cntOk_iff.1 c
    have d := ratio_iff.1 r
    have w := np_bd b d.1
    obtain ⟨n, rfl⟩ : ∃ m : Nat, n = (m : Int) := ⟨n.toNat, by omega⟩
    obtain ⟨p, rfl⟩ : ∃ m : Nat, p = (m : Int) := ⟨p.toNat, by omega⟩
    obtain ⟨q, rfl⟩ : ∃ m : Nat, q = (m : Int) := ⟨q.toNat, by omega⟩
    rw [← Int.natCast_mul] at w hnp
    rw [prodP, if_pos c, Int.toNat_natCast, Int.toNat_natCast, Int.toNat_natCast]
    have hw := wts_len a
    have hl : (List.replicate n (0 : Int)).length = n := by simp
    obtain ⟨O, h0⟩ := rsCnt_l0 h (List.replicate n 0) p q hw.2 (by omega) (by omega) (by omega) (by omega) (by rw [hl]; omega) (dropN ((List.replicate n (0 : Int)).length * p) q 0) 0 (by omega) [] (by simp)
    rw [hl] at h0
    have hb : Ev (fun k => spec_rsByPhases.f k h (List.replicate n 0) (p : Int) (q : Int)) (O, ((pcnt h (n * p) p q : Nat) : Int)) := by
      simp only [spec_rsByPhases.f]
      exact Ev.bind (spec_rsPhases_ev h p (by omega) (by omega) (by omega)) h0
    exact Ev.tt c (Ev.tt (Int.natCast_nonneg _) (Ev.tt (by omega) (Ev.bind hb (Ev.now _))))
  · rw [prodP, if_neg c]
    exact Ev.ff c (Ev.now _)

theorem nx1 {n : Nat} (h : n ≤ 1000000) : wrap64 ((n : Int) + 1) = (n : Int) + 1 := w64 (by omega) (by omega)
theorem nx2 {p : List Int} (a b : Int) (h : p.length ≤ 1000000) : wrap64 ((p.length : Int) + 2) = ((p ++ [a, b]).length : Int) := by
  rw [w64 (n := (p.length : Int) + 2) (by omega) (by omega)]
  simp
theorem wr_s {n : Int} (h : -1000000 ≤ n ∧ n ≤ 1000000) : wrap64 n = n := w64 (by omega) (by omega)
theorem two_rd2 {s p t : List Int} {a b : Int} (h : s = p ++ a :: b :: t) : rd s (p.length : Int) = a ∧ rd s ((p.length : Int) + 1) = b := by
  rw [h]
  refine ⟨rd_mid p _ a, ?_⟩
  have e : (p.length : Int) + 1 = ((p ++ [a]).length : Int) := by simp
  rw [e, show p ++ a :: b :: t = (p ++ [a]) ++ b :: t by simp]
  exact rd_mid _ t b
def lowB : List Int → List Int
  | a :: b :: t => (a + b) / 2 :: lowB t
  | _ => []
def highB : List Int → List Int
  | a :: b :: t => (a - b) :: highB t
  | _ => []
def twoM (s : List Int) : List Int × List Int × Bool := if sig s = true ∧ s.length % 2 = 0 then (if sig (highB s) = true then (lowB s, highB s, true) else ([], [], false)) else ([], [], false)
theorem lowB_len : ∀ s : List Int, (lowB s).length = s.length / 2
  | [] => rfl
  | [x] => by simp [lowB]
  | a :: b :: t => by simp [lowB, lowB_len t]; omega
theorem highB_len : ∀ s : List Int, (highB s).length = s.length / 2
  | [] => rfl
  | [x] => by simp [highB]
  | a :: b :: t => by simp [highB, highB_len t]; omega
theorem impl_two_l0 {s : List Int} (hs : sig s = true) : ∀ (t p x y : List Int), s = p ++ t → t.length % 2 = 0 → x.length ≤ p.length → y.length ≤ p.length → Ev (fun k => impl_TwoBands.l0 k s x y (p.length : Int)) (if sig (y ++ highB t) = true then (x ++ lowB t, y ++ highB t, true) else ([], [], false))
  | [], p, x, y, h, _, hx, hy => by
    have hl := sig_len hs
    have e : s = p := by simpa using h
    refine Ev.step (fun k => by simp only [impl_TwoBands.l0]; rfl) ?_
    simp only [lowB, highB, List.append_nil]
    refine Ev.ff (by rw [e]; omega) (Ev.bind (impl_isSignal_ev y (by rw [e] at hl; omega)) ?_)
    by_cases c : sig y = true
    · exact Ev.to (Ev.tt c (Ev.now _)) (by rw [if_pos c])
    · exact Ev.to (Ev.ff c (Ev.now _)) (by rw [if_neg c])
  | [z], p, x, y, h, h2, _, _ => by simp at h2
  | a :: b :: t, p, x, y, h, h2, hx, hy => by
    have hl := sig_len hs
    have hm := sig_mem hs
    have ha := hm a (by rw [h]; simp)
    have hb := hm b (by rw [h]; simp)
    have hp : p.length + 2 ≤ s.length := by rw [h]; simp
    have c1 : (p.length : Int) < (s.length : Int) := by omega
    have c2 : (0 : Int) ≤ (p.length : Int) + 1 := by omega
    have c3 : (p.length : Int) + 1 < (s.length : Int) := by omega
    have c4 : x.length + 1 < 17592186044416 := by omega
    have c5 : y.length + 1 < 17592186044416 := by omega
    have b1 : -1000000 ≤ a + b ∧ a + b ≤ 1000000 := by omega
    have b2 : -1000000 ≤ a - b ∧ a - b ≤ 1000000 := by omega
    have hp6 : p.length ≤ 1000000 := by omega
    have ih := impl_two_l0 hs t (p ++ [a, b]) (x ++ [(a + b) / 2]) (y ++ [a - b]) (by simp [h]) (by simp at h2; omega) (by simp; omega) (by simp; omega)
    rw [List.append_assoc, List.append_assoc] at ih
    clear hl hp hx hy ha hb hm
    obtain ⟨e1, e2⟩ := two_rd2 h
    have e3 := nx1 hp6
    have e4 := nx2 a b hp6
    refine Ev.step (fun k => by simp only [impl_TwoBands.l0, Option.bind_some]; rfl) ?_
    rw [e3, e1, e2, e4, wr_s b1, wr_s b2]
    exact Ev.tt c1 (Ev.tt (Int.natCast_nonneg _) (Ev.tt c2 (Ev.tt c3 (Ev.tt c4 (Ev.tt c5 ih)))))
theorem shM_half (x : Int) : shM x (2 ^ 1) 0 = x / 2 := by
  unfold shM
  rw [if_neg (by omega), if_neg (by omega)]
  rfl
theorem spec_half_ev (x : Int) (hx : -1000000 ≤ x ∧ x ≤ 1000000) : Ev (fun k => spec_wdShift.f k x 1 0) (x / 2) := by
  have := spec_wdShift_ev x 1 0 (by omega) (by omega)
  rw [shM_half] at this
  exact this
theorem spec_two_l0 {s : List Int} (hs : sig s = true) : ∀ (t p x y : List Int), s = p ++ t → t.length % 2 = 0 → x.length ≤ p.length → y.length ≤ p.length → Ev (fun k => spec_TwoBands.l0 k s x y (p.length : Int)) (if sig (y ++ highB t) = true then (x ++ lowB t, y ++ highB t, true) else ([], [], false))
  | [], p, x, y, h, _, hx, hy => by
    have hl := sig_len hs
    have e : s = p := by simpa using h
    refine Ev.step (fun k => by simp only [spec_TwoBands.l0]; rfl) ?_
    simp only [lowB, highB, List.append_nil]
    refine Ev.ff (by rw [e]; omega) (Ev.bind (spec_wdSignal_ev y (by rw [e] at hl; omega)) ?_)
    by_cases c : sig y = true
    · exact Ev.to (Ev.tt c (Ev.now _)) (by rw [if_pos c])
    · exact Ev.to (Ev.ff c (Ev.now _)) (by rw [if_neg c])
  | [z], p, x, y, h, h2, _, _ => by simp at h2
  | a :: b :: t, p, x, y, h, h2, hx, hy => by
    have hl := sig_len hs
    have hm := sig_mem hs
    have ha := hm a (by rw [h]; simp)
    have hb := hm b (by rw [h]; simp)
    have hp : p.length + 2 ≤ s.length := by rw [h]; simp
    have c1 : (p.length : Int) < (s.length : Int) := by omega
    have c2 : (0 : Int) ≤ (p.length : Int) + 1 := by omega
    have c3 : (p.length : Int) + 1 < (s.length : Int) := by omega
    have c4 : x.length + 1 < 17592186044416 := by omega
    have c5 : y.length + 1 < 17592186044416 := by omega
    have b1 : -1000000 ≤ a + b ∧ a + b ≤ 1000000 := by omega
    have b2 : -1000000 ≤ a - b ∧ a - b ≤ 1000000 := by omega
    have hp6 : p.length ≤ 1000000 := by omega
    have ih := spec_two_l0 hs t (p ++ [a, b]) (x ++ [(a + b) / 2]) (y ++ [a - b]) (by simp [h]) (by simp at h2; omega) (by simp; omega) (by simp; omega)
    rw [List.append_assoc, List.append_assoc] at ih
    clear hl hp hx hy ha hb hm
    obtain ⟨e1, e2⟩ := two_rd2 h
    have e3 := nx1 hp6
    have e4 := nx2 a b hp6
    refine Ev.step (fun k => by simp only [spec_TwoBands.l0]; rfl) ?_
    rw [e3, e1, e2, e4, wr_s b1, wr_s b2]
    exact Ev.tt c1 (Ev.tt (Int.natCast_nonneg _) (Ev.tt c2 (Ev.tt c3 (Ev.bind (spec_half_ev (a + b) b1) (Ev.tt (Nat.lt_of_succ_lt c4) (Ev.tt (Nat.lt_of_succ_lt c5) ih))))))
theorem impl_TwoBands_ev (s : List Int) (hl : s.length ≤ 1000000) : Ev (fun k => impl_TwoBands.f k s) (twoM s) := by
  have no : Ev (fun k => impl_TwoBands.j0 k s true) ([], [], false) := Ev.step (fun k => by simp only [impl_TwoBands.j0]; rfl) (Ev.tt (by simp) (Ev.now _))
  simp only [impl_TwoBands.f]
  refine Ev.bind (impl_isSignal_ev s (by omega)) ?_
  by_cases c : sig s = true
  · refine Ev.tt c ?_
    by_cases d : s.length % 2 = 0
    · have e : (((s.length : Int) % 2) != 0) = false := by
        have : (s.length : Int) % 2 = 0 := by omega
        rw [this]
        rfl
      rw [e, twoM, if_pos ⟨c, d⟩]
      exact Ev.step (fun k => by simp only [impl_TwoBands.j0]; rfl) (Ev.ff (by simp) (impl_two_l0 c s [] [] [] rfl d (by simp) (by simp)))
    · have e : (((s.length : Int) % 2) != 0) = true := by
        have : (s.length : Int) % 2 = 1 := by omega
        rw [this]
        rfl
      rw [e, twoM, if_neg (fun h => d h.2)]
      exact no
  · rw [twoM, if_neg (fun h => c h.1)]
    exact Ev.ff c no
theorem spec_TwoBands_ev (s : List Int) (hl : s.length ≤ 1000000) : Ev (fun k => spec_TwoBands.f k s) (twoM s) := by
  have no : Ev (fun k => spec_TwoBands.j0 k s true) ([], [], false) := Ev.step (fun k => by simp only [spec_TwoBands.j0]; rfl) (Ev.tt (by simp) (Ev.now _))
  simp only [spec_TwoBands.f]
  refine Ev.bind (spec_wdSignal_ev s (by omega)) ?_
  by_cases c : sig s = true
  · refine Ev.tt c ?_
    by_cases d : s.length % 2 = 0
    · have e : (((s.length : Int) % 2) == 1) = false := by
        have : (s.length : Int) % 2 = 0 := by omega
        rw [this]
        rfl
      rw [e, twoM, if_pos ⟨c, d⟩]
      exact Ev.step (fun k => by simp only [spec_TwoBands.j0]; rfl) (Ev.ff (by simp) (spec_two_l0 c s [] [] [] rfl d (by simp) (by simp)))
    · have e : (((s.length : Int) % 2) == 1) = true := by
        have : (s.length : Int) % 2 = 1 := by omega
        rw [this]
        rfl
      rw [e, twoM, if_neg (fun h => d h.2)]
      exact no
  · rw [twoM, if_neg (fun h => c h.1)]
    exact Ev.ff c no

def joinB : List Int → List Int → List Int
  | m :: t, h :: u => (m + (h + 1) / 2) :: (m + (h + 1) / 2 - h) :: joinB t u
  | _, _ => []
def jbM (x y : List Int) : List Int × Bool := if (sig x = true ∧ sig y = true) ∧ x.length = y.length then toldM (joinB x y) else ([], false)
theorem joinB_len : ∀ x y : List Int, x.length = y.length → (joinB x y).length = 2 * x.length
  | [], [], _ => rfl
  | m :: t, h :: u, e => by
    have := joinB_len t u (by simpa using e)
    simp only [joinB, List.length_cons]
    omega
theorem impl_jb_l0 {x y : List Int} (hx : sig x = true) (hy : sig y = true) (he : x.length = y.length) : ∀ (t p u r o : List Int), x = p ++ t → y = r ++ u → r.length = p.length → o.length = 2 * p.length → Ev (fun k => impl_JoinBands.l0 k y o x (x.length : Int) (p.length : Int)) (toldM (o ++ joinB t u))
  | [], p, u, r, o, h, h', hr, ho => by
    have hl := sig_len hx
    have e : x = p := by simpa using h
    refine Ev.step (fun k => by simp only [impl_JoinBands.l0]; rfl) ?_
    simp only [joinB, List.append_nil]
    exact Ev.ff (by rw [e]; omega) (Ev.bind (impl_told_ev o (by rw [e] at hl; omega)) (Ev.now _))
  | m :: t, p, [], r, o, h, h', hr, ho => by
    rw [h, h'] at he
    simp at he
    omega
  | m :: t, p, v :: u, r, o, h, h', hr, ho => by
    have hl := sig_len hx
    have hm := sig_mem hx m (by rw [h]; simp)
    have hv := sig_mem hy v (by rw [h']; simp)
    have hp : p.length + 1 ≤ x.length := by rw [h]; simp
    have e1 : rd x (p.length : Int) = m := by rw [h]; exact rd_mid p _ m
    have e2 : rd y (p.length : Int) = v := by rw [h', ← hr]; exact rd_mid r _ v
    have e3 : wrap64 ((p.length : Int) + 1) = ((p ++ [m]).length : Int) := w64_suc p m (by omega)
    have ih := impl_jb_l0 hx hy he t (p ++ [m]) u (r ++ [v]) (o ++ [m + (v + 1) / 2, m + (v + 1) / 2 - v]) (by simp [h]) (by simp [h']) (by simp [hr]) (by simp; omega)
    rw [List.append_assoc] at ih
    refine Ev.step (fun k => by simp only [impl_JoinBands.l0, Option.bind_some]; rfl) ?_
    rw [e1, e2, e3, w64 (n := v + 1) (by omega) (by omega), w64 (n := m + (v + 1) / 2) (by omega) (by omega), w64 (n := m + (v + 1) / 2 - v) (by omega) (by omega)]
    exact Ev.tt (by omega) (Ev.tt (by omega) (Ev.tt (by omega) (Ev.tt (by omega) (Ev.tt (by simp; omega) ih))))
theorem spec_jb_l0 {x y : List Int} (hx : sig x = true) (hy : sig y = true) (he : x.length = y.length) : ∀ (t p u r o : List Int), x = p ++ t → y = r ++ u → r.length = p.length → o.length = 2 * p.length → Ev (fun k => spec_JoinBands.l0 k y o x (x.length : Int) (p.length : Int)) (toldM (o ++ joinB t u))
  | [], p, u, r, o, h, h', hr, ho => by
    have hl := sig_len hx
    have e : x = p := by simpa using h
    refine Ev.step (fun k => by simp only [spec_JoinBands.l0]; rfl) ?_
    simp only [joinB, List.append_nil]
    exact Ev.ff (by rw [e]; omega) (Ev.bind (spec_wdIf_ev o (by rw [e] at hl; omega)) (Ev.now _))
  | m :: t, p, [], r, o, h, h', hr, ho => by
    rw [h, h'] at he
    simp at he
    omega
  | m :: t, p, v :: u, r, o, h, h', hr, ho => by
    have hl := sig_len hx
    have hm := sig_mem hx m (by rw [h]; simp)
    have hv := sig_mem hy v (by rw [h']; simp)
    have hp : p.length + 1 ≤ x.length := by rw [h]; simp
    have e1 : rd x (p.length : Int) = m := by rw [h]; exact rd_mid p _ m
    have e2 : rd y (p.length : Int) = v := by rw [h', ← hr]; exact rd_mid r _ v
    have e3 : wrap64 ((p.length : Int) + 1) = ((p ++ [m]).length : Int) := w64_suc p m (by omega)
    have ih := spec_jb_l0 hx hy he t (p ++ [m]) u (r ++ [v]) (o ++ [m + (v + 1) / 2, m + (v + 1) / 2 - v]) (by simp [h]) (by simp [h']) (by simp [hr]) (by simp; omega)
    rw [List.append_assoc] at ih
    refine Ev.step (fun k => by simp only [spec_JoinBands.l0, Option.bind_some]; rfl) ?_
    rw [e1, e2, e3, w64 (n := v + 1) (by omega) (by omega)]
    refine Ev.tt (by omega) (Ev.tt (by omega) (Ev.tt (by omega) (Ev.tt (by omega) (Ev.bind (spec_half_ev (v + 1) (by omega)) ?_))))
    rw [w64 (n := m + (v + 1) / 2) (by omega) (by omega), w64 (n := m + (v + 1) / 2 - v) (by omega) (by omega)]
    exact Ev.tt (by simp; omega) ih
theorem impl_JoinBands_ev (x y : List Int) (hx : x.length ≤ 1000000) (hy : y.length ≤ 1000000) : Ev (fun k => impl_JoinBands.f k x y) (jbM x y) := by
  have no : Ev (fun k => impl_JoinBands.j0 k x y true) ([], false) := Ev.step (fun k => by simp only [impl_JoinBands.j0]; rfl) (Ev.tt (by simp) (Ev.now _))
  simp only [impl_JoinBands.f]
  refine Ev.bind (impl_isSignal_ev x (by omega)) ?_
  by_cases c : sig x = true
  · refine Ev.tt c (Ev.bind (impl_isSignal_ev y (by omega)) ?_)
    by_cases d : sig y = true
    · refine Ev.tt d ?_
      by_cases e : x.length = y.length
      · rw [jbM, if_pos ⟨⟨c, d⟩, e⟩, show (((x.length : Int) != (y.length : Int)) = false) by rw [e]; simp]
        exact Ev.step (fun k => by simp only [impl_JoinBands.j0]; rfl) (Ev.ff (by simp) (impl_jb_l0 c d e x [] y [] [] rfl rfl rfl rfl))
      · rw [jbM, if_neg (fun h => e h.2), show (((x.length : Int) != (y.length : Int)) = true) by simp; omega]
        exact no
    · rw [jbM, if_neg (fun h => d h.1.2)]
      exact Ev.ff d no
  · rw [jbM, if_neg (fun h => c h.1.1)]
    exact Ev.ff c no
theorem spec_JoinBands_ev (x y : List Int) (hx : x.length ≤ 1000000) (hy : y.length ≤ 1000000) : Ev (fun k => spec_JoinBands.f k x y) (jbM x y) := by
  have no : Ev (fun k => spec_JoinBands.j0 k x y true) ([], false) := Ev.step (fun k => by simp only [spec_JoinBands.j0]; rfl) (Ev.tt (by simp) (Ev.now _))
  simp only [spec_JoinBands.f]
  refine Ev.bind (spec_wdSignal_ev x (by omega)) ?_
  by_cases c : sig x = true
  · refine Ev.tt c (Ev.bind (spec_wdSignal_ev y (by omega)) ?_)
    by_cases d : sig y = true
    · refine Ev.tt d ?_
      by_cases e : x.length = y.length
      · rw [jbM, if_pos ⟨⟨c, d⟩, e⟩, show (((x.length : Int) != (y.length : Int)) = false) by rw [e]; simp]
        exact Ev.step (fun k => by simp only [spec_JoinBands.j0]; rfl) (Ev.ff (by simp) (spec_jb_l0 c d e x [] y [] [] rfl rfl rfl rfl))
      · rw [jbM, if_neg (fun h => e h.2), show (((x.length : Int) != (y.length : Int)) = true) by simp; omega]
        exact no
    · rw [jbM, if_neg (fun h => d h.1.2)]
      exact Ev.ff d no
  · rw [jbM, if_neg (fun h => c h.1.1)]
    exact Ev.ff c no
theorem join_two : ∀ s : List Int, s.length % 2 = 0 → joinB (lowB s) (highB s) = s
  | [], _ => rfl
  | [x], h => by simp at h
  | a :: b :: t, h => by
    have ih := join_two t (by simp at h; omega)
    simp only [lowB, highB, joinB, ih]
    have e : (a + b) / 2 + (a - b + 1) / 2 = a := by omega
    rw [e]
    congr 2
    omega
theorem two_join : ∀ x y : List Int, x.length = y.length → lowB (joinB x y) = x ∧ highB (joinB x y) = y
  | [], [], _ => ⟨rfl, rfl⟩
  | m :: t, h :: u, e => by
    obtain ⟨h1, h2⟩ := two_join t u (by simpa using e)
    simp only [joinB, lowB, highB, h1, h2]
    constructor
    · congr 1
      omega
    · congr 1
      omega
theorem lowB_bd : ∀ s : List Int, (∀ x ∈ s, -100000 ≤ x ∧ x ≤ 100000) → ∀ x ∈ lowB s, -100000 ≤ x ∧ x ≤ 100000
  | [], _, x, h => by simp [lowB] at h
  | [y], _, x, h => by simp [lowB] at h
  | a :: b :: t, hb, x, h => by
    have h1 := hb a (by simp)
    have h2 := hb b (by simp)
    simp only [lowB, List.mem_cons] at h
    rcases h with rfl | h
    · omega
    · exact lowB_bd t (fun y hy => hb y (by simp [hy])) x h
theorem toldM_sig {l : List Int} (h : sig l = true) : toldM l = (l, true) := by rw [toldM, if_pos h]
theorem toldM_ok {l : List Int} (h : (toldM l).2 = true) : sig l = true := by
  unfold toldM at h
  split at h
  · assumption
  · cases h
theorem two_back {s : List Int} (h : (twoM s).2.2 = true) : jbM (twoM s).1 (twoM s).2.1 = (s, true) := by
  unfold twoM at h ⊢
  split at h
  · rename_i c
    rw [if_pos c]
    split at h
    · rename_i d
      rw [if_pos d]
      have hl := sig_len c.1
      have s1 : sig (lowB s) = true := sig_iff.2 ⟨by rw [lowB_len]; omega, lowB_bd s (sig_mem c.1)⟩
      simp only [jbM]
      rw [if_pos ⟨⟨s1, d⟩, by rw [lowB_len, highB_len]⟩, join_two s c.2, toldM_sig c.1]
    · cases h
  · cases h
theorem join_back {x y : List Int} (h : (jbM x y).2 = true) : twoM (jbM x y).1 = (x, y, true) := by
  unfold jbM at h ⊢
  split at h
  · rename_i c
    have hs := toldM_ok h
    obtain ⟨h1, h2⟩ := two_join x y c.2
    rw [if_pos c, toldM_sig hs, twoM, if_pos ⟨hs, by rw [joinB_len x y c.2]; omega⟩, h1, h2, if_pos c.1.2]
  · cases h
theorem twoM_len (s : List Int) : (twoM s).1.length ≤ 64 ∧ (twoM s).2.1.length ≤ 64 := by
  unfold twoM
  split
  · rename_i c
    have := sig_len c.1
    split
    · simp only [lowB_len, highB_len]
      omega
    · simp
  · simp
theorem jbM_len (x y : List Int) : (jbM x y).1.length ≤ 64 := by
  unfold jbM
  split
  · exact toldM_len _
  · simp

theorem drawUFD_ok {l : List Int} (hl : Bytes l) : ∃ h s p q, Ev (fun k => spec_DrawUpFilterDown.f k l) (h, s, p, q) ∧ h.length ≤ 300 ∧ s.length ≤ 100001 := by
  obtain ⟨p, q, a1, sd1, e1, ha1, hb1⟩ := drawRatio_ok hl 0 0 (by omega) (by omega)
  obtain ⟨h, a2, sd2, e2, hh, ha2, hb2⟩ := weights_ok hl a1 sd1 (by omega) (by omega)
  obtain ⟨s, a3, sd3, e3, hs, -, -⟩ := signal_ok hl a2 sd2 10 40 (by omega) (by omega) (by omega) (by omega)
  refine ⟨h, s, p, q, ?_, hh, hs⟩
  simp only [spec_DrawUpFilterDown.f]
  exact Ev.dbind e1 (Ev.bind e2 (Ev.bind e3 (Ev.now _)))

theorem drawDownF_ok {l : List Int} (hl : Bytes l) : ∃ h s q, Ev (fun k => spec_DrawDownFilter.f k l) (h, s, q) ∧ h.length ≤ 300 ∧ s.length ≤ 100001 := by
  obtain ⟨p, q, a1, sd1, e1, ha1, hb1⟩ := drawRatio_ok hl 0 0 (by omega) (by omega)
  obtain ⟨h, a2, sd2, e2, hh, ha2, hb2⟩ := weights_ok hl a1 sd1 (by omega) (by omega)
  obtain ⟨s, a3, sd3, e3, hs, -, -⟩ := signal_ok hl a2 sd2 14 40 (by omega) (by omega) (by omega) (by omega)
  refine ⟨h, s, q, ?_, hh, hs⟩
  simp only [spec_DrawDownFilter.f]
  exact Ev.dbind e1 (Ev.bind e2 (Ev.bind e3 (Ev.now _)))

theorem drawUpF_ok {l : List Int} (hl : Bytes l) : ∃ h s p, Ev (fun k => spec_DrawUpFilter.f k l) (h, s, p) ∧ h.length ≤ 300 ∧ s.length ≤ 100001 := by
  obtain ⟨p, q, a1, sd1, e1, ha1, hb1⟩ := drawRatio_ok hl 0 0 (by omega) (by omega)
  obtain ⟨h, a2, sd2, e2, hh, ha2, hb2⟩ := weights_ok hl a1 sd1 (by omega) (by omega)
  obtain ⟨s, a3, sd3, e3, hs, -, -⟩ := signal_ok hl a2 sd2 10 40 (by omega) (by omega) (by omega) (by omega)
  refine ⟨h, s, p, ?_, hh, hs⟩
  simp only [spec_DrawUpFilter.f]
  exact Ev.dbind e1 (Ev.bind e2 (Ev.bind e3 (Ev.now _)))

theorem drawPhasesOf_ok {l : List Int} (hl : Bytes l) : ∃ h p, Ev (fun k => spec_DrawPhasesOf.f k l) (h, p) ∧ h.length ≤ 300 := by
  obtain ⟨p, q, a1, sd1, e1, ha1, hb1⟩ := drawRatio_ok hl 0 0 (by omega) (by omega)
  obtain ⟨h, a2, sd2, e2, hh, ha2, hb2⟩ := weights_ok hl a1 sd1 (by omega) (by omega)
  refine ⟨h, p, ?_, hh⟩
  simp only [spec_DrawPhasesOf.f]
  exact Ev.dbind e1 (Ev.bind e2 (Ev.now _))

theorem drawProd_ok {l : List Int} (hl : Bytes l) : ∃ h n p q, Ev (fun k => spec_DrawProductsDirect.f k l) (h, n, p, q) ∧ h.length ≤ 300 := by
  obtain ⟨p, q, a1, sd1, e1, ha1, hb1⟩ := drawRatio_ok hl 0 0 (by omega) (by omega)
  obtain ⟨h, a2, sd2, e2, hh, ha2, hb2⟩ := weights_ok hl a1 sd1 (by omega) (by omega)
  obtain ⟨u, a3, sd3, e3, ha3, hb3, -⟩ := pick_ok hl a2 sd2 20 (by omega) (by omega) (by omega)
  obtain ⟨v, a4, sd4, e4, ha4, hb4, -⟩ := pick_ok hl a3 sd3 9 (by omega) (by omega) (by omega)
  refine ⟨h, wrap64 (u - wrap64 (Int.tdiv v 8)), p, q, ?_, hh⟩
  simp only [spec_DrawProductsDirect.f]
  exact Ev.dbind e1 (Ev.bind e2 (Ev.dbind e3 (Ev.dbind e4 (Ev.now _))))

theorem drawTwoB_ok {l : List Int} (hl : Bytes l) : ∃ s, Ev (fun k => spec_DrawTwoBands.f k l) s ∧ s.length ≤ 100001 := by
  obtain ⟨s, a1, sd1, e1, hs, ha1, hb1⟩ := signal_ok hl 0 0 12 50 (by omega) (by omega) (by omega) (by omega)
  simp only [spec_DrawTwoBands.f]
  by_cases c : (s.length : Int) % 2 = 1
  · obtain ⟨u, a2, sd2, e2, ha2, hb2, -⟩ := one_ok hl a1 sd1 6 (by omega) (by omega) (by omega)
    by_cases d : u = true
    · exact ⟨s, Ev.bind e1 (Ev.tt c (Ev.dbind e2 (Ev.tt d (Ev.now _)))), hs⟩
    · refine ⟨s.drop (1 : Int).toNat, Ev.bind e1 ?_, by rw [List.length_drop]; omega⟩
      dsimp only
      refine Ev.tt c (Ev.dbind e2 ?_)
      dsimp only
      exact Ev.ff d (Ev.tt (by omega) (Ev.now _))
  · exact ⟨s, Ev.bind e1 (Ev.ff c (Ev.now _)), hs⟩

theorem drawJoinB_l0 {l x : List Int} (hl : Bytes l) (hx : x.length ≤ 100001) : ∀ (d : Nat) (o : List Int) (a sd : Int), o.length + d = x.length → 0 ≤ a → a + 10 * d ≤ 100000000 → ∃ y, Ev (fun k => spec_DrawJoinBands.l0 k x o (x.length : Int) (o.length : Int) l a sd) (x, y) ∧ y.length ≤ 100001
  | 0, o, a, sd, h, h0, h1 => by
    obtain ⟨u, a1, sd1, e1, ha1, hb1, -⟩ := one_ok hl a sd 8 h0 (by omega) (by omega)
    by_cases c : u = true
    · obtain ⟨s, a2, sd2, e2, hs, -, -⟩ := signal_ok hl a1 sd1 8 50 (by omega) (by omega) (by omega) (by omega)
      refine ⟨s, Ev.step (fun k => by simp only [spec_DrawJoinBands.l0]; rfl) (Ev.ff (by omega) (Ev.dbind e1 ?_)), hs⟩
      dsimp only
      exact Ev.tt c (Ev.bind e2 (Ev.now _))
    · refine ⟨o, Ev.step (fun k => by simp only [spec_DrawJoinBands.l0]; rfl) (Ev.ff (by omega) (Ev.dbind e1 ?_)), by omega⟩
      dsimp only
      exact Ev.ff c (Ev.now _)
  | d + 1, o, a, sd, h, h0, h1 => by
    obtain ⟨u, a1, sd1, e1, ha1, hb1, -⟩ := pick_ok hl a sd 61 h0 (by omega) (by omega)
    have c1 : (o.length : Int) < (x.length : Int) := by omega
    have c2 : o.length < 17592186044416 := by omega
    have c3 : o.length ≤ 1000000000 := by omega
    obtain ⟨y, hy, hyl⟩ := drawJoinB_l0 hl hx d (o ++ [wrap64 (u - 30)]) a1 sd1 (by simp; omega) (by omega) (by omega)
    refine ⟨y, Ev.step (fun k => by simp only [spec_DrawJoinBands.l0]; rfl) (Ev.tt c1 (Ev.dbind e1 (Ev.tt c2 ?_))), hyl⟩
    rw [w64_suc o (wrap64 (u - 30)) c3]
    exact hy
theorem drawJoinB_ok {l : List Int} (hl : Bytes l) : ∃ x y, Ev (fun k => spec_DrawJoinBands.f k l) (x, y) ∧ x.length ≤ 100001 ∧ y.length ≤ 100001 := by
  obtain ⟨x, a1, sd1, e1, hx, ha1, hb1⟩ := signal_ok hl 0 0 8 50 (by omega) (by omega) (by omega) (by omega)
  obtain ⟨y, hy, hyl⟩ := drawJoinB_l0 hl hx x.length [] a1 sd1 (by simp) (by omega) (by omega)
  refine ⟨x, y, ?_, hx, hyl⟩
  simp only [spec_DrawJoinBands.f]
  exact Ev.bind e1 hy

def okLL (L : List (List Int)) : Prop := L.length ≤ 1000 ∧ ∀ x ∈ L, x.length ≤ 1000
theorem okLL_snoc {L : List (List Int)} {x : List Int} {n : Nat} (h : L.length ≤ n ∧ ∀ x ∈ L, x.length ≤ 1000) (hx : x.length ≤ 1000) : (L ++ [x]).length ≤ n + 1 ∧ ∀ y ∈ L ++ [x], y.length ≤ 1000 := by
  refine ⟨by simp; omega, fun y hy => ?_⟩
  rcases List.mem_append.1 hy with h1 | h1
  · exact h.2 y h1
  · simp at h1
    rw [h1]
    exact hx
theorem joinable_l1 {l : List Int} (hl : Bytes l) {L : List (List Int)} {m : Nat} (hL : L.length ≤ 100 ∧ ∀ x ∈ L, x.length ≤ 1000)
    (next : ∀ (M : List (List Int)) (a sd : Int), (M.length ≤ L.length + 1 ∧ ∀ x ∈ M, x.length ≤ 1000) → 0 ≤ a → a ≤ 10000000 → ∃ r : List (List Int) × Int × Int, Ev (fun k => spec_l1Cur_joinable.l0 k M (wrap64 ((m : Int) - 1)) l a sd) r ∧ okLL r.1) :
    ∀ (n : Nat) (o : List Int) (a sd : Int), o.length + n ≤ 100 → 0 ≤ a → a + 10 * n ≤ 10000000 → ∃ r : List (List Int) × Int × Int, Ev (fun k => spec_l1Cur_joinable.l1 k L (m : Int) o (n : Int) l a sd) r ∧ okLL r.1
  | 0, o, a, sd, h, h0, h1 => by
    obtain ⟨r, hr, hk⟩ := next (L ++ [o]) a sd (okLL_snoc ⟨Nat.le_refl _, hL.2⟩ (by omega)) h0 (by omega)
    exact ⟨r, Ev.step (fun k => by simp only [spec_l1Cur_joinable.l1]; rfl) (Ev.ff (by simp) (Ev.tt (by omega) hr)), hk⟩
  | n + 1, o, a, sd, h, h0, h1 => by
    obtain ⟨v, a1, sd1, e1, ha1, hb1, -⟩ := pick_ok hl a sd 9 h0 (by omega) (by omega)
    have e3 : wrap64 (((n + 1 : Nat) : Int) - 1) = (n : Int) := by
      rw [w64 (n := ((n + 1 : Nat) : Int) - 1) (by omega) (by omega)]
      omega
    obtain ⟨r, hr, hk⟩ := joinable_l1 hl hL next n (o ++ [wrap64 (v - 4)]) a1 sd1 (by simp; omega) (by omega) (by omega)
    refine ⟨r, Ev.step (fun k => by simp only [spec_l1Cur_joinable.l1]; rfl) (Ev.tt (by omega) (Ev.dbind e1 ?_)), hk⟩
    dsimp only
    rw [e3]
    exact Ev.tt (by omega) hr
theorem joinable_l0 {l : List Int} (hl : Bytes l) : ∀ (m : Nat) (L : List (List Int)) (a sd : Int), m ≤ 10 → (L.length + m ≤ 100 ∧ ∀ x ∈ L, x.length ≤ 1000) → 0 ≤ a → a + 10000 * m ≤ 1000000 → ∃ r : List (List Int) × Int × Int, Ev (fun k => spec_l1Cur_joinable.l0 k L (m : Int) l a sd) r ∧ okLL r.1
  | 0, L, a, sd, _, hL, h0, h1 => ⟨(L, a, sd), Ev.step (fun k => by simp only [spec_l1Cur_joinable.l0]; rfl) (Ev.ff (by simp) (Ev.now _)), by show L.length ≤ 1000; omega, hL.2⟩
  | m + 1, L, a, sd, hm, hL, h0, h1 => by
    obtain ⟨v, a1, sd1, e1, ha1, hb1, hv, hv2⟩ := pick_ok hl a sd 4 h0 (by omega) (by omega)
    obtain ⟨n, rfl⟩ : ∃ n : Nat, v = (n : Int) := ⟨v.toNat, by omega⟩
    have e3 : wrap64 (((m + 1 : Nat) : Int) - 1) = (m : Int) := by
      rw [w64 (n := ((m + 1 : Nat) : Int) - 1) (by omega) (by omega)]
      omega
    have key : ∀ (q : Nat) (o : List Int) (b sd : Int), o.length + q ≤ 100 → 0 ≤ b → b + 10 * q + 10000 * m ≤ 1000000 → ∃ r : List (List Int) × Int × Int, Ev (fun k => spec_l1Cur_joinable.l1 k L ((m + 1 : Nat) : Int) o (q : Int) l b sd) r ∧ okLL r.1 := by
      intro q
      induction q with
      | zero =>
        intro o b sd ho hb0 hb1
        obtain ⟨r, hr, hk⟩ := joinable_l0 hl m (L ++ [o]) b sd (by omega) (by
          have := okLL_snoc (n := L.length) ⟨Nat.le_refl _, hL.2⟩ (x := o) (by omega)
          exact ⟨by simp; omega, this.2⟩) hb0 (by omega)
        refine ⟨r, Ev.step (fun k => by simp only [spec_l1Cur_joinable.l1]; rfl) (Ev.ff (by simp) (Ev.tt (by omega) ?_)), hk⟩
        rw [e3]
        exact hr
      | succ q ih =>
        intro o b sd ho hb0 hb1
        obtain ⟨v, b1, sd1, e1, ha1, hb1', -⟩ := pick_ok hl b sd 9 hb0 (by omega) (by omega)
        have e4 : wrap64 (((q + 1 : Nat) : Int) - 1) = (q : Int) := by
          rw [w64 (n := ((q + 1 : Nat) : Int) - 1) (by omega) (by omega)]
          omega
        obtain ⟨r, hr, hk⟩ := ih (o ++ [wrap64 (v - 4)]) b1 sd1 (by simp; omega) (by omega) (by omega)
        refine ⟨r, Ev.step (fun k => by simp only [spec_l1Cur_joinable.l1]; rfl) (Ev.tt (by omega) (Ev.dbind e1 ?_)), hk⟩
        dsimp only
        rw [e4]
        exact Ev.tt (by omega) hr
    obtain ⟨r, hr, hk⟩ := key n [] a1 sd1 (by simp; omega) (by omega) (by omega)
    exact ⟨r, Ev.step (fun k => by simp only [spec_l1Cur_joinable.l0]; rfl) (Ev.tt (by omega) (Ev.dbind e1 hr)), hk⟩
theorem drawJoinPh_ok {l : List Int} (hl : Bytes l) : ∃ L, Ev (fun k => spec_DrawJoinPhases.f k l) L ∧ okLL L := by
  obtain ⟨h, a1, sd1, e1, hh, ha1, hb1⟩ := weights_ok hl 0 0 (by omega) (by omega)
  have rest : ∀ (b : Bool) (a sd : Int), 0 ≤ a → a ≤ 100000 → ∃ r : List (List Int) × Int × Int, Ev (fun k => spec_l1Cur_joinable.j0 k h b l a sd) r ∧ okLL r.1 := by
    intro b a sd h0 h1
    obtain ⟨v, a2, sd2, e2, ha2, hb2, hv, hv2⟩ := pick_ok hl a sd 4 h0 (by omega) (by omega)
    obtain ⟨n, rfl⟩ : ∃ n : Nat, v = (n : Int) := ⟨v.toNat, by omega⟩
    by_cases c : b = true
    · have e3 : wrap64 (1 + (n : Int)) = ((n + 1 : Nat) : Int) := by
        rw [w64 (n := 1 + (n : Int)) (by omega) (by omega)]
        omega
      refine ⟨(phL h (n + 1), a2, sd2), Ev.step (fun k => by simp only [spec_l1Cur_joinable.j0]; rfl) (Ev.tt c (Ev.dbind e2 ?_)), ?_⟩
      · rw [e3]
        exact Ev.bind (spec_rsPhases_ev h (n + 1) (by omega) (by omega) (by omega)) (Ev.now _)
      · refine ⟨by rw [phL_length]; omega, fun x hx => ?_⟩
        simp only [phL, List.mem_map] at hx
        obtain ⟨k, _, rfl⟩ := hx
        have := dropN_le (len := h.length) (rate := n + 1) (first := k) (by omega)
        rw [dropM_length]
        omega
    · obtain ⟨r, hr, hk⟩ := joinable_l0 hl n [] a2 sd2 (by omega) ⟨by simp; omega, fun x hx => by simp at hx⟩ (by omega) (by omega)
      exact ⟨r, Ev.step (fun k => by simp only [spec_l1Cur_joinable.j0]; rfl) (Ev.ff c (Ev.dbind e2 hr)), hk⟩
  simp only [spec_DrawJoinPhases.f, spec_l1Cur_joinable.f]
  by_cases c : wts h = true
  · obtain ⟨u, a2, sd2, e2, ha2, hb2, -⟩ := one_ok hl a1 sd1 4 (by omega) (by omega) (by omega)
    obtain ⟨r, hr, hk⟩ := rest (!u) a2 sd2 (by omega) (by omega)
    exact ⟨r.1, Ev.bind (Ev.bind e1 (Ev.bind (spec_weGood_ev h (by omega)) (Ev.tt c (Ev.dbind e2 hr)))) (Ev.now _), hk⟩
  · obtain ⟨r, hr, hk⟩ := rest false a1 sd1 (by omega) (by omega)
    exact ⟨r.1, Ev.bind (Ev.bind e1 (Ev.bind (spec_weGood_ev h (by omega)) (Ev.ff c hr))) (Ev.now _), hk⟩

theorem stuff_getD (p : Nat) (hp : 0 < p) : ∀ (s : List Int) (n : Nat), (stuffM p s).getD n 0 = if n % p = 0 then s.getD (n / p) 0 else 0
  | [], n => by simp [stuffM]
  | x :: t, n => by
    have hl : (x :: List.replicate (p - 1) (0 : Int)).length = p := by simp; omega
    rw [stuffM]
    by_cases c : n < p
    · have e1 : n / p = 0 := Nat.div_eq_of_lt c
      have e2 : n % p = n := Nat.mod_eq_of_lt c
      rw [List.getD_eq_getElem?_getD, List.getElem?_append_left (by omega), ← List.getD_eq_getElem?_getD, e1, e2]
      cases n with
      | zero => simp
      | succ n =>
        rw [if_neg (by omega)]
        rw [List.getD_cons_succ, List.getD_eq_getElem?_getD, List.getElem?_replicate]
        split <;> rfl
    · obtain ⟨m, rfl⟩ : ∃ m, n = m + p := ⟨n - p, by omega⟩
      rw [List.getD_eq_getElem?_getD, List.getElem?_append_right (by omega), ← List.getD_eq_getElem?_getD, hl, Nat.add_sub_cancel, stuff_getD p hp t m, Nat.add_mod_right, Nat.add_div_right _ hp]
      rfl
theorem dropM_cons0 (w : Int) (h : List Int) {p : Nat} (hp : 0 < p) : dropM (w :: h) p 0 = w :: dropM h p (p - 1) := by
  have e : dropN (w :: h).length p 0 = dropN h.length p (p - 1) + 1 := by
    apply nat_eq_lt
    intro j
    cases j with
    | zero => rw [dropN_lt hp]; simp
    | succ j =>
      rw [dropN_lt hp, Nat.add_lt_add_iff_right, dropN_lt hp, Nat.succ_mul]
      simp
      omega
  rw [dropM, dropM, e]
  apply List.ext_getElem
  · simp [Lf]
  · intro n h1 h2
    cases n with
    | zero => simp [Lf]
    | succ n =>
      simp only [Lf, List.getElem_map, List.getElem_range, List.getElem_cons_succ]
      have : 0 + (n + 1) * p = (p - 1 + n * p) + 1 := by rw [Nat.succ_mul]; omega
      rw [this, List.getD_cons_succ]
theorem dropM_consS (w : Int) (h : List Int) {p : Nat} (hp : 0 < p) (k : Nat) : dropM (w :: h) p (k + 1) = dropM h p k := by
  have e : dropN (w :: h).length p (k + 1) = dropN h.length p k := by
    apply nat_eq_lt
    intro j
    rw [dropN_lt hp, dropN_lt hp]
    simp
    omega
  rw [dropM, dropM, e]
  apply Lf_congr
  intro n _
  have : k + 1 + n * p = (k + n * p) + 1 := by omega
  rw [this, List.getD_cons_succ]
theorem poly_phase (p : Nat) (hp : 0 < p) (s : List Int) : ∀ (h : List Int) (n : Nat), cv h (stuffM p s) n = phS s (dropM h p (n % p)) ((n / p : Nat) : Int)
  | [], n => by
    have : dropM ([] : List Int) p (n % p) = [] := by
      have e : dropN ([] : List Int).length p (n % p) = 0 := by
        apply nat_eq_lt
        intro j
        rw [dropN_lt hp]
        simp
      rw [dropM, e]
      rfl
    rw [this]
    rfl
  | w :: h, 0 => by
    rw [Nat.zero_mod, Nat.zero_div, dropM_cons0 w h hp, phS, cv, stuff_getD p hp s 0, Nat.zero_mod, if_pos rfl, Nat.zero_div, phS_neg _ _ _ (by simp), Int.add_zero, atM, if_pos (by simp)]
    rfl
  | w :: h, n + 1 => by
    have ih := poly_phase p hp s h n
    rw [cv, ih, stuff_getD p hp s (n + 1)]
    have hd := Nat.div_add_mod n p
    have hm := Nat.mod_lt n hp
    by_cases c : n % p = p - 1
    · have e1 : (n + 1) % p = 0 := by
        have : n + 1 = p * (n / p) + p := by omega
        rw [this, Nat.add_mod_right, Nat.mul_mod_right]
      have e2 : (n + 1) / p = n / p + 1 := by
        have : n + 1 = p * (n / p) + p := by omega
        rw [this, Nat.add_div_right _ hp, Nat.mul_div_cancel_left _ hp]
      rw [if_pos e1, e1, e2, dropM_cons0 w h hp, phS, c, atM, if_pos (Int.natCast_nonneg _), Int.toNat_natCast]
      congr 2
      omega
    · have e1 : (n + 1) % p = n % p + 1 := by
        have : n + 1 = n % p + 1 + p * (n / p) := by omega
        rw [this, Nat.add_mul_mod_self_left]
        exact Nat.mod_eq_of_lt (by omega)
      have e2 : (n + 1) / p = n / p := by
        have : n + 1 = n % p + 1 + p * (n / p) := by omega
        rw [this, Nat.add_mul_div_left _ _ hp, Nat.div_eq_of_lt (by omega)]
        omega
      rw [if_neg (by omega), e1, e2, dropM_consS w h hp, Int.mul_zero, Int.zero_add]
theorem direct_getD {h s : List Int} {p : Nat} (hp : 1 ≤ p) (hh : 1 ≤ h.length) (n : Nat) (hn : n < s.length * p) : ((conv h (stuffM p s)).take (stuffM p s).length).getD n 0 = cv h (stuffM p s) n := by
  have hl := stuffM_length p hp s
  have hne : stuffM p s ≠ [] := by
    intro e
    rw [e] at hl
    simp at hl
    omega
  have hc := conv_length h (stuffM p s) hne
  rw [List.getD_eq_getElem?_getD, List.getElem?_take, if_pos (by omega), List.getElem?_eq_getElem (by omega)]
  simp only [conv, if_neg hne, Lf, List.getElem_map, List.getElem_range]
  rfl
theorem byPh_direct {h s : List Int} {p q : Nat} (hp : 1 ≤ p) (hq : 1 ≤ q) (hh : 1 ≤ h.length) : byPh h s p q = direct h s p q := by
  have hl := stuffM_length p hp s
  have hg := conv_len_ge h (stuffM p s) hh
  have e : ((conv h (stuffM p s)).take (stuffM p s).length).length = s.length * p := by rw [List.length_take]; omega
  rw [byPh, direct, dropM, e]
  apply Lf_congr
  intro j hj
  have hlt := (dropN_lt hq).1 hj
  rw [direct_getD hp hh _ hlt, Nat.zero_add, poly_phase p hp, phOut]
theorem byPhases_up (h s : List Int) (p q : Int) : byPhases h s p q = upDown h s p q := by
  unfold byPhases upDown
  by_cases c : rsOk h s p q = true
  · rw [if_pos c, if_pos c]
    obtain ⟨a, b, hp, hq, hsp⟩ := rsOk_iff.1 c
    rw [byPh_direct (by omega) (by omega) (wts_len a).1]
  · rw [if_neg c, if_neg c]
theorem dropM_one (l : List Int) : dropM l 1 0 = l := by
  have e : dropN l.length 1 0 = l.length := by unfold dropN; omega
  rw [dropM, e]
  apply List.ext_getElem
  · simp [Lf]
  · intro n h1 h2
    simp only [Lf, List.getElem_map, List.getElem_range, Nat.mul_one, Nat.zero_add]
    rw [List.getD_eq_getElem?_getD, List.getElem?_eq_getElem h2]
    rfl
theorem up_ok {h s : List Int} {p q : Int} (c : (upDown h s p q).2 = true) : rsOk h s p q = true ∧ upDown h s p q = (direct h s p.toNat q.toNat, true) ∧ sig (direct h s p.toNat q.toNat) = true := by
  unfold upDown at c ⊢
  split at c
  · rename_i k
    have hs := toldM_ok c
    rw [if_pos k, toldM_sig hs]
    exact ⟨k, rfl, hs⟩
  · cases c
theorem direct_one (h s : List Int) (p : Nat) : direct h s p 1 = (conv h (stuffM p s)).take (stuffM p s).length := by rw [direct, dropM_one]
theorem stuff_one : ∀ s : List Int, stuffM 1 s = s
  | [] => rfl
  | x :: t => by simp [stuffM, stuff_one t]
theorem direct_length {h s : List Int} {p q : Nat} (hp : 1 ≤ p) (hh : 1 ≤ h.length) : (direct h s p q).length = dropN (s.length * p) q 0 := by
  have hl := stuffM_length p hp s
  have hg := conv_len_ge h (stuffM p s) hh
  have e : ((conv h (stuffM p s)).take (stuffM p s).length).length = s.length * p := by rw [List.length_take]; omega
  rw [direct, dropM_length, e]
theorem lengthAfter_eq {n p q : Nat} (hn : n ≤ 64) (hp : 1 ≤ p ∧ p ≤ 8) (hq : 1 ≤ q ∧ q ≤ 8) : impl_LengthAfter.f (n : Int) (p : Int) (q : Int) = some (((dropN (n * p) q 0 : Nat) : Int), true) := by
  have hnp : n * p ≤ 64 * 8 := Nat.mul_le_mul hn hp.2
  have hr : ratio (p : Int) (q : Int) = true := ratio_iff.2 ⟨by omega, by omega⟩
  have hdv : (n * p + q - 1) / q ≤ n * p + q - 1 := Nat.div_le_self _ _
  have g1 : n * p ≤ 1000000000 := by omega
  have g2 : n * p + q ≤ 1000000000 := by omega
  have g3 : ((n * p + q : Nat) : Int) - 1 = ((n * p + q - 1 : Nat) : Int) := by omega
  have g4 : n * p + q - 1 ≤ 1000000000 := by omega
  have g5 : (n * p + q - 1) / q ≤ 1000000000 := by omega
  simp only [impl_LengthAfter.f, impl_in_eq, impl_isRatio_eq, Option.bind_some, impl_lengthAfter.f]
  rw [if_pos (by simp; omega), if_pos hr, if_neg (by omega), ← Int.natCast_mul, w64n g1, w64_nat _ _ g2, g3, w64n g4, td, w64n g5, dropN, Nat.sub_zero]
  rfl
theorem totL_set : ∀ (L : List (List Int)) (k : Nat) (y : List Int), k < L.length → totL (L.set k y) + (L.getD k []).length = totL L + y.length
  | [], k, y, h => by simp at h
  | x :: t, 0, y, h => by simp [totL]; omega
  | x :: t, k + 1, y, h => by
    have := totL_set t k y (by simpa using h)
    simp only [List.set_cons_succ, totL, List.getD_cons_succ]
    omega
theorem totL_phL (p : Nat) (hp : 0 < p) : ∀ (t q : List Int), totL (phL q p) = q.length → totL (phL (q ++ t) p) = (q ++ t).length
  | [], q, h => by simpa using h
  | x :: t, q, h => by
    have hm := Nat.mod_lt q.length hp
    have h1 := totL_set (phL q p) (q.length % p) (dropM q p (q.length % p) ++ [x]) (by rw [phL_length]; exact hm)
    rw [phL_snoc q x p hp] at h1
    have e : (phL q p).getD (q.length % p) [] = dropM q p (q.length % p) := by
      have := rd_phL q p (q.length % p) hm
      simpa only [rd_L2, Int.toNat_natCast] using this
    rw [e] at h1
    have := totL_phL p hp t (q ++ [x]) (by simp at h1 ⊢; omega)
    rw [List.append_assoc] at this
    exact this
theorem totL_rep (p : Nat) : totL (List.replicate p []) = 0 := by
  induction p with
  | zero => rfl
  | succ p ih => simp [List.replicate_succ, totL, ih]
theorem phL_tot (p : Nat) (hp : 0 < p) (h : List Int) : totL (phL h p) = h.length := by
  have := totL_phL p hp h [] (by rw [← phL_nil p hp, totL_rep]; rfl)
  simpa using this
theorem phL_getD (h : List Int) (p k : Nat) (hk : k < p) : (phL h p).getD k [] = dropM h p k := by
  have := rd_phL h p k hk
  simpa only [rd_L2, Int.toNat_natCast] using this
theorem dropM_getD {h : List Int} {p k j : Nat} (hp : 0 < p) (hj : k + j * p < h.length) : (dropM h p k).getD j 0 = h.getD (k + j * p) 0 := by
  have h1 := (dropN_lt (len := h.length) (rate := p) (first := k) (j := j) hp).2 hj
  rw [dropM, List.getD_eq_getElem?_getD, List.getElem?_eq_getElem (by rw [Lf_length]; exact h1)]
  simp [Lf]
theorem joinR_phL {h : List Int} {p : Nat} (hp : 0 < p) : ∀ (r i : Nat), i + r = h.length → joinR (phL h p) p i r = h.drop i
  | 0, i, e => by
    rw [joinR, List.drop_of_length_le (by omega)]
  | r + 1, i, e => by
    have hi : i < h.length := by omega
    have hd := Nat.mod_add_div i p
    have hv : joinV (phL h p) p i = h[i] := by
      rw [joinV, phL_getD h p _ (Nat.mod_lt i hp)]
      have e2 : i % p + i / p * p = i := by rw [Nat.mul_comm]; exact hd
      rw [dropM_getD hp (by omega), e2, List.getD_eq_getElem?_getD, List.getElem?_eq_getElem hi]
      rfl
    rw [joinR, hv, joinR_phL hp r (i + 1) (by omega), List.drop_eq_getElem_cons hi]
theorem phases_back {h : List Int} {p : Int} (c : (phasesM h p).2 = true) : joinM (phasesM h p).1 = (h, true) ∧ ((phasesM h p).1.length : Int) = p := by
  unfold phasesM at c ⊢
  split at c
  · rename_i k
    rw [if_pos k]
    have k' : wts h = true ∧ 1 ≤ p ∧ p ≤ 8 := by simpa only [Bool.and_eq_true, decide_eq_true_eq] using k
    obtain ⟨p, rfl⟩ : ∃ n : Nat, p = (n : Int) := ⟨p.toNat, by omega⟩
    simp only [Int.toNat_natCast]
    have hl := phL_length h p
    have hp : 0 < p := by omega
    have ht := phL_tot p hp h
    have hw := wts_len k'.1
    refine ⟨?_, by rw [hl]⟩
    have hf : shp (phL h p) 0 (phL h p) = true := by
      rw [shp_fill _ (by omega), hl, fillR_iff]
      intro j _ hj
      rw [lnAt, phL_getD h p _ (Nat.mod_lt j hp), dropM_length, dropN_lt hp]
      have := Nat.mod_add_div j p
      rw [Nat.mul_comm] at this
      omega
    rw [joinM_in (by omega) (by omega), hf, ht, decide_eq_true hw.2, if_pos (show (true && true) = true from rfl), hl, joinR_phL hp h.length 0 (by omega), List.drop_zero, wtdM, if_pos k'.1]
  · cases c
theorem fill_drop {L : List (List Int)} (hp : 0 < L.length) (hs : shp L 0 L = true) {k : Nat} (hk : k < L.length) : dropN (totL L) L.length k = lnAt L k := by
  have hle : (lensOf L).length = L.length := by simp [lensOf]
  have hf : fillOk (lensOf L) := by
    have h1 := (shp_fill L hp).1 hs
    rw [fillR_iff] at h1
    intro i hi
    have hm : i % (lensOf L).length < (lensOf L).length := Nat.mod_lt _ (by omega)
    refine ⟨hm, ?_⟩
    rw [lnAt_get, hle]
    exact h1 i (by omega) (by rw [totL_sum]; omega)
  have he := fill_len (by omega) hf k (by omega)
  rw [lnAt_get, hle, ← totL_sum] at he
  rw [he]
  have hd := Nat.div_add_mod (totL L) L.length
  have hm := Nat.mod_lt (totL L) hp
  generalize totL L / L.length = Q at *
  generalize totL L % L.length = r at *
  generalize totL L = T at *
  generalize L.length = p at *
  subst hd
  apply nat_eq_lt
  intro j
  rw [dropN_lt hp]
  rcases Nat.lt_trichotomy j Q with g | g | g
  · have h1 : (j + 1) * p ≤ Q * p := Nat.mul_le_mul_right p g
    rw [Nat.succ_mul] at h1
    rw [Nat.mul_comm Q p] at h1
    constructor
    · intro _
      omega
    · intro _
      omega
  · subst g
    rw [Nat.mul_comm p j]
    split <;> omega
  · have h1 : (Q + 1) * p ≤ j * p := Nat.mul_le_mul_right p g
    rw [Nat.succ_mul, Nat.mul_comm Q p] at h1
    constructor
    · intro _
      omega
    · intro h2
      split at h2 <;> omega
theorem joinR_get (L : List (List Int)) (p : Nat) : ∀ (r i j : Nat), j < r → (joinR L p i r).getD j 0 = joinV L p (i + j)
  | r + 1, i, 0, _ => by simp [joinR]
  | r + 1, i, j + 1, h => by
    rw [joinR, List.getD_cons_succ, joinR_get L p r (i + 1) j (by omega)]
    congr 1
    omega
theorem join_backP {L : List (List Int)} (c : (joinM L).2 = true) : phasesM (joinM L).1 (L.length : Int) = (L, true) := by
  unfold joinM at c ⊢
  split at c
  · rename_i k
    rw [if_pos k]
    split at c
    · rename_i k2
      rw [if_pos k2]
      simp only [Bool.and_eq_true, decide_eq_true_eq] at k k2
      have hw : wts (joinR L L.length 0 (totL L)) = true := by
        unfold wtdM at c
        split at c
        · assumption
        · cases c
      rw [wtdM, if_pos hw]
      simp only
      rw [phasesM, hw, Int.toNat_natCast, if_pos (by simp; omega)]
      congr 1
      have hp : 0 < L.length := k.1
      apply List.ext_getElem
      · rw [phL_length]
      · intro n h1 h2
        simp only [phL, List.getElem_map, List.getElem_range]
        have hfd := fill_drop hp k2.1 h2
        have hln : lnAt L n = L[n].length := by rw [lnAt, List.getD_eq_getElem?_getD, List.getElem?_eq_getElem h2]; rfl
        apply List.ext_getElem
        · rw [dropM_length, joinR_length, hfd, hln]
        · intro j g1 g2
          rw [dropM_length, joinR_length] at g1
          have hlt := (dropN_lt hp).1 g1
          simp only [dropM, Lf, List.getElem_map, List.getElem_range]
          rw [joinR_get L _ _ _ _ hlt, joinV, Nat.zero_add]
          have e1 : (n + j * L.length) % L.length = n := by rw [Nat.add_mul_mod_self_right]; exact Nat.mod_eq_of_lt h2
          have e2 : (n + j * L.length) / L.length = j := by rw [Nat.add_mul_div_right _ _ hp, Nat.div_eq_of_lt h2]; omega
          have eL : L.getD n [] = L[n] := by
            rw [List.getD_eq_getElem?_getD, List.getElem?_eq_getElem h2]
            rfl
          rw [e1, e2, eL, List.getD_eq_getElem?_getD, List.getElem?_eq_getElem g2]
          rfl
    · cases c
  · cases c
theorem iRows_self {L : List (List Int)} (h : L.length ≤ 1048576 ∧ ∀ x ∈ L, x.length ≤ 1000000) : Ev (fun k => laws_iRows.f k L L) true := laws_iRows_ev L (by omega) h.2
theorem phasesM_ok (h : List Int) (p : Int) : (phasesM h p).1.length ≤ 1048576 ∧ ∀ x ∈ (phasesM h p).1, x.length ≤ 1000000 := by
  unfold phasesM
  split
  · rename_i c
    have c' : wts h = true ∧ 1 ≤ p ∧ p ≤ 8 := by simpa only [Bool.and_eq_true, decide_eq_true_eq] using c
    have hl := wts_len c'.1
    refine ⟨by simp only [phL_length]; omega, fun x hx => ?_⟩
    simp only [phL, List.mem_map] at hx
    obtain ⟨k, hk, rfl⟩ := hx
    have := dropN_le (len := h.length) (rate := p.toNat) (first := k) (by omega)
    rw [dropM_length]
    omega
  · exact ⟨by simp, fun x hx => by simp at hx⟩
theorem upD_ev (h l : List Int) (p : Int) (hh : h.length ≤ 1000000) (hl : l.length ≤ 1000000) : Ev (fun k => impl_UpFilter.f k h l p) (upDown h l p 1) := by
  simp only [impl_UpFilter.f]
  exact Ev.bind (impl_UpFilterDown_ev h l p 1 (by omega) (by omega)) (Ev.now _)
theorem dnD_ev (h l : List Int) (q : Int) (hh : h.length ≤ 1000000) (hl : l.length ≤ 1000000) : Ev (fun k => impl_DownFilter.f k h l q) (upDown h l 1 q) := by
  simp only [impl_DownFilter.f]
  exact Ev.bind (impl_UpFilterDown_ev h l 1 q (by omega) (by omega)) (Ev.now _)
theorem law_j10 {l : List Int} (hl : Bytes l) : Ev (fun k => laws_FnPhasesWork.j10 k l) true := by
  obtain ⟨h, n, p, q, d1, hh⟩ := drawProd_ok hl
  obtain ⟨f, z, w, d2, hf, hz⟩ := drawDownF_ok hl
  obtain ⟨j, m, o, d3, hj, hm⟩ := drawUpF_ok hl
  have u1 := upDown_len f z 1 w
  have u2 := upDown_len j m o 1
  refine Ev.step (fun k => by simp only [laws_FnPhasesWork.j10]; rfl) ?_
  refine Ev.bind d1 (Ev.bind (impl_ProductsDirect_ev h n p q (by omega)) (Ev.bind (spec_ProductsDirect_ev h n p q (by omega)) (Ev.bind (impl_ProductsByPhases_ev h n p q (by omega)) (Ev.bind (spec_ProductsByPhases_ev h n p q (by omega)) (Ev.bind d2 (Ev.bind (dnD_ev f z w (by omega) (by omega)) (Ev.bind (spec_DownFilter_ev f z w (by omega) (by omega)) (Ev.bind d3 (Ev.bind (upD_ev j m o (by omega) (by omega)) (Ev.bind (spec_UpFilter_ev j m o (by omega) (by omega)) ?_))))))))))
  refine Ev.tt (by simp) (Ev.tt rfl (Ev.tt (by simp) (Ev.tt rfl (Ev.tt (by simp) (Ev.bind (laws_iSame_ev _ (by omega)) (Ev.tt rfl (Ev.tt (by simp) (Ev.bind (laws_iSame_ev _ (by omega)) (Ev.now _)))))))))
theorem law_j9 {l : List Int} (hl : Bytes l) (x y : List Int) (hx : x.length ≤ 100001) (hy : y.length ≤ 100001) : Ev (fun k => laws_FnPhasesWork.j9 k l x y (jbM x y).1 (jbM x y).2) true := by
  refine Ev.step (fun k => by simp only [laws_FnPhasesWork.j9]; rfl) ?_
  have hj := jbM_len x y
  by_cases c : (jbM x y).2 = true
  · have e := join_back c
    have h1 := impl_TwoBands_ev (jbM x y).1 (by omega)
    rw [e] at h1
    refine Ev.tt c (Ev.bind h1 ?_)
    exact Ev.tt rfl (Ev.bind (laws_iSame_ev x (by omega)) (Ev.tt rfl (Ev.bind (laws_iSame_ev y (by omega)) (Ev.tt rfl (law_j10 hl)))))
  · exact Ev.ff c (law_j10 hl)
theorem law_j7 {l : List Int} (hl : Bytes l) : Ev (fun k => laws_FnPhasesWork.j7 k l) true := by
  obtain ⟨t, d1, ht⟩ := drawTwoB_ok hl
  obtain ⟨x, y, d2, hx, hy⟩ := drawJoinB_ok hl
  have h1 := twoM_len t
  have h2 := jbM_len x y
  have j8 : Ev (fun k => laws_FnPhasesWork.j8 k l t (twoM t).1 (twoM t).2.1 (twoM t).2.2 x y (jbM x y).1 (jbM x y).2 false) true := by
    refine Ev.step (fun k => by simp only [laws_FnPhasesWork.j8]; rfl) ?_
    refine Ev.ff (by simp) ?_
    by_cases c : (twoM t).2.2 = true
    · have e := two_back c
      have h3 := impl_JoinBands_ev (twoM t).1 (twoM t).2.1 (by omega) (by omega)
      rw [e] at h3
      exact Ev.tt c (Ev.bind h3 (Ev.tt rfl (Ev.bind (laws_iSame_ev t (by omega)) (Ev.tt rfl (law_j9 hl x y hx hy)))))
    · exact Ev.ff c (law_j9 hl x y hx hy)
  refine Ev.step (fun k => by simp only [laws_FnPhasesWork.j7]; rfl) ?_
  refine Ev.bind d1 (Ev.bind (impl_TwoBands_ev t (by omega)) (Ev.bind (spec_TwoBands_ev t (by omega)) (Ev.bind d2 (Ev.bind (impl_JoinBands_ev x y (by omega) (by omega)) (Ev.bind (spec_JoinBands_ev x y (by omega) (by omega)) ?_)))))
  dsimp only
  exact Ev.ff (by simp) (Ev.bind (laws_iSame_ev _ (by omega)) (Ev.tt rfl (Ev.bind (laws_iSame_ev _ (by omega)) (Ev.tt rfl (Ev.ff (by simp) (Ev.bind (laws_iSame_ev _ (by omega)) j8))))))
theorem law_j6 {l : List Int} (hl : Bytes l) {L : List (List Int)} (hL : okLL L) : Ev (fun k => laws_FnPhasesWork.j6 k l L (joinM L).1 (joinM L).2) true := by
  have hj := joinM_len L
  have h7 := law_j7 hl
  refine Ev.step (fun k => by simp only [laws_FnPhasesWork.j6]; rfl) ?_
  by_cases c : (joinM L).2 = true
  · have e := join_backP c
    have h1 := impl_PhasesOf_ev (joinM L).1 (L.length : Int) (by omega)
    rw [e] at h1
    exact Ev.tt c (Ev.bind h1 (Ev.tt rfl (Ev.bind (iRows_self (L := L) ⟨by have := hL.1; omega, fun x hx => by have := hL.2 x hx; omega⟩) (Ev.tt rfl h7))))
  · exact Ev.ff c h7
theorem law_j4 {l : List Int} (hl : Bytes l) : Ev (fun k => laws_FnPhasesWork.j4 k l) true := by
  obtain ⟨h, p, d1, hh⟩ := drawPhasesOf_ok hl
  obtain ⟨L, d2, hL⟩ := drawJoinPh_ok hl
  have hp := phasesM_ok h p
  have hj := joinM_len L
  have hjw : (joinM L).1.length ≤ 1000000000 := by omega
  have h6 := law_j6 hl hL
  have j5 : Ev (fun k => laws_FnPhasesWork.j5 k l h p (phasesM h p).1 (phasesM h p).2 L (joinM L).1 (joinM L).2 false) true := by
    refine Ev.step (fun k => by simp only [laws_FnPhasesWork.j5]; rfl) ?_
    refine Ev.ff (by simp) ?_
    by_cases c : (phasesM h p).2 = true
    · obtain ⟨e, e2⟩ := phases_back c
      have h3 := impl_JoinPhases_ev (phasesM h p).1 (by have := hp.1; omega) (fun x hx => by have := hp.2 x hx; omega)
      rw [e] at h3
      exact Ev.tt c (Ev.bind h3 (Ev.tt rfl (Ev.bind (laws_iSame_ev h (by omega)) (Ev.tt rfl (Ev.tt e2 h6)))))
    · exact Ev.ff c h6
  refine Ev.step (fun k => by simp only [laws_FnPhasesWork.j4]; rfl) ?_
  refine Ev.bind d1 (Ev.bind (impl_PhasesOf_ev h p (by omega)) (Ev.bind (spec_PhasesOf_ev h p (by omega)) (Ev.bind d2 (Ev.bind (impl_JoinPhases_ev L (by have := hL.1; omega) (fun x hx => by have := hL.2 x hx; omega)) (Ev.bind (spec_JoinPhases_ev L (by have := hL.1; omega)) ?_)))))
  dsimp only
  exact Ev.ff (by simp) (Ev.bind (iRows_self hp) (Ev.tt rfl (Ev.ff (by simp) (Ev.bind (laws_iSame_ev _ (by omega)) j5))))
theorem law_j0 {l h s : List Int} {p q : Int} (hl : Bytes l) (hh : h.length ≤ 300) (hs : s.length ≤ 100001) : Ev (fun k => laws_FnPhasesWork.j0 k l h s p q (upDown h s p q).1 (upDown h s p q).2 false) true := by
  have h4 := law_j4 hl
  refine Ev.step (fun k => by simp only [laws_FnPhasesWork.j0]; rfl) ?_
  refine Ev.ff (by simp) ?_
  by_cases c : (upDown h s p q).2 = true
  · obtain ⟨r, e, sg⟩ := up_ok c
    obtain ⟨wh, ws, hp, hq, hsp⟩ := rsOk_iff.1 r
    obtain ⟨p, rfl⟩ : ∃ n : Nat, p = (n : Int) := ⟨p.toNat, by omega⟩
    obtain ⟨q, rfl⟩ : ∃ n : Nat, q = (n : Int) := ⟨q.toNat, by omega⟩
    have hw := wts_len wh
    have hsl := sig_len ws
    rw [Int.toNat_natCast, Int.toNat_natCast] at e sg
    have hdl := sig_len sg
    have hdw : (direct h s p q).length ≤ 140737488351232 := by omega
    have hlen := direct_length (s := s) (q := q) (show 1 ≤ p by omega) hw.1
    have hcnt : cntOk h (s.length : Int) (p : Int) (q : Int) = true := cntOk_iff.2 ⟨wh, by omega, ratio_iff.2 ⟨hp, hq⟩, hsp⟩
    have b1 := impl_ProductsDirect_ev h (s.length : Int) (p : Int) (q : Int) (by omega)
    have b2 := impl_ProductsByPhases_ev h (s.length : Int) (p : Int) (q : Int) (by omega)
    have hfm := few_many h (s.length * p) p q (by omega) (by omega)
    rw [prodD, if_pos hcnt] at b1
    rw [prodP, if_pos hcnt] at b2
    simp only [Int.toNat_natCast] at b1 b2
    rw [e]
    have hp8 : 1 ≤ p ∧ p ≤ 8 := by omega
    have hq8 : 1 ≤ q ∧ q ≤ 8 := by omega
    have j3 : ∀ y : List Int × Bool, y.1.length ≤ 64 → (y.2 = true → dropS y.1 (q : Int) 0 = (direct h s p q, true)) → Ev (fun k => laws_FnPhasesWork.j3 k l (q : Int) (direct h s p q) y.1 y.2 false) true := by
      intro y hyl hy
      refine Ev.step (fun k => by simp only [laws_FnPhasesWork.j3]; rfl) ?_
      refine Ev.ff (by simp) ?_
      by_cases cy : y.2 = true
      · have b3 := impl_DropSamples_ev y.1 (q : Int) 0 (by omega)
        rw [hy cy] at b3
        exact Ev.tt cy (Ev.bind b3 (Ev.tt rfl (Ev.bind (laws_iSame_ev (direct h s p q) hdw) (Ev.tt rfl h4))))
      · exact Ev.ff cy h4
    have j2 : Ev (fun k => laws_FnPhasesWork.j2 k l h s (p : Int) (q : Int) (direct h s p q)) true := by
      refine Ev.step (fun k => by simp only [laws_FnPhasesWork.j2]; rfl) ?_
      by_cases c1 : (p : Int) = 1
      · have p1 : p = 1 := by omega
        subst p1
        have b4 := dnD_ev h s (q : Int) (by omega) (by omega)
        have e1 : upDown h s 1 (q : Int) = (direct h s 1 q, true) := e
        rw [e1] at b4
        have hk : (shortM h s).2 = true → dropS (shortM h s).1 (q : Int) 0 = (direct h s 1 q, true) := by
          intro k
          have kw : (wts h && sig s) = true := by rw [wh, ws]; rfl
          rw [shortM, if_pos kw] at k ⊢
          have ks := toldM_ok k
          rw [toldM_sig ks, dropS, if_pos ⟨ks, by omega, by omega⟩, Int.toNat_natCast]
          rw [direct, stuff_one]
          rfl
        have hsm : (shortM h s).1.length ≤ 64 := by
          unfold shortM
          split
          · exact toldM_len _
          · simp
        refine Ev.tt c1 (Ev.bind b4 (Ev.bind (impl_FilterShort_ev h s (by omega) (by omega)) ?_))
        dsimp only
        exact Ev.tt rfl (Ev.bind (laws_iSame_ev _ (by omega)) (j3 (shortM h s) hsm hk))
      · exact Ev.ff c1 h4
    have j1 : Ev (fun k => laws_FnPhasesWork.j1 k l h s (p : Int) (q : Int) (direct h s p q) false) true := by
      refine Ev.step (fun k => by simp only [laws_FnPhasesWork.j1]; rfl) ?_
      refine Ev.ff (by simp) (Ev.bind (upD_ev h s (p : Int) (by omega) (by omega)) ?_)
      by_cases cu : (upDown h s (p : Int) 1).2 = true
      · obtain ⟨_, eu, su⟩ := up_ok cu
        rw [Int.toNat_natCast] at eu su
        have e1 : (1 : Int).toNat = 1 := rfl
        rw [e1] at eu su
        have hul := sig_len su
        have b3 := impl_DropSamples_ev (direct h s p 1) (q : Int) 0 (by omega)
        have eD : dropS (direct h s p 1) (q : Int) 0 = (direct h s p q, true) := by
          rw [dropS, if_pos ⟨su, by omega, by omega⟩, Int.toNat_natCast, direct_one]
          rfl
        rw [eD] at b3
        rw [eu]
        exact Ev.tt rfl (Ev.bind b3 (Ev.tt rfl (Ev.bind (laws_iSame_ev (direct h s p q) hdw) (Ev.tt rfl j2))))
      · exact Ev.ff cu j2
    refine Ev.tt rfl (Ev.dbind (lengthAfter_eq hsl hp8 hq8) (Ev.bind b1 (Ev.bind b2 ?_)))
    dsimp only
    rw [decide_eq_false (show ¬ (((pcnt h (s.length * p) p q : Nat) : Int) > ((psum (dterm h) (s.length * p) : Nat) : Int)) by omega)]
    exact Ev.tt rfl (Ev.tt (by rw [hlen]) (Ev.tt rfl (Ev.tt rfl j1)))
  · exact Ev.ff c h4
theorem FnPhasesWork : laws_FnPhasesWork.Pure := by
  intro l0 l1 hm0 he0 hx0 hm1 he1 hx1
  apply Ev.rounds
  simp only [laws_FnPhasesWork.f]
  refine Ev.dbind (laws_big_eq l0 l1 (by omega) (by omega)) ?_
  by_cases c : decide (l0.length + l1.length > 1048576) = true
  · exact Ev.tt c (Ev.now _)
  have hlen : l0.length + l1.length ≤ 1048576 := by simpa using c
  refine Ev.ff c ?_
  have hb0 : Bytes l0 := bytes_of (by omega) hx0
  have hb1 : Bytes l1 := bytes_of (by omega) hx1
  obtain ⟨h, s, p, q, d, hh, hs⟩ := drawUFD_ok hb0
  have hu := upDown_len h s p q
  have p1 := impl_ByPhases_ev h s p q (by omega) (by omega)
  have p2 := spec_ByPhases_ev h s p q (by omega) (by omega)
  rw [byPhases_up] at p1 p2
  have j0 := law_j0 (p := p) (q := q) hb1 hh hs
  refine Ev.bind d (Ev.bind (impl_UpFilterDown_ev h s p q (by omega) (by omega)) (Ev.bind (spec_UpFilterDown_ev h s p q (by omega) (by omega)) (Ev.bind p1 (Ev.bind p2 ?_))))
  dsimp only
  exact Ev.ff (by simp) (Ev.bind (laws_iSame_ev _ (by omega)) (Ev.tt rfl (Ev.ff (by simp) (Ev.bind (laws_iSame_ev _ (by omega)) (Ev.tt rfl (Ev.ff (by simp) (Ev.bind (laws_iSame_ev _ (by omega)) j0)))))))

end Go.Proofs.Ytjplcongellcmaa.Pure
