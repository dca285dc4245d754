/- Errors that come back keep sums: with the order 1 within one step, with the order 2 by differences of errors. Conditions: none beyond those that the statement itself prints. -/
import Derived.Test.YthpdpbjgdndnmaaPFnErrorsShapedx7
namespace Go.Proofs.Ythpdpbjgdndnmaa.Pure
open Go.RowKit Go.Proofs.Ythpdpbjgdndnmaa.PFnErrorsShaped Go.Proofs.YthpdpbjgdndnmaaW.PrintWords Go.Proofs.YthpdpbjgdndnmaaW.PrintLast Go.Proofs.YthpdpbjgdndnmaaW.PrintMore
set_option linter.unusedVariables false
set_option linter.unusedSimpArgs false

theorem w64 {n : Int} (h1 : -9223372036854775808 ≤ n) (h2 : n ≤ 9223372036854775807) : wrap64 n = n := by
  unfold wrap64
  omega
theorem Ev.to {α : Type} {g : Nat → Option α} {r r' : α} (h : Ev g r) (e : r = r') : Ev g r' := e ▸ h
theorem Ev.const {α : Type} {g : Option α} {r : α} (h : g = some r) : Ev (fun _ => g) r := ⟨0, fun _ _ => h⟩
theorem Ev.dbind {α β : Type} {g : Option α} {f : Nat → α → Option β} {a : α} {r : β} (h : g = some a) (k : Ev (fun n => f n a) r) : Ev (fun n => g.bind (f n)) r :=
  Ev.bind (g := fun _ => g) (Ev.const h) k
theorem Ev.tt {α : Type} {c : Prop} {_ : Decidable c} {g f : Nat → Option α} {r : α} (h : c) (k : Ev g r) : Ev (fun n => if c then g n else f n) r := by
  simpa only [if_pos h] using k
theorem Ev.ff {α : Type} {c : Prop} {_ : Decidable c} {g f : Nat → Option α} {r : α} (h : ¬ c) (k : Ev f r) : Ev (fun n => if c then g n else f n) r := by
  simpa only [if_neg h] using k
theorem rd_mid (p t : List Int) (x : Int) : rd (p ++ x :: t) (p.length : Int) = x := by
  simp [rd]
theorem lt_mid {α : Type} (p t : List α) (x : α) : (p.length : Int) < ((p ++ x :: t).length : Int) := by
  simp
  omega
theorem nx_mid {α : Type} (p t : List α) (x : α) (h : (p ++ x :: t).length ≤ 140737488351232) : wrap64 ((p.length : Int) + 1) = ((p ++ [x]).length : Int) := by
  simp at h ⊢
  exact w64 (by omega) (by omega)
theorem ap_mid {α : Type} (p t : List α) (x : α) : p ++ x :: t = (p ++ [x]) ++ t := by simp
theorem w64_nat (a b : Nat) (h : a + b ≤ 1000000000) : wrap64 ((a : Int) + (b : Int)) = ((a + b : Nat) : Int) := by
  rw [w64 (n := (a : Int) + (b : Int)) (by omega) (by omega)]
  omega
theorem w64_suc {α : Type} (q : List α) (x : α) (h : q.length ≤ 1000000000) : wrap64 ((q.length : Int) + 1) = ((q ++ [x]).length : Int) := by
  rw [w64 (n := (q.length : Int) + 1) (by omega) (by omega)]
  simp
theorem ar1 {a b c d : Nat} (h1 : a + 1 ≤ c) (h2 : b + 1 ≤ d) : ((a + b : Nat) : Int) < ((c + d - 1 : Nat) : Int) := by omega
theorem ar2 {a b c d : Nat} (h1 : a + 1 ≤ c) (h2 : b + 1 ≤ d) : a + b < c + d - 1 := by omega
theorem ar3 (a b : Nat) : ¬ (a ≤ a + b ∧ a + b - a < b) := by omega
theorem ar4 {v M : Int} (h : -M ≤ v ∧ v ≤ M) (hm : M ≤ 4000000000000000000) : wrap64 v = v := w64 (by omega) (by omega)
theorem ar5 {c v P M H : Int} (hc : -P ≤ c ∧ c ≤ P) (hv : -M ≤ v ∧ v ≤ M) (hp : P + M ≤ H) (hH : H ≤ 4000000000000000000) : wrap64 (c + v) = c + v := w64 (by omega) (by omega)
theorem ar6 {a b : Nat} {M : Int} (h : a + 1 ≤ b) (hM : 0 ≤ M) : (a : Int) * M + M ≤ (b : Int) * M := by
  have h1 : ((a : Int) + 1) * M ≤ (b : Int) * M := Int.mul_le_mul_of_nonneg_right (by omega) hM
  rw [Int.add_mul, Int.one_mul] at h1
  exact h1
theorem ar7 {a b c d : Nat} (h1 : a + 1 ≤ c) (h2 : b + 1 ≤ d) (h : c + d ≤ 100000000) : a + b ≤ 1000000000 := by omega
theorem ar8 {a c d : Nat} (h1 : a + 1 ≤ c) (h : c + d ≤ 100000000) : a ≤ 1000000000 := by omega

def backOf (n : Int) : Int × Bool := if n = 3 then (-1, true) else if n = 4 then (0, true) else if n = 6 then (1, true) else (0, false)
def tnF (c : Int) : List Int → Int → Int → Int × Int
  | [], y, z => (y, z)
  | x :: t, y, z => tnF c t (wrap64 ((wrap64 (x + (wrap64 (c * y)))) - z)) y
def sig (l : List Int) : Bool := decide (l.length ≤ 64) && l.all fun x => decide (-100000 ≤ x) && decide (x ≤ 100000)
def toneStates (l : List Int) (n : Int) : Int × Int × Bool := if (backOf n).2 = true then (if sig l = true then ((tnF (backOf n).1 l 0 0).1, (tnF (backOf n).1 l 0 0).2, true) else (0, 0, false)) else (0, 0, false)
theorem sig_len {l : List Int} (h : sig l = true) : l.length ≤ 64 := by
  simp [sig] at h
  exact h.1
theorem sig_mem {l : List Int} (h : sig l = true) : ∀ x ∈ l, -100000 ≤ x ∧ x ≤ 100000 := by
  simp [sig] at h
  exact h.2
def isBits (l : List Int) : Bool := decide (l.length ≤ 200) && l.all fun x => decide (x = 1 ∨ x = -1)
theorem isBits_len {l : List Int} (h : isBits l = true) : l.length ≤ 200 := by
  simp [isBits] at h
  exact h.1
theorem isBits_mem {l : List Int} (h : isBits l = true) : ∀ x ∈ l, x = 1 ∨ x = -1 := by
  simp [isBits] at h
  exact h.2
def toldM (l : List Int) : List Int × Bool := if sig l = true then (l, true) else ([], false)
theorem toldM_len (l : List Int) : (toldM l).1.length ≤ 64 := by
  unfold toldM
  split
  · exact sig_len ‹_›
  · simp
def bitM (x v : Int) : Int := if x ≥ v then 1 else -1
theorem bitM_cases (x v : Int) : bitM x v = 1 ∨ bitM x v = -1 := by
  unfold bitM
  split <;> simp
def tkS (st last : Int) (fixed : Bool) (bit : Int) : Int :=
  if fixed = true then st else if last = 0 then st else if bit = last then (if 2 * st ≤ 4096 then 2 * st else 4096) else (if 1 ≤ st / 2 then st / 2 else 1)
theorem tkS_bd {st last : Int} {fixed : Bool} {bit : Int} (h0 : 1 ≤ st) (h1 : st ≤ 4096) : 1 ≤ tkS st last fixed bit ∧ tkS st last fixed bit ≤ 4096 := by
  unfold tkS
  repeat' split
  all_goals omega
theorem mul_bit {st bit : Int} (hb : bit = 1 ∨ bit = -1) : st * bit = st ∨ st * bit = -st := by
  rcases hb with rfl | rfl
  · left; omega
  · right; omega
/-- bit, value and step behind each sample -/
def codeM (fixed : Bool) : List Int → Int → Int → Int → List (Int × Int × Int)
  | [], _, _, _ => []
  | x :: t, v, st, last =>
    let b := bitM x v
    let s := tkS st last fixed b
    (b, v + s * b, s) :: codeM fixed t (v + s * b) s b
theorem codeM_length (fixed : Bool) : ∀ (l : List Int) (v st last : Int), (codeM fixed l v st last).length = l.length
  | [], _, _, _ => rfl
  | x :: t, v, st, last => by simp [codeM, codeM_length fixed t]
def fixM (st : Int) : List Int → Int → List Int
  | [], _ => []
  | x :: t, v => bitM x v :: fixM st t (v + bitM x v * st)
theorem fixM_length (st : Int) : ∀ (l : List Int) (v : Int), (fixM st l v).length = l.length
  | [], _ => rfl
  | x :: t, v => by simp [fixM, fixM_length st t]
def fixedBits (l : List Int) (st : Int) : List Int × Bool := if sig l = true ∧ 1 ≤ st ∧ st ≤ 4096 then (fixM st l 0, true) else ([], false)
def decM (fixed : Bool) : List Int → Int → Int → Int → List (Int × Int)
  | [], _, _, _ => []
  | b :: t, v, st, last => (v + tkS st last fixed b * b, tkS st last fixed b) :: decM fixed t (v + tkS st last fixed b * b) (tkS st last fixed b) b
theorem decM_length (fixed : Bool) : ∀ (l : List Int) (v st last : Int), (decM fixed l v st last).length = l.length
  | [], _, _, _ => rfl
  | x :: t, v, st, last => by simp [decM, decM_length fixed t]
def gapM : List Int → List Int → List Int
  | x :: t, y :: u => (x - y) :: gapM t u
  | _, _ => []
theorem gapM_length : ∀ (l m : List Int), l.length = m.length → (gapM l m).length = l.length
  | [], m, _ => by cases m <;> simp [gapM]
  | x :: t, [], h => by simp at h
  | x :: t, y :: u, h => by
    simp at h
    simp [gapM, gapM_length t u h]
theorem codeM_val (fixed : Bool) : ∀ (l : List Int) (v st last : Int) (n : Int), 1 ≤ st → st ≤ 4096 → -4096 * n ≤ v → v ≤ 4096 * n → ∀ y ∈ (codeM fixed l v st last).map (·.2.1), -4096 * (n + l.length) ≤ y ∧ y ≤ 4096 * (n + l.length)
  | [], _, _, _, _, _, _, _, _, y, hy => by simp [codeM] at hy
  | x :: t, v, st, last, n, h0, h1, hv0, hv1, y, hy => by
    have hb := bitM_cases x v
    have hk := tkS_bd (last := last) (fixed := fixed) (bit := bitM x v) h0 h1
    have hm := mul_bit (st := tkS st last fixed (bitM x v)) hb
    simp only [codeM, List.map_cons, List.mem_cons] at hy
    rcases hy with rfl | hy
    · simp; omega
    · have := codeM_val fixed t _ _ _ (n + 1) hk.1 hk.2 (by omega) (by omega) y hy
      simp; omega
def stepOk (st : Int) : Bool := decide (1 ≤ st) && decide (st ≤ 4096)
theorem stepOk_iff {st : Int} : stepOk st = true ↔ 1 ≤ st ∧ st ≤ 4096 := by simp [stepOk]
def stepBits (l : List Int) (st : Int) : List Int × Bool := if sig l = true then (if stepOk st = true then ((codeM false l 0 st 0).map (·.1), true) else ([], false)) else ([], false)
def stepValues (l : List Int) (st : Int) : List Int × Bool := if isBits l = true then (if stepOk st = true then toldM ((decM false l 0 st 0).map (·.1)) else ([], false)) else ([], false)
def stepsOfBits (l : List Int) (st : Int) : List Int × Bool := if isBits l = true then (if stepOk st = true then toldM ((decM false l 0 st 0).map (·.2)) else ([], false)) else ([], false)
def fixedValues (l : List Int) (st : Int) : List Int × Bool := if isBits l = true then (if stepOk st = true then toldM ((decM true l 0 st 0).map (·.1)) else ([], false)) else ([], false)
def stepGaps (l : List Int) (st : Int) : List Int × Bool := if sig l = true then (if stepOk st = true then toldM (gapM l ((codeM false l 0 st 0).map (·.2.1))) else ([], false)) else ([], false)
def wts (l : List Int) : Bool := decide (1 ≤ l.length) && decide (l.length ≤ 9) && l.all fun x => decide (-1000 ≤ x) && decide (x ≤ 1000)
theorem wts_len {l : List Int} (h : wts l = true) : 1 ≤ l.length ∧ l.length ≤ 9 := by
  simp [wts] at h
  exact ⟨h.1.1, h.1.2⟩
theorem wts_mem {l : List Int} (h : wts l = true) : ∀ x ∈ l, -1000 ≤ x ∧ x ≤ 1000 := by
  simp [wts] at h
  exact h.2
def ratio (p q : Int) : Bool := (decide (1 ≤ p) && decide (p ≤ 8)) && (decide (1 ≤ q) && decide (q ≤ 8))
theorem ratio_iff {p q : Int} : ratio p q = true ↔ (1 ≤ p ∧ p ≤ 8) ∧ (1 ≤ q ∧ q ≤ 8) := by simp [ratio]
def rsOk (h l : List Int) (p q : Int) : Bool := wts h && ((sig l && ratio p q) && decide ((l.length : Int) * p ≤ 64))
def peakM : List Int → Nat → Nat
  | [], m => m
  | x :: t, m => peakM t (max m x.natAbs)

def cv : List Int → List Int → Nat → Int
  | [], _, _ => 0
  | w :: _, s, 0 => w * s.getD 0 0
  | w :: h, s, n + 1 => w * s.getD (n + 1) 0 + cv h s n
def Lf (f : Nat → Int) (N : Nat) : List Int := (List.range N).map f
theorem Lf_length (f : Nat → Int) (N : Nat) : (Lf f N).length = N := by simp [Lf]
theorem rd_Lf (f : Nat → Int) (N i : Nat) (h : i < N) : rd (Lf f N) (i : Int) = f i := by
  simp [rd, Lf, h]
theorem set_Lf (f : Nat → Int) (N i : Nat) (v : Int) : (Lf f N).set i v = Lf (fun n => if n = i then v else f n) N := by
  apply List.ext_getElem
  · simp [Lf]
  · intro n h1 h2
    simp [Lf, List.getElem_set]
    by_cases c : i = n
    · simp [c]
    · rw [if_neg c, if_neg (fun h => c h.symm)]
theorem Lf_congr {f g : Nat → Int} {N : Nat} (h : ∀ n, n < N → f n = g n) : Lf f N = Lf g N := by
  apply List.ext_getElem
  · simp [Lf]
  · intro n h1 h2
    simp [Lf] at h1 ⊢
    exact h n h1
theorem cv_snoc (s : List Int) (w : Int) : ∀ (p : List Int) (n : Nat), cv (p ++ [w]) s n = cv p s n + (if p.length ≤ n then w * s.getD (n - p.length) 0 else 0)
  | [], 0 => by simp [cv]
  | [], n + 1 => by simp [cv]
  | a :: p, 0 => by simp [cv]
  | a :: p, n + 1 => by
    simp only [List.cons_append, cv, cv_snoc s w p n, List.length_cons, Nat.add_le_add_iff_right, Nat.add_sub_add_right]
    omega
theorem getD_bd {s : List Int} {a M : Int} (hM : 0 ≤ M) (h : ∀ x ∈ s, -M ≤ a * x ∧ a * x ≤ M) (n : Nat) : -M ≤ a * s.getD n 0 ∧ a * s.getD n 0 ≤ M := by
  rw [List.getD_eq_getElem?_getD]
  by_cases c : n < s.length
  · rw [List.getElem?_eq_getElem c]
    exact h _ (List.getElem_mem c)
  · rw [List.getElem?_eq_none (by omega)]
    simp
    omega
theorem cv_bd {s : List Int} {M : Int} (hM : 0 ≤ M) : ∀ (h : List Int) (n : Nat), (∀ a ∈ h, ∀ x ∈ s, -M ≤ a * x ∧ a * x ≤ M) → -(h.length * M) ≤ cv h s n ∧ cv h s n ≤ h.length * M
  | [], n, hb => by simp [cv]
  | a :: h, 0, hb => by
    have h1 := getD_bd hM (hb a (by simp)) 0
    have h2 : 0 ≤ (h.length : Int) * M := Int.mul_nonneg (by omega) hM
    simp only [cv, List.length_cons, Int.natCast_add, Int.add_mul]
    omega
  | a :: h, n + 1, hb => by
    have h1 := getD_bd hM (hb a (by simp)) (n + 1)
    have h2 := cv_bd hM h n (fun b hbm => hb b (by simp [hbm]))
    simp only [cv, List.length_cons, Int.natCast_add, Int.add_mul]
    omega
def conv (h s : List Int) : List Int := if s = [] then [] else Lf (cv h s) (h.length + s.length - 1)
theorem conv_length (h s : List Int) (hs : s ≠ []) : (conv h s).length = h.length + s.length - 1 := by
  rw [conv, if_neg hs, Lf_length]
/-- what stands in the list when the weights p are done, and of the weight w the samples q -/
def cvi (p q s : List Int) (w : Int) (n : Nat) : Int := cv p s n + (if p.length ≤ n ∧ n - p.length < q.length then w * s.getD (n - p.length) 0 else 0)
theorem cvi_nil (p s : List Int) (w : Int) : cvi p [] s w = cv p s := by
  funext n
  simp [cvi]
theorem cvi_all (p s : List Int) (w : Int) (n : Nat) : cvi p s s w n = cv (p ++ [w]) s n := by
  rw [cv_snoc, cvi]
  by_cases c : p.length ≤ n
  · by_cases d : n - p.length < s.length
    · rw [if_pos ⟨c, d⟩, if_pos c]
    · rw [if_neg (fun h => d h.2), if_pos c, List.getD_eq_getElem?_getD, List.getElem?_eq_none (by omega)]
      simp
  · rw [if_neg (fun h => c h.1), if_neg c]
theorem getD_mid (q t : List Int) (x : Int) : (q ++ x :: t).getD q.length 0 = x := by simp
theorem cvi_step (p q t : List Int) (w x : Int) (n : Nat) : (if n = p.length + q.length then cvi p q (q ++ x :: t) w n + w * x else cvi p q (q ++ x :: t) w n) = cvi p (q ++ [x]) (q ++ x :: t) w n := by
  unfold cvi
  by_cases c : n = p.length + q.length
  · subst c
    have e : p.length + q.length - p.length = q.length := by omega
    rw [if_pos rfl, e, getD_mid, if_neg (by omega), if_pos ⟨by omega, by simp⟩]
    omega
  · rw [if_neg c]
    by_cases d : p.length ≤ n ∧ n - p.length < q.length
    · rw [if_pos d, if_pos ⟨d.1, by simp; omega⟩]
    · rw [if_neg d, if_neg (fun h => d ⟨h.1, by have := h.2; simp at this; omega⟩)]
theorem Lf_succ (f : Nat → Int) (n : Nat) : Lf f (n + 1) = Lf f n ++ [f n] := by simp [Lf, List.range_succ]
def dropN (len rate first : Nat) : Nat := (len - first + rate - 1) / rate
theorem dropN_lt {len rate first j : Nat} (hr : 1 ≤ rate) : j < dropN len rate first ↔ first + j * rate < len := by
  unfold dropN
  rw [Nat.lt_iff_add_one_le, Nat.le_div_iff_mul_le (by omega), Nat.add_mul]
  omega
def dropM (l : List Int) (rate first : Nat) : List Int := Lf (fun j => l.getD (first + j * rate) 0) (dropN l.length rate first)
theorem dropM_length (l : List Int) (rate first : Nat) : (dropM l rate first).length = dropN l.length rate first := Lf_length _ _
theorem dropN_le {len rate first : Nat} (hr : 1 ≤ rate) : dropN len rate first ≤ len := by
  apply Nat.le_of_not_lt
  intro h
  have := (dropN_lt hr).1 h
  have h2 : len * 1 ≤ len * rate := Nat.mul_le_mul_left len hr
  omega
def stuffM (p : Nat) : List Int → List Int
  | [] => []
  | x :: t => (x :: List.replicate (p - 1) 0) ++ stuffM p t
theorem stuffM_length (p : Nat) (hp : 1 ≤ p) : ∀ l : List Int, (stuffM p l).length = l.length * p
  | [] => by simp [stuffM]
  | x :: t => by
    simp only [stuffM, List.length_append, List.length_cons, List.length_replicate, stuffM_length p hp t, Nat.add_mul]
    omega
theorem stuffM_snoc (p : Nat) (x : Int) : ∀ l : List Int, stuffM p (l ++ [x]) = stuffM p l ++ (x :: List.replicate (p - 1) 0)
  | [] => by simp [stuffM]
  | y :: t => by simp [stuffM, stuffM_snoc p x t]
theorem rd_getD (l : List Int) (i : Nat) : rd l (i : Int) = l.getD i 0 := by simp [rd]
theorem stuffM_sig (p : Nat) : ∀ l : List Int, (∀ x ∈ l, -100000 ≤ x ∧ x ≤ 100000) → ∀ x ∈ stuffM p l, -100000 ≤ x ∧ x ≤ 100000
  | [], _, x, h => by simp [stuffM] at h
  | y :: t, hl, x, h => by
    simp only [stuffM, List.mem_append, List.mem_cons, List.mem_replicate] at h
    rcases h with (rfl | ⟨_, rfl⟩) | h
    · exact hl _ (by simp)
    · omega
    · exact stuffM_sig p t (fun z hz => hl z (by simp [hz])) x h
theorem sig_iff {l : List Int} : sig l = true ↔ l.length ≤ 64 ∧ ∀ x ∈ l, -100000 ≤ x ∧ x ≤ 100000 := by simp [sig]
theorem ediv_bd {x b : Int} (hb : 0 < b) (hx : -4611686018427387904 ≤ x ∧ x ≤ 4611686018427387904) : -4611686018427387905 ≤ x / b ∧ x / b ≤ 4611686018427387905 := by
  have h0 := Int.emod_nonneg x (show b ≠ 0 by omega)
  have h1 := Int.emod_lt_of_pos x hb
  have h2 := Int.emod_add_mul_ediv x b
  constructor
  · apply Int.not_lt.1
    intro h
    have : b * (x / b) ≤ 1 * (x / b) := Int.mul_le_mul_of_nonpos_right (by omega) (by omega)
    have h3 : b * (x / b) ≤ b * (-4611686018427387906) := Int.mul_le_mul_of_nonneg_left (by omega) (by omega)
    omega
  · apply Int.not_lt.1
    intro h
    have h3 : 1 * (x / b) ≤ b * (x / b) := Int.mul_le_mul_of_nonneg_right (by omega) (by omega)
    omega
def atM (s : List Int) (i : Int) : Int := if 0 ≤ i then s.getD i.toNat 0 else 0
theorem getD_all {l : List Int} {M : Int} (hM : 0 ≤ M) (h : ∀ x ∈ l, -M ≤ x ∧ x ≤ M) (n : Nat) : -M ≤ l.getD n 0 ∧ l.getD n 0 ≤ M := by
  rw [List.getD_eq_getElem?_getD]
  by_cases c : n < l.length
  · rw [List.getElem?_eq_getElem c]
    exact h _ (List.getElem_mem c)
  · rw [List.getElem?_eq_none (by omega)]
    simp
    omega

theorem spec_l1In_eq (a b c : Int) : spec_l1In.f a b c = some (decide (b ≤ a) && decide (a ≤ c)) := by
  unfold spec_l1In.f
  by_cases h : b ≤ a <;> simp [h]

theorem impl_in_eq (a b c : Int) : impl_in.f a b c = some (decide (b ≤ a) && decide (a ≤ c)) := by
  unfold impl_in.f
  by_cases h : b ≤ a <;> simp [h]

theorem spec_l1All_l0 (lo hi : Int) (l : List Int) (hl : l.length ≤ 140737488351232) : ∀ (t p : List Int), l = p ++ t → Ev (fun k => spec_l1All.l0 k lo hi l (l.length : Int) (p.length : Int)) (t.all fun x => decide (lo ≤ x) && decide (x ≤ hi))
  | [], p, h => by
    apply Ev.step (f := fun _ => some _)
    · intro k
      subst h
      simp [spec_l1All.l0]; rfl
    · exact Ev.now _
  | x :: t, p, h => by
    have e1 : (p.length : Int) < (l.length : Int) := by rw [h]; exact lt_mid p t x
    have e2 : rd l (p.length : Int) = x := by rw [h]; exact rd_mid p t x
    have e3 : wrap64 ((p.length : Int) + 1) = ((p ++ [x]).length : Int) := nx_mid p t x (h ▸ hl)
    by_cases c : (decide (lo ≤ x) && decide (x ≤ hi)) = true
    · refine Ev.to (Ev.step (fun k => ?_) (spec_l1All_l0 lo hi l hl t (p ++ [x]) (by simp [h]))) (by rw [List.all_cons, c, Bool.true_and])
      simp only [spec_l1All.l0, if_pos e1, if_pos (Int.natCast_nonneg _), e2, e3, spec_l1In_eq, Option.bind_some, if_pos c]
    · refine Ev.to (Ev.step (fun k => ?_) (Ev.now false)) (by rw [List.all_cons, Bool.eq_false_iff.mpr c, Bool.false_and])
      simp only [spec_l1All.l0, if_pos e1, if_pos (Int.natCast_nonneg _), e2, e3, spec_l1In_eq, Option.bind_some, if_neg c]
theorem spec_l1All_ev (l : List Int) (lo hi : Int) (hl : l.length ≤ 140737488351232) : Ev (fun k => spec_l1All.f k l lo hi) (l.all fun x => decide (lo ≤ x) && decide (x ≤ hi)) := by
  simpa [spec_l1All.f] using spec_l1All_l0 lo hi l hl l [] rfl

theorem spec_wdSignal_ev (l : List Int) (hl : l.length ≤ 140737488351232) : Ev (fun k => spec_wdSignal.f k l) (sig l) := by
  simp only [spec_wdSignal.f]
  by_cases c : (l.length : Int) ≤ 64
  · refine Ev.tt c (Ev.bind (spec_l1All_ev l (-100000) 100000 hl) (Ev.to (Ev.now _) ?_))
    simp [sig]; omega
  · refine Ev.ff c (Ev.to (Ev.now _) ?_)
    simp [sig]; omega

theorem impl_isSignal_c1_eq (x : Int) : impl_isSignal_c1.f x = some (!(decide (-100000 ≤ x) && decide (x ≤ 100000))) := by
  unfold impl_isSignal_c1.f
  rw [impl_in_eq]
  rfl
theorem indexSignal_l0 (l : List Int) (hl : l.length ≤ 140737488351232) : ∀ (t p : List Int), l = p ++ t → ∃ r, Ev (fun k => slices_IndexFunc_int_int_impl_isSignal_c1.l0 k l (l.length : Int) (p.length : Int)) r ∧ (decide (r ≥ 0) = !(t.all fun x => decide (-100000 ≤ x) && decide (x ≤ 100000)))
  | [], p, h => by
    refine ⟨-1, Ev.step (f := fun _ => some (-1)) ?_ (Ev.now _), by simp⟩
    intro k
    subst h
    simp [slices_IndexFunc_int_int_impl_isSignal_c1.l0]
  | x :: t, p, h => by
    have e1 : (p.length : Int) < (l.length : Int) := by rw [h]; exact lt_mid p t x
    have e2 : rd l (p.length : Int) = x := by rw [h]; exact rd_mid p t x
    have e3 : wrap64 ((p.length : Int) + 1) = ((p ++ [x]).length : Int) := nx_mid p t x (h ▸ hl)
    by_cases c : (decide (-100000 ≤ x) && decide (x ≤ 100000)) = true
    · obtain ⟨r, h1, h2⟩ := indexSignal_l0 l hl t (p ++ [x]) (by simp [h])
      refine ⟨r, Ev.step (fun k => ?_) h1, by rw [h2, List.all_cons, c, Bool.true_and]⟩
      simp only [slices_IndexFunc_int_int_impl_isSignal_c1.l0, if_pos e1, if_pos (Int.natCast_nonneg _), e2, e3, impl_isSignal_c1_eq, c, Option.bind_some, Bool.not_true]
      rfl
    · have c := Bool.eq_false_iff.mpr c
      refine ⟨(p.length : Int), Ev.step (fun k => ?_) (Ev.now _), by rw [List.all_cons, c]; simp⟩
      simp only [slices_IndexFunc_int_int_impl_isSignal_c1.l0, if_pos e1, if_pos (Int.natCast_nonneg _), e2, e3, impl_isSignal_c1_eq, c, Option.bind_some, Bool.not_false]
      rfl
theorem impl_isSignal_ev (l : List Int) (hl : l.length ≤ 140737488351232) : Ev (fun k => impl_isSignal.f k l) (sig l) := by
  simp only [impl_isSignal.f]
  by_cases c : (l.length : Int) ≤ 64
  · obtain ⟨r, h1, h2⟩ := indexSignal_l0 l hl l [] rfl
    refine Ev.tt c (Ev.bind (a := decide (r ≥ 0)) ?_ (Ev.to (Ev.now _) ?_))
    · simp only [slices_ContainsFunc_int_int_impl_isSignal_c1.f, slices_IndexFunc_int_int_impl_isSignal_c1.f]
      exact Ev.bind h1 (Ev.now _)
    · rw [h2]; simp [sig]; omega
  · refine Ev.ff c (Ev.to (Ev.now _) ?_)
    simp [sig]; omega

theorem spec_l1Abs_eq (x : Int) (h : -1000000000000000000 ≤ x ∧ x ≤ 1000000000000000000) : spec_l1Abs.f x = some (x.natAbs : Int) := by
  unfold spec_l1Abs.f spec_l1Most.f
  rw [w64 (n := -x) (by omega) (by omega)]
  by_cases c : x > -x
  · rw [if_pos c]; simp; omega
  · rw [if_neg c]; simp; omega
theorem spec_wdPeak_l0 (l : List Int) (hl : l.length ≤ 140737488351232) (hs : ∀ x ∈ l, -1000000000000000000 ≤ x ∧ x ≤ 1000000000000000000) : ∀ (t p : List Int) (m : Nat), l = p ++ t → Ev (fun k => spec_wdPeak.l0 k (m : Int) l (l.length : Int) (p.length : Int)) ((peakM t m : Nat) : Int)
  | [], p, m, h => by
    refine Ev.step (f := fun _ => some (m : Int)) (fun k => ?_) (Ev.now _)
    subst h
    simp [spec_wdPeak.l0]
  | x :: t, p, m, h => by
    have e1 : (p.length : Int) < (l.length : Int) := by rw [h]; exact lt_mid p t x
    have e2 : rd l (p.length : Int) = x := by rw [h]; exact rd_mid p t x
    have e3 : wrap64 ((p.length : Int) + 1) = ((p ++ [x]).length : Int) := nx_mid p t x (h ▸ hl)
    have hx := hs x (by rw [h]; simp)
    have e4 : spec_l1Most.f (m : Int) (x.natAbs : Int) = some ((max m x.natAbs : Nat) : Int) := by
      unfold spec_l1Most.f
      by_cases c : (m : Int) > (x.natAbs : Int)
      · rw [if_pos c, Nat.max_eq_left (by omega)]
      · rw [if_neg c, Nat.max_eq_right (by omega)]
    refine Ev.step (fun k => ?_) (spec_wdPeak_l0 l hl hs t (p ++ [x]) (max m x.natAbs) (by simp [h]))
    simp only [spec_wdPeak.l0, if_pos e1, if_pos (Int.natCast_nonneg _), e2, e3, spec_l1Abs_eq x hx, Option.bind_some, e4]
theorem spec_wdPeak_ev (l : List Int) (hl : l.length ≤ 140737488351232) (hs : ∀ x ∈ l, -1000000000000000000 ≤ x ∧ x ≤ 1000000000000000000) : Ev (fun k => spec_wdPeak.f k l) ((peakM l 0 : Nat) : Int) := by
  have h := spec_wdPeak_l0 l hl hs l [] 0 rfl
  simpa [spec_wdPeak.f] using h

theorem impl_size_eq (x : Int) (h : -1000000000000000000 ≤ x ∧ x ≤ 1000000000000000000) : impl_size.f x = some (x.natAbs : Int) := by
  unfold impl_size.f mx
  rw [w64 (n := -x) (by omega) (by omega)]
  by_cases c : x < -x
  · rw [if_pos c]; simp; omega
  · rw [if_neg c]; simp; omega
theorem impl_peak_l0 (l : List Int) (hl : l.length ≤ 140737488351232) (hs : ∀ x ∈ l, -1000000000000000000 ≤ x ∧ x ≤ 1000000000000000000) : ∀ (t p : List Int) (m : Nat), l = p ++ t → Ev (fun k => impl_peak.l0 k (m : Int) l (l.length : Int) (p.length : Int)) ((peakM t m : Nat) : Int)
  | [], p, m, h => by
    refine Ev.step (f := fun _ => some (m : Int)) (fun k => ?_) (Ev.now _)
    subst h
    simp [impl_peak.l0]
  | x :: t, p, m, h => by
    have e1 : (p.length : Int) < (l.length : Int) := by rw [h]; exact lt_mid p t x
    have e2 : rd l (p.length : Int) = x := by rw [h]; exact rd_mid p t x
    have e3 : wrap64 ((p.length : Int) + 1) = ((p ++ [x]).length : Int) := nx_mid p t x (h ▸ hl)
    have hx := hs x (by rw [h]; simp)
    have e4 : mx (m : Int) (x.natAbs : Int) = ((max m x.natAbs : Nat) : Int) := by
      unfold mx
      by_cases c : (m : Int) < (x.natAbs : Int)
      · rw [if_pos c, Nat.max_eq_right (by omega)]
      · rw [if_neg c, Nat.max_eq_left (by omega)]
    refine Ev.step (fun k => ?_) (impl_peak_l0 l hl hs t (p ++ [x]) (max m x.natAbs) (by simp [h]))
    simp only [impl_peak.l0, if_pos e1, if_pos (Int.natCast_nonneg _), e2, e3, impl_size_eq x hx, Option.bind_some, e4]
theorem impl_peak_ev (l : List Int) (hl : l.length ≤ 140737488351232) (hs : ∀ x ∈ l, -1000000000000000000 ≤ x ∧ x ≤ 1000000000000000000) : Ev (fun k => impl_peak.f k l) ((peakM l 0 : Nat) : Int) := by
  have h := impl_peak_l0 l hl hs l [] 0 rfl
  simpa [impl_peak.f] using h

/-- What a cursor gives: a value with P, and at most c steps further. -/
def Dr {α : Type} (P : α → Prop) (c : Int) (a : Int) (g : Option (α × Int × Int)) : Prop := ∃ v a' sd, g = some (v, a', sd) ∧ a ≤ a' ∧ a' ≤ a + c ∧ P v
theorem u64_bd (n : Int) : 0 ≤ IntKind.u64.wrap n ∧ IntKind.u64.wrap n < 18446744073709551616 := by
  simp only [IntKind.wrap, IntKind.bits, IntKind.signed]
  simp
  omega
theorem u64_and255 (x : Int) (h0 : 0 ≤ x) (h1 : x < 18446744073709551616) : Go.bits .and .u64 x 255 = x % 256 :=
  bits_mask .u64 64 (by decide) (fun n h0 h1 => by
    simp only [IntKind.wrap, IntKind.bits, IntKind.signed]
    simp
    omega) 8 (by decide) x h0 h1
def Bytes (l : List Int) : Prop := l.length ≤ 1048576 ∧ ∀ x ∈ l, 0 ≤ x ∧ x ≤ 255
theorem next_ok {l : List Int} (hl : Bytes l) (a sd : Int) (h0 : 0 ≤ a) (h1 : a ≤ 1000000000000000) : Dr (fun v => 0 ≤ v ∧ v ≤ 255) 1 a (spec_l1Cur_next.f l a sd) := by
  have hw : wrap64 (a + 1) = a + 1 := w64 (by omega) (by omega)
  have hm : ∀ y : Int, 0 ≤ wrap64 (Go.bits .and .u64 (IntKind.u64.wrap y / 1099511627776) 255) ∧ wrap64 (Go.bits .and .u64 (IntKind.u64.wrap y / 1099511627776) 255) ≤ 255 := by
    intro y
    have hy := u64_bd y
    rw [u64_and255 _ (by omega) (by omega), w64 (n := IntKind.u64.wrap y / 1099511627776 % 256) (by omega) (by omega)]
    omega
  unfold spec_l1Cur_next.f
  by_cases c : a < (l.length : Int)
  · have hr : 0 ≤ rd l a ∧ rd l a ≤ 255 := by
      obtain ⟨n, rfl⟩ : ∃ n : Nat, a = (n : Int) := ⟨a.toNat, by omega⟩
      have hn : n < l.length := by omega
      rw [rd_getD, List.getD_eq_getElem?_getD, List.getElem?_eq_getElem hn]
      exact hl.2 _ (List.getElem_mem hn)
    rw [if_pos c, if_pos h0, hw, if_pos (by omega), w64 (n := rd l a) (by omega) (by omega)]
    exact ⟨_, _, _, rfl, by omega, by omega, hr⟩
  · rw [if_neg c, hw]
    by_cases d : a + 1 ≤ (l.length : Int)
    · omega
    · rw [if_neg d]
      exact ⟨_, _, _, rfl, by omega, by omega, hm _⟩

theorem pick_ok {l : List Int} (hl : Bytes l) (a sd n : Int) (h0 : 0 ≤ a) (h1 : a ≤ 100000000000000) (hn : n ≤ 1000000) : Dr (fun v => 0 ≤ v ∧ (v < n ∨ v = 0)) 2 a (spec_l1Cur_pick.f l a sd n) := by
  unfold spec_l1Cur_pick.f
  by_cases c : n ≤ 1
  · rw [if_pos c]
    exact ⟨_, _, _, rfl, by omega, by omega, by omega, .inr rfl⟩
  · rw [if_neg c]
    obtain ⟨v, a', sd', e, ha, hb, hv⟩ := next_ok hl a sd h0 (by omega)
    rw [e]
    simp only [Option.bind_some]
    have hn0 : ¬ n = 0 := by omega
    by_cases d : n > 200
    · rw [if_pos d]
      obtain ⟨v2, a2, sd2, e2, ha2, hb2, hv2⟩ := next_ok hl a' sd' (by omega) (by omega)
      rw [e2]
      simp only [Option.bind_some]
      rw [if_neg hn0, w64 (n := v * 256) (by omega) (by omega), w64 (n := v * 256 + v2) (by omega) (by omega), Int.tmod_eq_emod_of_nonneg (by omega)]
      have := Int.emod_nonneg (v * 256 + v2) hn0
      have := Int.emod_lt_of_pos (v * 256 + v2) (show 0 < n by omega)
      exact ⟨_, _, _, rfl, by omega, by omega, by omega, .inl (by omega)⟩
    · rw [if_neg d, if_neg hn0, Int.tmod_eq_emod_of_nonneg (by omega)]
      have := Int.emod_nonneg v hn0
      have := Int.emod_lt_of_pos v (show 0 < n by omega)
      exact ⟨_, _, _, rfl, by omega, by omega, by omega, .inl (by omega)⟩

theorem among_ok {l : List Int} (hl : Bytes l) (a sd : Int) (m : List Int) (h0 : 0 ≤ a) (h1 : a ≤ 100000000000000) (hm : 1 ≤ m.length) (hm2 : m.length ≤ 1000) : Dr (fun v => v ∈ m) 2 a (spec_l1Cur_among.f l a sd m) := by
  unfold spec_l1Cur_among.f
  obtain ⟨v, a', sd', e, ha, hb, hv, hv2⟩ := pick_ok hl a sd (m.length : Int) h0 h1 (by omega)
  rw [e]
  simp only [Option.bind_some]
  rw [if_pos hv, if_pos (by omega)]
  refine ⟨_, _, _, rfl, ha, hb, ?_⟩
  obtain ⟨n, rfl⟩ : ∃ n : Nat, v = (n : Int) := ⟨v.toNat, by omega⟩
  have hn : n < m.length := by omega
  rw [rd_getD, List.getD_eq_getElem?_getD, List.getElem?_eq_getElem hn]
  exact List.getElem_mem hn

theorem one_ok {l : List Int} (hl : Bytes l) (a sd n : Int) (h0 : 0 ≤ a) (h1 : a ≤ 100000000000000) (hn : n ≤ 1000000) : Dr (fun _ => True) 2 a (spec_l1Cur_one.f l a sd n) := by
  unfold spec_l1Cur_one.f
  obtain ⟨v, a', sd', e, ha, hb, hv, hv2⟩ := pick_ok hl a sd n h0 h1 hn
  rw [e]
  simp only [Option.bind_some]
  exact ⟨_, _, _, rfl, ha, hb, trivial⟩

theorem mode_ok {l : List Int} (hl : Bytes l) (a sd : Int) (h0 : 0 ≤ a) (h1 : a ≤ 10000000000000) : Dr (fun v => -1 ≤ v ∧ v ≤ 3) 10 a (spec_l1Cur_mode.f l a sd) := by
  unfold spec_l1Cur_mode.f
  obtain ⟨u, a2, sd2, e2, ha2, hb2, hu⟩ := among_ok hl a sd [0, 1, 2, 0, 1, 2, 0, 1, 2, 3, (-1)] h0 (by omega) (by simp) (by simp)
  rw [e2]
  simp only [Option.bind_some]
  refine ⟨_, _, _, rfl, by omega, by omega, ?_⟩
  simp at hu
  omega

theorem laws_big_eq (l m : List Int) (hl : l.length ≤ 140737488355328) (hm : m.length ≤ 140737488355328) : laws_big.f l m = some (decide (1048576 < l.length + m.length)) := by
  unfold laws_big.f
  by_cases c : (l.length : Int) > 1048576
  · rw [if_pos c]
    simp; omega
  · rw [if_neg c, w64 (n := 1048576 - (l.length : Int)) (by omega) (by omega)]
    simp; omega
theorem bytes_of {l : List Int} (h : l.length ≤ 1048576) (hx : ∀ x ∈ l, (Lit.int .u8 x).wf = true) : Bytes l := by
  refine ⟨h, fun x hxl => ?_⟩
  have := hx x hxl
  simp [Lit.wf, IntKind.min, IntKind.max, IntKind.signed, IntKind.bits] at this
  omega

/-- A number shifted: down, to the nearest one, towards 0. -/
def shM (x b mode : Int) : Int := if mode = 1 ∧ b ≤ 2 * (x % b) ∧ 0 < x % b then x / b + 1 else if mode = 2 ∧ x < 0 ∧ 0 < x % b then x / b + 1 else x / b
theorem div_uniq {x b q r : Int} (h : x = q * b + r) (h0 : 0 ≤ r) (h1 : r < b) : x / b = q := by
  have hb : 0 < b := by omega
  exact ((Int.ediv_emod_unique hb).2 ⟨by rw [h, Int.mul_comm]; omega, h0, h1⟩).1
theorem pow2_pos (s : Nat) : (0 : Int) < 2 ^ s := Int.pow_pos (by decide)
theorem pow2_le {s : Nat} (h : s ≤ 20) : (2 : Int) ^ s ≤ 1048576 := by
  have h1 : (2 : Nat) ^ s ≤ 2 ^ 20 := Nat.pow_le_pow_right (by decide) h
  have h3 : (2 : Int) ^ s = (((2 : Nat) ^ s : Nat) : Int) := by simp
  rw [h3]
  have h2 : (2 : Nat) ^ 20 = 1048576 := by decide
  omega
theorem shl_one {s : Nat} (h : s ≤ 20) : shl .i64 1 (s : Int) = 2 ^ s := by
  unfold shl
  have h1 : min ((s : Int)).toNat IntKind.i64.bits = s := by
    simp [IntKind.bits]; omega
  rw [h1, Int.one_mul, IntKind.wrap_i64]
  have := pow2_pos s
  have := pow2_le h
  omega
theorem shl_mul {s : Nat} (h : s ≤ 20) (y : Int) (h1 : -9223372036854775808 ≤ y * 2 ^ s) (h2 : y * 2 ^ s ≤ 9223372036854775807) : shl .i64 y (s : Int) = y * 2 ^ s := by
  unfold shl
  have e : min ((s : Int)).toNat IntKind.i64.bits = s := by
    simp [IntKind.bits]; omega
  rw [e, IntKind.wrap_i64]
  omega
theorem shr_div {s : Nat} (h : s ≤ 20) (y : Int) : shr .i64 y (s : Int) = y / 2 ^ s := by
  unfold shr
  have e : min ((s : Int)).toNat IntKind.i64.bits = s := by
    simp [IntKind.bits]; omega
  rw [e]
theorem mod_eq (x b : Int) : x = (x / b) * b + x % b := by
  have := Int.emod_add_mul_ediv x b
  rw [Int.mul_comm] at this
  omega

theorem impl_shifted_ev (x : Int) (s : Nat) (mode : Int) (hs : s ≤ 20) (hx : -4611686018427387904 ≤ x ∧ x ≤ 4611686018427387904) : Ev (fun k => impl_shifted.f k x (s : Int) mode) (shM x (2 ^ s) mode) := by
  have hb := pow2_pos s
  have hb2 := pow2_le hs
  have hr0 := Int.emod_nonneg x (show (2 : Int) ^ s ≠ 0 by omega)
  have hr1 := Int.emod_lt_of_pos x hb
  have hd := mod_eq x (2 ^ s)
  simp only [impl_shifted.f]
  by_cases c : mode = 1
  · refine Ev.tt c ?_
    by_cases d : (s : Int) > 0
    · obtain ⟨m, rfl⟩ : ∃ m, s = m + 1 := ⟨s - 1, by omega⟩
      have e1 : wrap64 (((m + 1 : Nat) : Int) - 1) = (m : Int) := by
        rw [w64 (n := ((m + 1 : Nat) : Int) - 1) (by omega) (by omega)]
        omega
      have hp : (2 : Int) ^ (m + 1) = 2 * 2 ^ m := by rw [Int.pow_succ]; omega
      have hpm := pow2_pos m
      have e2 : wrap64 (x + 2 ^ m) = x + 2 ^ m := w64 (by omega) (by omega)
      refine Ev.step (f := fun _ => some (shM x (2 ^ (m + 1)) mode)) (fun k => ?_) (Ev.now _)
      simp only [impl_shifted.j0, e1, shl_one (s := m) (by omega), e2, shr_div hs]
      rw [if_pos (by simp), if_pos (Int.natCast_nonneg _), if_pos (Int.natCast_nonneg _)]
      congr 1
      unfold shM
      by_cases g : (2 : Int) ^ (m + 1) ≤ 2 * (x % 2 ^ (m + 1)) ∧ 0 < x % 2 ^ (m + 1)
      · rw [if_pos ⟨c, g⟩]
        refine div_uniq (r := x % 2 ^ (m + 1) - 2 ^ m) ?_ (by omega) (by omega)
        rw [Int.add_mul]
        omega
      · rw [if_neg (fun h => g h.2), if_neg (fun h => by omega)]
        refine div_uniq (r := x % 2 ^ (m + 1) + 2 ^ m) (by omega) (by omega) (by omega)
    · have e : s = 0 := by omega
      subst e
      refine Ev.step (f := fun _ => some (shM x (2 ^ 0) mode)) (fun k => ?_) (Ev.now _)
      simp only [impl_shifted.j0, shr_div (s := 0) (by omega)]
      rw [if_neg (by simp), if_neg (by omega), if_pos (by omega)]
      congr 1
      unfold shM
      rw [if_neg (fun h => by have := h.2.2; simp at this), if_neg (fun h => by omega)]
  · refine Ev.ff c ?_
    refine Ev.step (f := fun _ => some (shM x (2 ^ s) mode)) (fun k => ?_) (Ev.now _)
    simp only [impl_shifted.j0, shr_div hs]
    rw [if_neg (by decide)]
    have hS : shM x (2 ^ s) mode = if mode = 2 ∧ x < 0 ∧ 0 < x % 2 ^ s then x / 2 ^ s + 1 else x / 2 ^ s := by
      unfold shM
      rw [if_neg (fun h => c h.1)]
    rw [hS]
    clear hS
    by_cases d : mode = 2
    · rw [if_pos d]
      by_cases g : x < 0
      · rw [if_pos g, if_pos (Int.natCast_nonneg _), w64 (n := -x) (by omega) (by omega)]
        by_cases r : 0 < x % 2 ^ s
        · rw [if_pos ⟨d, g, r⟩]
          have e : (-x) / 2 ^ s = -(x / 2 ^ s) - 1 := by
            refine div_uniq (r := 2 ^ s - x % 2 ^ s) ?_ (by omega) (by omega)
            rw [Int.sub_mul, Int.neg_mul]
            omega
          have hq : -4611686018427387905 ≤ x / 2 ^ s ∧ x / 2 ^ s ≤ 4611686018427387905 := ediv_bd hb hx
          rw [e, w64 (n := -(-(x / 2 ^ s) - 1)) (by omega) (by omega)]
          congr 1
          omega
        · rw [if_neg (fun h => r h.2.2)]
          have e : (-x) / 2 ^ s = -(x / 2 ^ s) := by
            refine div_uniq (r := 0) ?_ (by omega) (by omega)
            rw [Int.neg_mul]
            omega
          have hq : -4611686018427387905 ≤ x / 2 ^ s ∧ x / 2 ^ s ≤ 4611686018427387905 := ediv_bd hb hx
          rw [e, w64 (n := -(-(x / 2 ^ s))) (by omega) (by omega)]
          congr 1
          omega
      · rw [if_neg g, if_pos (Int.natCast_nonneg _), if_neg (fun h => g h.2.1)]
    · rw [if_neg d, if_pos (Int.natCast_nonneg _), if_neg (fun h => d h.1)]

theorem spec_wdShift_ev (x : Int) (s : Nat) (mode : Int) (hs : s ≤ 20) (hx : -4611686018427387904 ≤ x ∧ x ≤ 4611686018427387904) : Ev (fun k => spec_wdShift.f k x (s : Int) mode) (shM x (2 ^ s) mode) := by
  have hb := pow2_pos s
  have hb2 := pow2_le hs
  have hr0 := Int.emod_nonneg x (show (2 : Int) ^ s ≠ 0 by omega)
  have hr1 := Int.emod_lt_of_pos x hb
  have hd := mod_eq x (2 ^ s)
  have hq : -4611686018427387905 ≤ x / 2 ^ s ∧ x / 2 ^ s ≤ 4611686018427387905 := ediv_bd hb hx
  have key : ∀ d : Int, d = x / 2 ^ s → Ev (fun k => spec_wdShift.j0 k x mode (2 ^ s) d) (shM x (2 ^ s) mode) := by
    intro d e
    subst e
    have e1 : wrap64 (x / 2 ^ s * 2 ^ s) = x / 2 ^ s * 2 ^ s := w64 (by omega) (by omega)
    have e2 : wrap64 (x - x / 2 ^ s * 2 ^ s) = x % 2 ^ s := by
      rw [w64 (n := x - x / 2 ^ s * 2 ^ s) (by omega) (by omega)]
      omega
    have e3 : wrap64 (2 * (x % 2 ^ s)) = 2 * (x % 2 ^ s) := w64 (by omega) (by omega)
    have e4 : wrap64 (x / 2 ^ s + 1) = x / 2 ^ s + 1 := w64 (by omega) (by omega)
    have j1 : ∀ f : Bool, (f = true ↔ mode = 1 ∧ 2 ^ s ≤ 2 * (x % 2 ^ s) ∧ 0 < x % 2 ^ s) → Ev (fun k => spec_wdShift.j1 k x mode (x / 2 ^ s) (x % 2 ^ s) f) (shM x (2 ^ s) mode) := by
      intro f hf
      refine Ev.step (f := fun _ => some (shM x (2 ^ s) mode)) (fun k => ?_) (Ev.now _)
      simp only [spec_wdShift.j1, e4]
      unfold shM
      by_cases g : f = true
      · rw [if_pos g, if_pos (hf.1 g)]
      · rw [if_neg g, if_neg (fun h => g (hf.2 h))]
        by_cases m2 : mode = 2
        · rw [if_pos m2]
          by_cases x0 : x < 0
          · rw [if_pos x0]
            by_cases r0 : x % 2 ^ s > 0
            · rw [if_pos r0, if_pos ⟨m2, x0, r0⟩]
            · rw [if_neg r0, if_neg (fun h => r0 h.2.2)]
          · rw [if_neg x0, if_neg (fun h => x0 h.2.1)]
        · rw [if_neg m2, if_neg (fun h => m2 h.1)]
    by_cases m1 : mode = 1
    · by_cases g : 2 * (x % 2 ^ s) ≥ 2 ^ s
      · refine Ev.step (fun k => ?_) (j1 (decide (x % 2 ^ s > 0)) (by simp only [decide_eq_true_eq]; exact ⟨fun h => ⟨m1, g, h⟩, fun h => h.2.2⟩))
        simp only [spec_wdShift.j0, e1, e2, e3, if_pos m1, if_pos g]
      · refine Ev.step (fun k => ?_) (j1 false (by simp; intro _ h; omega))
        simp only [spec_wdShift.j0, e1, e2, e3, if_pos m1, if_neg g]
    · refine Ev.step (fun k => ?_) (j1 false (by simp; intro h; exact absurd h m1))
      simp only [spec_wdShift.j0, e1, e2, e3, if_neg m1]
  simp only [spec_wdShift.f, shl_one hs]
  refine Ev.tt (Int.natCast_nonneg _) (Ev.ff (by omega) ?_)
  by_cases g : Int.tmod x (2 ^ s) < 0
  · refine Ev.tt g (key _ ?_)
    have hx0 : x < 0 := by
      apply Int.not_le.1
      intro h
      have := Int.tmod_nonneg (2 ^ s) h
      omega
    have e := Int.tdiv_eq_ediv (a := x) (b := 2 ^ s)
    have e0 : ¬ (0 ≤ x ∨ (2 : Int) ^ s ∣ x) := by
      rintro (h | h)
      · omega
      · rw [Int.tmod_eq_zero_of_dvd h] at g
        omega
    rw [if_neg e0, Int.sign_eq_one_of_pos hb] at e
    rw [e, w64 (n := x / 2 ^ s + 1) (by omega) (by omega), w64 (n := x / 2 ^ s + 1 - 1) (by omega) (by omega)]
    omega
  · refine Ev.ff g (key _ ?_)
    have e := Int.tdiv_eq_ediv (a := x) (b := 2 ^ s)
    have e0 : 0 ≤ x ∨ (2 : Int) ^ s ∣ x := by
      by_cases h : 0 ≤ x
      · exact .inl h
      · right
        have h2 : Int.tmod x (2 ^ s) ≤ 0 := by
          have := Int.tmod_nonneg (2 ^ s) (show 0 ≤ -x by omega)
          rw [Int.neg_tmod] at this
          omega
        exact Int.dvd_of_tmod_eq_zero (by omega)
    rw [if_pos e0] at e
    rw [e, w64 (n := x / 2 ^ s + 0) (by omega) (by omega)]
    omega

def numOk (x : Int) : Bool := decide (-1000000000000 ≤ x) && decide (x ≤ 1000000000000)
def modeOk (s mode : Int) : Bool := (decide (0 ≤ s) && decide (s ≤ 20)) && (decide (0 ≤ mode) && decide (mode ≤ 2))
theorem numOk_iff {x : Int} : numOk x = true ↔ -1000000000000 ≤ x ∧ x ≤ 1000000000000 := by simp [numOk]
theorem modeOk_iff {s m : Int} : modeOk s m = true ↔ (0 ≤ s ∧ s ≤ 20) ∧ (0 ≤ m ∧ m ≤ 2) := by simp [modeOk]

theorem spec_wdMode_eq (s m : Int) : spec_wdMode.f s m = some (modeOk s m) := by
  unfold spec_wdMode.f modeOk
  rw [spec_l1In_eq]
  simp only [Option.bind_some, spec_l1In_eq]
  by_cases c : (decide (0 ≤ s) && decide (s ≤ 20)) = true
  · rw [if_pos c, c, Bool.true_and]
  · rw [if_neg c, Bool.eq_false_iff.mpr c, Bool.false_and]

theorem impl_at_eq (s : List Int) (i : Int) (hs : s.length ≤ 140737488351232) : impl_at.f s i = some (if 0 ≤ i then s.getD i.toNat 0 else 0) := by
  unfold impl_at.f
  rw [impl_in_eq, w64 (n := (s.length : Int) - 1) (by omega) (by omega)]
  simp only [Option.bind_some]
  by_cases c : 0 ≤ i
  · by_cases d : i ≤ (s.length : Int) - 1
    · rw [if_pos (by simp; omega), if_pos c, if_pos (by omega), if_pos c]
      rfl
    · rw [if_neg (by simp; omega), if_pos c, List.getD_eq_getElem?_getD, List.getElem?_eq_none (by omega)]
      rfl
  · rw [if_neg (by simp; omega), if_neg c]

theorem laws_iSame_l0 (l : List Int) (hl : l.length ≤ 140737488351232) : ∀ (t p : List Int), l = p ++ t → Ev (fun k => laws_iSame.l0 k l l (l.length : Int) (p.length : Int)) true
  | [], p, h => by
    refine Ev.step (f := fun _ => some true) (fun k => ?_) (Ev.now _)
    subst h
    simp [laws_iSame.l0]
  | x :: t, p, h => by
    have e1 : (p.length : Int) < (l.length : Int) := by rw [h]; exact lt_mid p t x
    have e3 : wrap64 ((p.length : Int) + 1) = ((p ++ [x]).length : Int) := nx_mid p t x (h ▸ hl)
    refine Ev.step (fun k => ?_) (laws_iSame_l0 l hl t (p ++ [x]) (by simp [h]))
    simp only [laws_iSame.l0, if_pos e1, if_pos (Int.natCast_nonneg _), e3]
    rw [if_pos trivial]
theorem laws_iSame_ev (l : List Int) (hl : l.length ≤ 140737488351232) : Ev (fun k => laws_iSame.f k l l) true := by
  simp only [laws_iSame.f]
  exact Ev.tt trivial (laws_iSame_l0 l hl l [] rfl)

theorem laws_iSize_eq (x : Int) (hx : -4611686018427387904 ≤ x) : laws_iSize.f x = some (x.natAbs : Int) := by
  unfold laws_iSize.f
  by_cases c : x < 0
  · rw [if_pos c, w64 (n := -x) (by omega) (by omega)]
    congr 1
    omega
  · rw [if_neg c]
    congr 1
    omega

theorem signal_l0 {l : List Int} (hl : Bytes l) (sz : Int) (hs : 1 ≤ sz ∧ sz ≤ 100000) : ∀ (n : Nat) (q : List Int) (a sd : Int), q.length + n ≤ 100000 → 0 ≤ a → a + 10 * n ≤ 100000000000 → ∃ s a' sd', Ev (fun k => spec_l1Cur_signal.l0 k sz q (n : Int) l a sd) (s, a', sd') ∧ s.length ≤ 100001 ∧ a ≤ a' ∧ a' ≤ a + 10 * n + 10
  | 0, q, a, sd, hq, h0, h1 => by
    obtain ⟨u, a1, sd1, e1, ha1, hb1, -⟩ := pick_ok hl a sd 16 h0 (by omega) (by omega)
    by_cases c : u = 0
    · obtain ⟨v, a2, sd2, e2, ha2, hb2, -⟩ := among_ok hl a1 sd1 [100000, (-100000), 100001, 4611686018427387904] (by omega) (by omega) (by simp) (by simp)
      refine ⟨q ++ [v], a2, sd2, Ev.step (f := fun _ => some (q ++ [v], a2, sd2)) (fun k => ?_) (Ev.now _), by simp; omega, by omega, by omega⟩
      simp only [spec_l1Cur_signal.l0, e1, e2, Option.bind_some, if_pos c]
      rw [if_neg (by omega), if_pos (by omega)]
    · by_cases d : u = 1
      · obtain ⟨v, a2, sd2, e2, ha2, hb2, hv, hv2⟩ := pick_ok hl a1 sd1 2 (by omega) (by omega) (by omega)
        have e3 : wrap64 (64 + v) = 64 + v := w64 (by omega) (by omega)
        refine ⟨List.replicate (64 + v).toNat 0, a2, sd2, Ev.step (f := fun _ => some (List.replicate (64 + v).toNat 0, a2, sd2)) (fun k => ?_) (Ev.now _), by simp; omega, by omega, by omega⟩
        simp only [spec_l1Cur_signal.l0, e1, e2, Option.bind_some, if_neg c, if_pos d, e3]
        rw [if_neg (by omega), if_pos (by omega), if_pos (by omega)]
      · refine ⟨q, a1, sd1, Ev.step (f := fun _ => some (q, a1, sd1)) (fun k => ?_) (Ev.now _), by omega, by omega, by omega⟩
        simp only [spec_l1Cur_signal.l0, e1, Option.bind_some, if_neg c, if_neg d]
        rw [if_neg (by omega)]
  | n + 1, q, a, sd, hq, h0, h1 => by
    obtain ⟨u, a1, sd1, e1, ha1, hb1, -⟩ := one_ok hl a sd 4 h0 (by omega) (by omega)
    have e3 : wrap64 (((n + 1 : Nat) : Int) - 1) = (n : Int) := by
      rw [w64 (n := ((n + 1 : Nat) : Int) - 1) (by omega) (by omega)]
      omega
    have hn : ((n + 1 : Nat) : Int) > 0 := by omega
    have hql : q.length < 17592186044416 := by omega
    by_cases c : u = true
    · obtain ⟨s, a', sd', h, hs1, ha, hb⟩ := signal_l0 hl sz hs n (q ++ [0]) a1 sd1 (by simp; omega) (by omega) (by omega)
      refine ⟨s, a', sd', Ev.step (fun k => ?_) h, hs1, by omega, by omega⟩
      simp only [spec_l1Cur_signal.l0, e1, Option.bind_some, if_pos c, if_pos hn, if_pos hql, e3]
    · have e4 : wrap64 (wrap64 (2 * sz) + 1) = 2 * sz + 1 := by
        rw [w64 (n := 2 * sz) (by omega) (by omega), w64 (n := 2 * sz + 1) (by omega) (by omega)]
      obtain ⟨v, a2, sd2, e2, ha2, hb2, -⟩ := pick_ok hl a1 sd1 (2 * sz + 1) (by omega) (by omega) (by omega)
      obtain ⟨s, a', sd', h, hs1, ha, hb⟩ := signal_l0 hl sz hs n (q ++ [wrap64 (v - sz)]) a2 sd2 (by simp; omega) (by omega) (by omega)
      refine ⟨s, a', sd', Ev.step (fun k => ?_) h, hs1, by omega, by omega⟩
      simp only [spec_l1Cur_signal.l0, e1, Option.bind_some, if_neg c, if_pos hn, e4, e2, if_pos hql, e3]
theorem signal_ok {l : List Int} (hl : Bytes l) (a sd most sz : Int) (h0 : 0 ≤ a) (h1 : a ≤ 1000000000) (hm : 0 ≤ most ∧ most ≤ 10000) (hs : 1 ≤ sz ∧ sz ≤ 100000) : ∃ s a' sd', Ev (fun k => spec_l1Cur_signal.f k l a sd most sz) (s, a', sd') ∧ s.length ≤ 100001 ∧ a ≤ a' ∧ a' ≤ a + 1000000 := by
  obtain ⟨u, a1, sd1, e1, ha1, hb1, hu, hu2⟩ := pick_ok hl a sd (most + 1) h0 (by omega) (by omega)
  obtain ⟨n, rfl⟩ : ∃ n : Nat, u = (n : Int) := ⟨u.toNat, by omega⟩
  obtain ⟨s, a', sd', h, hs1, ha, hb⟩ := signal_l0 hl sz hs n [] a1 sd1 (by simp; omega) (by omega) (by omega)
  refine ⟨s, a', sd', ?_, hs1, by omega, by omega⟩
  simp only [spec_l1Cur_signal.f]
  rw [w64 (n := most + 1) (by omega) (by omega)]
  exact Ev.dbind e1 h

def come (o x last before : Int) : Int := if o = 1 then x + last else if o = 2 then x + (2 * last - before) else x
def shp (b mode o : Int) : List Int → Int → Int → Int → List (Int × Int × Int)
  | [], _, _, _ => []
  | x :: t, last, before, su =>
    (shM (come o x last before) b mode, come o x last before - shM (come o x last before) b mode * b, su + (x - shM (come o x last before) b mode * b)) :: shp b mode o t (come o x last before - shM (come o x last before) b mode * b) last (su + (x - shM (come o x last before) b mode * b))
theorem shp_length (b mode o : Int) : ∀ (l : List Int) (la be su : Int), (shp b mode o l la be su).length = l.length
  | [], _, _, _ => rfl
  | x :: t, la, be, su => by simp [shp, shp_length b mode o t]
theorem shM_err (c b mode : Int) (hb : 0 < b) : -b < c - shM c b mode * b ∧ c - shM c b mode * b < b := by
  have h0 := Int.emod_nonneg c (show b ≠ 0 by omega)
  have h1 := Int.emod_lt_of_pos c hb
  have hd := mod_eq c b
  unfold shM
  split
  · rw [Int.add_mul]
    omega
  · split
    · rw [Int.add_mul]
      omega
    · omega
def shOk (s : List Int) (sh mode o : Int) : Bool := ((sig s && (decide (0 ≤ sh) && decide (sh ≤ 10))) && (decide (0 ≤ mode) && decide (mode ≤ 2))) && (decide (0 ≤ o) && decide (o ≤ 2))
theorem shOk_iff {s : List Int} {sh mode o : Int} : shOk s sh mode o = true ↔ sig s = true ∧ (0 ≤ sh ∧ sh ≤ 10) ∧ (0 ≤ mode ∧ mode ≤ 2) ∧ (0 ≤ o ∧ o ≤ 2) := by
  simp [shOk, and_assoc]
theorem pow10_le {s : Nat} (h : s ≤ 10) : (2 : Int) ^ s ≤ 1024 := by
  have h1 : (2 : Nat) ^ s ≤ 2 ^ 10 := Nat.pow_le_pow_right (by decide) h
  have h3 : (2 : Int) ^ s = (((2 : Nat) ^ s : Nat) : Int) := by simp
  have h2 : (2 : Nat) ^ 10 = 1024 := by decide
  omega
/-- what holds of the numbers carried from sample to sample -/
def Car (b o la be su : Int) (n : Nat) : Prop := (-b < la ∧ la < b) ∧ (-b < be ∧ be < b) ∧ (o = 1 → su = la) ∧ (o = 2 → su = la - be) ∧ (-(3000 + 1024 * n) ≤ su ∧ su ≤ 3000 + 1024 * n)
theorem car_step {b o la be su x mode : Int} {n : Nat} (hb : 0 < b ∧ b ≤ 1024) (ho : 0 ≤ o ∧ o ≤ 2) (h : Car b o la be su n) : Car b o (come o x la be - shM (come o x la be) b mode * b) la (su + (x - shM (come o x la be) b mode * b)) (n + 1) := by
  obtain ⟨h1, h2, h3, h4, h5⟩ := h
  have he := shM_err (come o x la be) b mode hb.1
  have hc : (o = 1 ∧ come o x la be = x + la) ∨ (o = 2 ∧ come o x la be = x + (2 * la - be)) ∨ (o = 0 ∧ come o x la be = x) := by
    unfold come
    by_cases c : o = 1
    · left; exact ⟨c, by rw [if_pos c]⟩
    · by_cases d : o = 2
      · right; left; exact ⟨d, by rw [if_neg c, if_pos d]⟩
      · right; right; exact ⟨by omega, by rw [if_neg c, if_neg d]⟩
  refine ⟨he, h1, fun c => ?_, fun c => ?_, ?_⟩
  · have := h3 c
    omega
  · have := h4 c
    omega
  · rcases hc with ⟨c, hc⟩ | ⟨c, hc⟩ | ⟨c, hc⟩
    · have := h3 c
      omega
    · have := h4 c
      omega
    · omega
theorem come_bd {b o la be su x : Int} {n : Nat} (hb : 0 < b ∧ b ≤ 1024) (h : Car b o la be su n) (hx : -100000 ≤ x ∧ x ≤ 100000) : -200000 ≤ come o x la be ∧ come o x la be ≤ 200000 := by
  obtain ⟨h1, h2, -⟩ := h
  unfold come
  repeat' split
  all_goals omega
theorem yb_bd {c b : Int} (mode : Int) (hb : 0 < b ∧ b ≤ 1024) (hc : -200000 ≤ c ∧ c ≤ 200000) : -300000 ≤ shM c b mode * b ∧ shM c b mode * b ≤ 300000 := by
  have := shM_err c b mode hb.1
  omega
theorem atM_last (E : List Int) (e : Int) (n : Nat) (h : E.length = n) : atM (E ++ [e]) ((n + 1 : Nat) - 1 : Int) = e := by
  have e1 : (((n + 1 : Nat) : Int) - 1) = (n : Int) := by omega
  rw [e1, atM, if_pos (by omega), Int.toNat_natCast, ← h, getD_mid]
theorem atM_prev (E : List Int) (e : Int) (n : Nat) (h : E.length = n) : atM (E ++ [e]) ((n + 1 : Nat) - 2 : Int) = atM E ((n : Int) - 1) := by
  have e1 : (((n + 1 : Nat) : Int) - 2) = (n : Int) - 1 := by omega
  rw [e1, atM, atM]
  by_cases c : 0 ≤ (n : Int) - 1
  · rw [if_pos c, if_pos c, List.getD_eq_getElem?_getD, List.getD_eq_getElem?_getD, List.getElem?_append_left (by omega)]
  · rw [if_neg c, if_neg c]

theorem impl_at_atM (s : List Int) (i : Int) (hs : s.length ≤ 140737488351232) : impl_at.f s i = some (atM s i) := impl_at_eq s i hs
theorem impl_shape_l0 (sh : Nat) (hsh : sh ≤ 10) (mode o : Int) (ho : 0 ≤ o ∧ o ≤ 2) (l : List Int) (hl : l.length ≤ 64) (hb : ∀ x ∈ l, -100000 ≤ x ∧ x ≤ 100000) : ∀ (t p Y E G : List Int) (la be su : Int), l = p ++ t → Y.length = p.length → E.length = p.length → G.length = p.length → la = atM E ((p.length : Int) - 1) → be = atM E ((p.length : Int) - 2) → Car (2 ^ sh) o la be su p.length →
    Ev (fun k => impl_shape.l0 k (sh : Int) mode o Y E G su l (l.length : Int) (p.length : Int)) (Y ++ (shp (2 ^ sh) mode o t la be su).map (·.1), E ++ (shp (2 ^ sh) mode o t la be su).map (·.2.1), G ++ (shp (2 ^ sh) mode o t la be su).map (·.2.2), true)
  | [], p, Y, E, G, la, be, su, h, hY, hE, hG, hla, hbe, hc => by
    refine Ev.to (Ev.step (f := fun _ => some (Y, E, G, true)) (fun k => ?_) (Ev.now _)) (by simp [shp])
    subst h
    simp [impl_shape.l0]
  | x :: t, p, Y, E, G, la, be, su, h, hY, hE, hG, hla, hbe, hc => by
    have e1 : (p.length : Int) < (l.length : Int) := by rw [h]; exact lt_mid p t x
    have e2 : rd l (p.length : Int) = x := by rw [h]; exact rd_mid p t x
    have e3 : wrap64 ((p.length : Int) + 1) = ((p ++ [x]).length : Int) := nx_mid p t x (by rw [← h]; omega)
    have hx := hb x (by rw [h]; simp)
    have hpl : p.length + 1 ≤ 64 := by rw [h] at hl; simp at hl; omega
    have hb2 := pow2_pos sh
    have hb3 := pow10_le hsh
    have hcb := come_bd ⟨hb2, hb3⟩ hc hx
    have hyb := yb_bd mode ⟨hb2, hb3⟩ hcb
    have hst := car_step (x := x) (mode := mode) ⟨hb2, hb3⟩ ho hc
    have hl2 : (p ++ [x]).length = p.length + 1 := by simp
    obtain ⟨c1, c2, c3, c4, c5⟩ := hc
    have next := impl_shape_l0 sh hsh mode o ho l hl hb t (p ++ [x]) (Y ++ [shM (come o x la be) (2 ^ sh) mode]) (E ++ [come o x la be - shM (come o x la be) (2 ^ sh) mode * 2 ^ sh]) (G ++ [su + (x - shM (come o x la be) (2 ^ sh) mode * 2 ^ sh)]) (come o x la be - shM (come o x la be) (2 ^ sh) mode * 2 ^ sh) la (su + (x - shM (come o x la be) (2 ^ sh) mode * 2 ^ sh)) (by simp [h]) (by simp [hY]) (by simp [hE]) (by simp [hG]) (by rw [hl2, atM_last E _ p.length hE]) (by rw [hl2, atM_prev E _ p.length hE, hla]) (by rw [hl2]; exact hst)
    have g1 : shl .i64 (shM (come o x la be) (2 ^ sh) mode) (sh : Int) = shM (come o x la be) (2 ^ sh) mode * 2 ^ sh := shl_mul (by omega) _ (by omega) (by omega)
    have g2 : wrap64 (come o x la be - shM (come o x la be) (2 ^ sh) mode * 2 ^ sh) = come o x la be - shM (come o x la be) (2 ^ sh) mode * 2 ^ sh := w64 (by omega) (by omega)
    have g3 : wrap64 (x - shM (come o x la be) (2 ^ sh) mode * 2 ^ sh) = x - shM (come o x la be) (2 ^ sh) mode * 2 ^ sh := w64 (by omega) (by omega)
    have g4 : wrap64 (su + (x - shM (come o x la be) (2 ^ sh) mode * 2 ^ sh)) = su + (x - shM (come o x la be) (2 ^ sh) mode * 2 ^ sh) := w64 (by omega) (by omega)
    have rest : Ev (fun k => impl_shape.j2 k (sh : Int) mode o Y E G su x (come o x la be) l (l.length : Int) (p.length : Int)) (Y ++ (shp (2 ^ sh) mode o (x :: t) la be su).map (·.1), E ++ (shp (2 ^ sh) mode o (x :: t) la be su).map (·.2.1), G ++ (shp (2 ^ sh) mode o (x :: t) la be su).map (·.2.2), true) := by
      refine Ev.step (fun k => by simp only [impl_shape.j2]; rfl) ?_
      refine Ev.bind (impl_shifted_ev (come o x la be) sh mode (by omega) (by omega)) (Ev.tt (Int.natCast_nonneg _) (Ev.dbind rfl ?_))
      rw [g1, g2, g3, g4, e3]
      refine Ev.tt (by simp; omega) (Ev.dbind rfl (Ev.tt (by simp; omega) (Ev.dbind rfl (Ev.tt (by simp; omega) ?_))))
      refine Ev.to next ?_
      simp [shp]
    have a1 : wrap64 ((p.length : Int) - 1) = (p.length : Int) - 1 := w64 (by omega) (by omega)
    have a2 : wrap64 ((p.length : Int) - 2) = (p.length : Int) - 2 := w64 (by omega) (by omega)
    have a3 := impl_at_atM E ((p.length : Int) - 1) (by omega)
    have a4 := impl_at_atM E ((p.length : Int) - 2) (by omega)
    rw [← hla] at a3
    rw [← hbe] at a4
    refine Ev.step (fun k => by simp only [impl_shape.l0]; rfl) ?_
    rw [e2, a1, a2]
    refine Ev.tt e1 (Ev.tt (Int.natCast_nonneg _) (Ev.tt e1 ?_))
    by_cases o1 : o = 1
    · have ec : wrap64 (x + la) = come o x la be := by rw [w64 (n := x + la) (by omega) (by omega), come, if_pos o1]
      refine Ev.tt o1 (Ev.dbind a3 ?_)
      rw [ec]
      exact rest
    · by_cases o2 : o = 2
      · have ec : wrap64 (x + wrap64 (wrap64 (2 * la) - be)) = come o x la be := by
          rw [w64 (n := 2 * la) (by omega) (by omega), w64 (n := 2 * la - be) (by omega) (by omega), w64 (n := x + (2 * la - be)) (by omega) (by omega), come, if_neg o1, if_pos o2]
        refine Ev.ff o1 (Ev.tt o2 (Ev.dbind a3 (Ev.dbind a4 ?_)))
        rw [ec]
        exact rest
      · have ec : x = come o x la be := by rw [come, if_neg o1, if_neg o2]
        refine Ev.ff o1 (Ev.ff o2 ?_)
        rw [← ec] at rest
        exact rest
def shapeM (s : List Int) (sh mode o : Int) : List Int × List Int × List Int × Bool := if shOk s sh mode o = true then ((shp (2 ^ sh.toNat) mode o s 0 0 0).map (·.1), (shp (2 ^ sh.toNat) mode o s 0 0 0).map (·.2.1), (shp (2 ^ sh.toNat) mode o s 0 0 0).map (·.2.2), true) else ([], [], [], false)
theorem car_zero (sh : Nat) (o : Int) : Car (2 ^ sh) o 0 0 0 0 := by
  have := pow2_pos sh
  exact ⟨by omega, by omega, fun _ => rfl, fun _ => rfl, by omega, by omega⟩
theorem impl_shape_ev (s : List Int) (sh mode o : Int) (hs : s.length ≤ 1000000) : Ev (fun k => impl_shape.f k s sh mode o) (shapeM s sh mode o) := by
  have fail : Ev (fun k => impl_shape.j0 k s sh mode o true) (([] : List Int), ([] : List Int), ([] : List Int), false) := Ev.step (f := fun _ => some ([], [], [], false)) (fun k => by simp [impl_shape.j0]) (Ev.now _)
  simp only [impl_shape.f, shapeM]
  refine Ev.bind (impl_isSignal_ev s (by omega)) ?_
  by_cases a : sig s = true
  · refine Ev.tt a ?_
    simp only [impl_isScale.f, impl_in_eq, Option.bind_some]
    by_cases b : (decide (0 ≤ sh) && decide (sh ≤ 10)) = true
    · rw [if_pos b]
      simp only [Option.bind_some]
      by_cases c : (decide (0 ≤ mode) && decide (mode ≤ 2)) = true
      · refine Ev.tt c ?_
        by_cases d : (decide (0 ≤ o) && decide (o ≤ 2)) = true
        · have b' : 0 ≤ sh ∧ sh ≤ 10 := by simpa using b
          have d' : 0 ≤ o ∧ o ≤ 2 := by simpa using d
          obtain ⟨n, rfl⟩ : ∃ n : Nat, sh = (n : Int) := ⟨sh.toNat, by omega⟩
          have ok : shOk s (n : Int) mode o = true := by rw [shOk, a, b, c, d]; rfl
          rw [if_pos ok, d, Int.toNat_natCast]
          refine Ev.step (fun k => by simp only [impl_shape.j0]; rfl) ?_
          refine Ev.ff (by decide) ?_
          have := impl_shape_l0 n (by omega) mode o d' s (sig_len a) (sig_mem a) s [] [] [] [] 0 0 0 rfl rfl rfl rfl (by simp [atM]) (by simp [atM]) (car_zero n o)
          simpa using this
        · rw [Bool.eq_false_iff.mpr d, if_neg (fun h => d (by have := (shOk_iff.1 h).2.2.2; simpa using this))]
          exact fail
      · rw [if_neg (fun h => c (by have := (shOk_iff.1 h).2.2.1; simpa using this))]
        exact Ev.ff c fail
    · rw [if_neg b, if_neg (fun h => b (by have := (shOk_iff.1 h).2.1; simpa using this))]
      simp only [Option.bind_some]
      exact Ev.ff (by decide) fail
  · rw [if_neg (fun h => a (shOk_iff.1 h).1)]
    exact Ev.ff a fail

theorem spec_dmShaped_ev (s : List Int) (sh mode o : Int) (hs : s.length ≤ 1000000) : Ev (fun k => spec_dmShaped.f k s sh mode o) (shOk s sh mode o) := by
  simp only [spec_dmShaped.f]
  refine Ev.bind (spec_wdSignal_ev s (by omega)) ?_
  by_cases a : sig s = true
  · refine Ev.tt a (Ev.dbind (spec_l1In_eq _ _ _) ?_)
    by_cases b : (decide (0 ≤ sh) && decide (sh ≤ 10)) = true
    · have b' : 0 ≤ sh ∧ sh ≤ 10 := by simpa using b
      refine Ev.tt b (Ev.dbind (spec_wdMode_eq _ _) ?_)
      by_cases c : (decide (0 ≤ mode) && decide (mode ≤ 2)) = true
      · have c' : 0 ≤ mode ∧ mode ≤ 2 := by simpa using c
        refine Ev.tt (modeOk_iff.2 ⟨by omega, c'⟩) (Ev.dbind (spec_l1In_eq _ _ _) (Ev.to (Ev.now _) ?_))
        rw [shOk, a, b, c]
        rfl
      · refine Ev.ff (fun h => c (by have := (modeOk_iff.1 h).2; simpa using this)) (Ev.to (Ev.now _) ?_)
        rw [shOk, Bool.eq_false_iff.mpr c]
        simp
    · refine Ev.ff b (Ev.to (Ev.now _) ?_)
      rw [shOk, Bool.eq_false_iff.mpr b]
      simp
  · refine Ev.ff a (Ev.to (Ev.now _) ?_)
    rw [shOk, Bool.eq_false_iff.mpr a]
    simp

theorem spec_dmShape_l0 (sh : Nat) (hsh : sh ≤ 10) (mode o : Int) (ho : 0 ≤ o ∧ o ≤ 2) (l : List Int) (hl : l.length ≤ 64) (hb : ∀ x ∈ l, -100000 ≤ x ∧ x ≤ 100000) : ∀ (t p Y E : List Int) (la be su : Int), l = p ++ t → Y.length = p.length → E.length = p.length → Car (2 ^ sh) o la be su p.length →
    Ev (fun k => spec_dmShape.l0 k (sh : Int) mode o Y E la be l (l.length : Int) (p.length : Int)) (Y ++ (shp (2 ^ sh) mode o t la be su).map (·.1), E ++ (shp (2 ^ sh) mode o t la be su).map (·.2.1))
  | [], p, Y, E, la, be, su, h, hY, hE, hc => by
    refine Ev.to (Ev.step (f := fun _ => some (Y, E)) (fun k => ?_) (Ev.now _)) (by simp [shp])
    subst h
    simp [spec_dmShape.l0]
  | x :: t, p, Y, E, la, be, su, h, hY, hE, hc => by
    have e1 : (p.length : Int) < (l.length : Int) := by rw [h]; exact lt_mid p t x
    have e2 : rd l (p.length : Int) = x := by rw [h]; exact rd_mid p t x
    have e3 : wrap64 ((p.length : Int) + 1) = ((p ++ [x]).length : Int) := nx_mid p t x (by rw [← h]; omega)
    have hx := hb x (by rw [h]; simp)
    have hpl : p.length + 1 ≤ 64 := by rw [h] at hl; simp at hl; omega
    have hb2 := pow2_pos sh
    have hb3 := pow10_le hsh
    have hcb := come_bd ⟨hb2, hb3⟩ hc hx
    have hyb := yb_bd mode ⟨hb2, hb3⟩ hcb
    have hst := car_step (x := x) (mode := mode) ⟨hb2, hb3⟩ ho hc
    have hl2 : (p ++ [x]).length = p.length + 1 := by simp
    obtain ⟨c1, c2, c3, c4, c5⟩ := hc
    have next := spec_dmShape_l0 sh hsh mode o ho l hl hb t (p ++ [x]) (Y ++ [shM (come o x la be) (2 ^ sh) mode]) (E ++ [come o x la be - shM (come o x la be) (2 ^ sh) mode * 2 ^ sh]) (come o x la be - shM (come o x la be) (2 ^ sh) mode * 2 ^ sh) la (su + (x - shM (come o x la be) (2 ^ sh) mode * 2 ^ sh)) (by simp [h]) (by simp [hY]) (by simp [hE]) (by rw [hl2]; exact hst)
    have g1 : shl .i64 (shM (come o x la be) (2 ^ sh) mode) (sh : Int) = shM (come o x la be) (2 ^ sh) mode * 2 ^ sh := shl_mul (by omega) _ (by omega) (by omega)
    have g2 : wrap64 (come o x la be - shM (come o x la be) (2 ^ sh) mode * 2 ^ sh) = come o x la be - shM (come o x la be) (2 ^ sh) mode * 2 ^ sh := w64 (by omega) (by omega)
    have hsv := spec_wdShift_ev (come o x la be) sh mode (by omega) (by omega)
    have nx2 : Ev (fun k => spec_dmShape.l0 k (sh : Int) mode o (Y ++ [shM (come o x la be) (2 ^ sh) mode]) (E ++ [come o x la be - shM (come o x la be) (2 ^ sh) mode * 2 ^ sh]) (come o x la be - shM (come o x la be) (2 ^ sh) mode * 2 ^ sh) la l (l.length : Int) ((p ++ [x]).length : Int)) (Y ++ (shp (2 ^ sh) mode o (x :: t) la be su).map (·.1), E ++ (shp (2 ^ sh) mode o (x :: t) la be su).map (·.2.1)) := by
      refine Ev.to next ?_
      simp [shp]
    have hYl : Y.length < 17592186044416 := by omega
    have hEl : E.length < 17592186044416 := by omega
    refine Ev.step (fun k => by simp only [spec_dmShape.l0]; rfl) ?_
    rw [e2, e3]
    refine Ev.tt e1 (Ev.tt (Int.natCast_nonneg _) (Ev.tt e1 ?_))
    by_cases o1 : o = 1
    · have ec : wrap64 (x + la) = come o x la be := by rw [w64 (n := x + la) (by omega) (by omega), come, if_pos o1]
      rw [ec]
      refine Ev.tt o1 (Ev.bind hsv ?_)
      rw [g1, g2]
      exact Ev.tt (Int.natCast_nonneg _) (Ev.tt hYl (Ev.tt hEl nx2))
    · by_cases o2 : o = 2
      · have ec : wrap64 (x + wrap64 (wrap64 (2 * la) - be)) = come o x la be := by
          rw [w64 (n := 2 * la) (by omega) (by omega), w64 (n := 2 * la - be) (by omega) (by omega), w64 (n := x + (2 * la - be)) (by omega) (by omega), come, if_neg o1, if_pos o2]
        rw [ec]
        refine Ev.ff o1 (Ev.tt o2 (Ev.bind hsv ?_))
        rw [g1, g2]
        exact Ev.tt (Int.natCast_nonneg _) (Ev.tt hYl (Ev.tt hEl nx2))
      · have ec : come o x la be = x := by rw [come, if_neg o1, if_neg o2]
        rw [ec] at hsv g1 g2 nx2
        refine Ev.ff o1 (Ev.ff o2 (Ev.bind hsv ?_))
        rw [g1, g2]
        exact Ev.tt (Int.natCast_nonneg _) (Ev.tt hYl (Ev.tt hEl nx2))
theorem spec_dmShape_ev (s : List Int) (sh : Nat) (mode o : Int) (ok : shOk s (sh : Int) mode o = true) : Ev (fun k => spec_dmShape.f k s (sh : Int) mode o) ((shp (2 ^ sh) mode o s 0 0 0).map (·.1), (shp (2 ^ sh) mode o s 0 0 0).map (·.2.1)) := by
  obtain ⟨a, b, c, d⟩ := shOk_iff.1 ok
  have h0 := pow2_pos sh
  have := spec_dmShape_l0 sh (by omega) mode o d s (sig_len a) (sig_mem a) s [] [] [] 0 0 0 rfl rfl rfl ⟨by omega, by omega, fun _ => rfl, fun _ => rfl, by omega, by omega⟩
  simpa [spec_dmShape.f] using this

def psum : List Int → Int → List Int
  | [], _ => []
  | x :: t, s => (s + x) :: psum t (s + x)
def glist (b mode o : Int) : List Int → Int → Int → List Int
  | [], _, _ => []
  | x :: t, la, be => (x - shM (come o x la be) b mode * b) :: glist b mode o t (come o x la be - shM (come o x la be) b mode * b) la
theorem psum_glist (b mode o : Int) : ∀ (l : List Int) (la be su : Int), psum (glist b mode o l la be) su = (shp b mode o l la be su).map (·.2.2)
  | [], _, _, _ => rfl
  | x :: t, la, be, su => by
    simp only [glist, psum, shp, List.map_cons]
    rw [psum_glist b mode o t]
theorem glist_length (b mode o : Int) : ∀ (l : List Int) (la be : Int), (glist b mode o l la be).length = l.length
  | [], _, _ => rfl
  | x :: t, la, be => by simp [glist, glist_length b mode o t]
theorem glist_bd (b mode o : Int) (hb : 0 < b ∧ b ≤ 1024) (ho : 0 ≤ o ∧ o ≤ 2) : ∀ (l : List Int) (la be su : Int) (n : Nat), (∀ x ∈ l, -100000 ≤ x ∧ x ≤ 100000) → Car b o la be su n → ∀ y ∈ glist b mode o l la be, -1000000 ≤ y ∧ y ≤ 1000000
  | [], _, _, _, _, _, _, y, h => by simp [glist] at h
  | x :: t, la, be, su, n, hl, hc, y, h => by
    have hx := hl x (by simp)
    have hcb := come_bd hb hc hx
    have hyb := yb_bd mode hb hcb
    simp only [glist, List.mem_cons] at h
    rcases h with rfl | h
    · omega
    · exact glist_bd b mode o hb ho t _ _ _ (n + 1) (fun z hz => hl z (by simp [hz])) (car_step hb ho hc) y h
theorem spec_wdSums_l0 (l : List Int) (hl : l.length ≤ 1000000) (hb : ∀ x ∈ l, -1000000 ≤ x ∧ x ≤ 1000000) : ∀ (t p q : List Int) (s : Int), l = p ++ t → q.length = p.length → -(1000000 * p.length) ≤ s → s ≤ 1000000 * p.length → Ev (fun k => spec_wdSums.l0 k q s l (l.length : Int) (p.length : Int)) (q ++ psum t s)
  | [], p, q, s, h, hq, h0, h1 => by
    refine Ev.to (Ev.step (f := fun _ => some q) (fun k => ?_) (Ev.now _)) (by simp [psum])
    subst h
    simp [spec_wdSums.l0]
  | x :: t, p, q, s, h, hq, h0, h1 => by
    have e1 : (p.length : Int) < (l.length : Int) := by rw [h]; exact lt_mid p t x
    have e2 : rd l (p.length : Int) = x := by rw [h]; exact rd_mid p t x
    have e3 : wrap64 ((p.length : Int) + 1) = ((p ++ [x]).length : Int) := nx_mid p t x (by rw [← h]; omega)
    have hx := hb x (by rw [h]; simp)
    have hpl : p.length + 1 ≤ 1000000 := by rw [h] at hl; simp at hl; omega
    have hl2 : ((p ++ [x]).length : Int) = (p.length : Int) + 1 := by simp
    have e4 : wrap64 (s + x) = s + x := w64 (by omega) (by omega)
    refine Ev.to (Ev.step (fun k => ?_) (spec_wdSums_l0 l hl hb t (p ++ [x]) (q ++ [s + x]) (s + x) (by simp [h]) (by simp [hq]) (by omega) (by omega))) (by simp [psum])
    simp only [spec_wdSums.l0, if_pos e1, if_pos (Int.natCast_nonneg _), e2, e3, e4]
    rw [if_pos (by omega)]
theorem spec_wdSums_ev (l : List Int) (hl : l.length ≤ 1000000) (hb : ∀ x ∈ l, -1000000 ≤ x ∧ x ≤ 1000000) : Ev (fun k => spec_wdSums.f k l) (psum l 0) := by
  have := spec_wdSums_l0 l hl hb l [] [] 0 rfl rfl (by simp) (by simp)
  simpa [spec_wdSums.f] using this
theorem spec_dmGaps_l0 (sh : Nat) (hsh : sh ≤ 10) (mode o : Int) (ho : 0 ≤ o ∧ o ≤ 2) (l Y : List Int) (hl : l.length ≤ 64) (hb : ∀ x ∈ l, -100000 ≤ x ∧ x ≤ 100000) (R : List Int) : ∀ (t p P q : List Int) (la be su : Int), l = p ++ t → Y = P ++ (shp (2 ^ sh) mode o t la be su).map (·.1) → P.length = p.length → q.length = p.length → Car (2 ^ sh) o la be su p.length →
    (Ev (fun k => (spec_wdSums.f k (q ++ glist (2 ^ sh) mode o t la be)).bind fun r => some r) R) → Ev (fun k => spec_dmGaps.l0 k (sh : Int) Y q l (l.length : Int) (p.length : Int)) R
  | [], p, P, q, la, be, su, h, hY, hP, hq, hc, hr => by
    refine Ev.step (fun k => ?_) hr
    subst h
    simp [spec_dmGaps.l0, glist]
  | x :: t, p, P, q, la, be, su, h, hY, hP, hq, hc, hr => by
    have e1 : (p.length : Int) < (l.length : Int) := by rw [h]; exact lt_mid p t x
    have e2 : rd l (p.length : Int) = x := by rw [h]; exact rd_mid p t x
    have e3 : wrap64 ((p.length : Int) + 1) = ((p ++ [x]).length : Int) := nx_mid p t x (by rw [← h]; omega)
    have hx := hb x (by rw [h]; simp)
    have hpl : p.length + 1 ≤ 64 := by rw [h] at hl; simp at hl; omega
    have hb2 := pow2_pos sh
    have hb3 := pow10_le hsh
    have hcb := come_bd ⟨hb2, hb3⟩ hc hx
    have hyb := yb_bd mode ⟨hb2, hb3⟩ hcb
    have hst := car_step (x := x) (mode := mode) ⟨hb2, hb3⟩ ho hc
    have hl2 : (p ++ [x]).length = p.length + 1 := by simp
    have eY : rd Y (p.length : Int) = shM (come o x la be) (2 ^ sh) mode := by rw [hY, ← hP]; simp only [shp, List.map_cons]; exact rd_mid _ _ _
    have eYl : (p.length : Int) < (Y.length : Int) := by rw [hY, ← hP]; simp [shp]; omega
    have g1 : shl .i64 (shM (come o x la be) (2 ^ sh) mode) (sh : Int) = shM (come o x la be) (2 ^ sh) mode * 2 ^ sh := shl_mul (by omega) _ (by omega) (by omega)
    have g3 : wrap64 (x - shM (come o x la be) (2 ^ sh) mode * 2 ^ sh) = x - shM (come o x la be) (2 ^ sh) mode * 2 ^ sh := w64 (by omega) (by omega)
    refine Ev.step (fun k => ?_) (spec_dmGaps_l0 sh hsh mode o ho l Y hl hb R t (p ++ [x]) (P ++ [shM (come o x la be) (2 ^ sh) mode]) (q ++ [x - shM (come o x la be) (2 ^ sh) mode * 2 ^ sh]) (come o x la be - shM (come o x la be) (2 ^ sh) mode * 2 ^ sh) la (su + (x - shM (come o x la be) (2 ^ sh) mode * 2 ^ sh)) (by simp [h]) (by rw [hY]; simp [shp]) (by simp [hP]) (by simp [hq]) (by rw [hl2]; exact hst) (by simpa [glist] using hr))
    simp only [spec_dmGaps.l0, if_pos e1, if_pos (Int.natCast_nonneg _), e2, e3, eY, if_pos eYl, g1, g3]
    rw [if_pos (by omega)]
theorem spec_dmGaps_ev (s : List Int) (sh : Nat) (mode o : Int) (ok : shOk s (sh : Int) mode o = true) : Ev (fun k => spec_dmGaps.f k s (sh : Int) mode o) ((shp (2 ^ sh) mode o s 0 0 0).map (·.2.2)) := by
  obtain ⟨a, b, c, d⟩ := shOk_iff.1 ok
  have h0 := pow2_pos sh
  have h3 := pow10_le (s := sh) (by omega)
  have hl := sig_len a
  have hc : Car (2 ^ sh) o 0 0 0 0 := ⟨by omega, by omega, fun _ => rfl, fun _ => rfl, by omega, by omega⟩
  simp only [spec_dmGaps.f]
  refine Ev.bind (spec_dmShape_ev s sh mode o ok) ?_
  have h1 := spec_wdSums_ev (glist (2 ^ sh) mode o s 0 0) (by rw [glist_length]; omega) (glist_bd (2 ^ sh) mode o ⟨h0, h3⟩ d s 0 0 0 0 (sig_mem a) hc)
  rw [psum_glist] at h1
  have := spec_dmGaps_l0 sh (by omega) mode o d s _ hl (sig_mem a) _ s [] [] [] 0 0 0 rfl (by simp; rfl) rfl rfl hc (by simpa using Ev.bind h1 (Ev.now _))
  simpa using this

theorem shapeM_yes {s : List Int} {sh mode o : Int} (ok : shOk s sh mode o = true) : shapeM s sh mode o = ((shp (2 ^ sh.toNat) mode o s 0 0 0).map (·.1), (shp (2 ^ sh.toNat) mode o s 0 0 0).map (·.2.1), (shp (2 ^ sh.toNat) mode o s 0 0 0).map (·.2.2), true) := by rw [shapeM, if_pos ok]
theorem shapeM_no {s : List Int} {sh mode o : Int} (ok : ¬ shOk s sh mode o = true) : shapeM s sh mode o = ([], [], [], false) := by rw [shapeM, if_neg ok]
theorem sh_nat {s : List Int} {sh mode o : Int} (ok : shOk s sh mode o = true) : ∃ n : Nat, sh = (n : Int) ∧ n ≤ 10 := by
  have := (shOk_iff.1 ok).2.1
  exact ⟨sh.toNat, by omega, by omega⟩
theorem impl_ShapeSignal_ev (s : List Int) (sh mode o : Int) (hs : s.length ≤ 1000000) : Ev (fun k => impl_ShapeSignal.f k s sh mode o) ((shapeM s sh mode o).1, (shapeM s sh mode o).2.2.2) := by
  simp only [impl_ShapeSignal.f]
  exact Ev.bind (impl_shape_ev s sh mode o hs) (Ev.now _)
theorem spec_ShapeSignal_ev (s : List Int) (sh mode o : Int) (hs : s.length ≤ 1000000) : Ev (fun k => spec_ShapeSignal.f k s sh mode o) ((shapeM s sh mode o).1, (shapeM s sh mode o).2.2.2) := by
  simp only [spec_ShapeSignal.f]
  refine Ev.bind (spec_dmShaped_ev s sh mode o hs) ?_
  by_cases ok : shOk s sh mode o = true
  · obtain ⟨n, rfl, hn⟩ := sh_nat ok
    rw [shapeM_yes ok, Int.toNat_natCast]
    exact Ev.tt ok (Ev.bind (spec_dmShape_ev s n mode o ok) (Ev.now _))
  · rw [shapeM_no ok]
    exact Ev.ff ok (Ev.now _)

theorem impl_ShapeErrors_ev (s : List Int) (sh mode o : Int) (hs : s.length ≤ 1000000) : Ev (fun k => impl_ShapeErrors.f k s sh mode o) ((shapeM s sh mode o).2.1, (shapeM s sh mode o).2.2.2) := by
  simp only [impl_ShapeErrors.f]
  exact Ev.bind (impl_shape_ev s sh mode o hs) (Ev.now _)
theorem spec_ShapeErrors_ev (s : List Int) (sh mode o : Int) (hs : s.length ≤ 1000000) : Ev (fun k => spec_ShapeErrors.f k s sh mode o) ((shapeM s sh mode o).2.1, (shapeM s sh mode o).2.2.2) := by
  simp only [spec_ShapeErrors.f]
  refine Ev.bind (spec_dmShaped_ev s sh mode o hs) ?_
  by_cases ok : shOk s sh mode o = true
  · obtain ⟨n, rfl, hn⟩ := sh_nat ok
    rw [shapeM_yes ok, Int.toNat_natCast]
    exact Ev.tt ok (Ev.bind (spec_dmShape_ev s n mode o ok) (Ev.now _))
  · rw [shapeM_no ok]
    exact Ev.ff ok (Ev.now _)

theorem impl_ShapedSums_ev (s : List Int) (sh mode o : Int) (hs : s.length ≤ 1000000) : Ev (fun k => impl_ShapedSums.f k s sh mode o) ((shapeM s sh mode o).2.2.1, (shapeM s sh mode o).2.2.2) := by
  simp only [impl_ShapedSums.f]
  exact Ev.bind (impl_shape_ev s sh mode o hs) (Ev.now _)
theorem spec_ShapedSums_ev (s : List Int) (sh mode o : Int) (hs : s.length ≤ 1000000) : Ev (fun k => spec_ShapedSums.f k s sh mode o) ((shapeM s sh mode o).2.2.1, (shapeM s sh mode o).2.2.2) := by
  simp only [spec_ShapedSums.f]
  refine Ev.bind (spec_dmShaped_ev s sh mode o hs) ?_
  by_cases ok : shOk s sh mode o = true
  · obtain ⟨n, rfl, hn⟩ := sh_nat ok
    rw [shapeM_yes ok, Int.toNat_natCast]
    exact Ev.tt ok (Ev.bind (spec_dmGaps_ev s n mode o ok) (Ev.now _))
  · rw [shapeM_no ok]
    exact Ev.ff ok (Ev.now _)

theorem shp_gaps (b mode o : Int) (hb : 0 < b ∧ b ≤ 1024) (ho : 0 ≤ o ∧ o ≤ 2) : ∀ (l : List Int) (la be su : Int) (n : Nat), Car b o la be su n → ∀ g ∈ (shp b mode o l la be su).map (·.2.2), (o = 1 → -b < g ∧ g < b) ∧ (o = 2 → -(2 * b) < g ∧ g < 2 * b) ∧ (-(3000 + 1024 * (n + l.length)) ≤ g ∧ g ≤ 3000 + 1024 * (n + l.length))
  | [], _, _, _, _, _, g, h => by simp [shp] at h
  | x :: t, la, be, su, n, hc, g, h => by
    have hst := car_step (x := x) (mode := mode) hb ho hc
    simp only [shp, List.map_cons, List.mem_cons] at h
    rcases h with rfl | h
    · obtain ⟨h1, h2, h3, h4, h5⟩ := hst
      refine ⟨fun c => ?_, fun c => ?_, ?_⟩
      · have := h3 c
        omega
      · have := h4 c
        omega
      · simp only [List.length_cons]
        omega
    · have := shp_gaps b mode o hb ho t _ _ _ (n + 1) hst g h
      simp only [List.length_cons]
      omega
theorem shape_gaps_bd {s : List Int} {sh mode o : Int} : ∀ g ∈ (shapeM s sh mode o).2.2.1, -1000000000000000000 ≤ g ∧ g ≤ 1000000000000000000 := by
  intro g hg
  by_cases ok : shOk s sh mode o = true
  · obtain ⟨n, rfl, hn⟩ := sh_nat ok
    obtain ⟨a, b, c, d⟩ := shOk_iff.1 ok
    rw [shapeM_yes ok, Int.toNat_natCast] at hg
    have := shp_gaps (2 ^ n) mode o ⟨pow2_pos n, pow10_le hn⟩ d s 0 0 0 0 (car_zero n o) g hg
    have := sig_len a
    omega
  · rw [shapeM_no ok] at hg
    simp at hg
theorem shape_len (s : List Int) (sh mode o : Int) (hs : s.length ≤ 1000000) : (shapeM s sh mode o).1.length ≤ 1000000 ∧ (shapeM s sh mode o).2.1.length ≤ 1000000 ∧ (shapeM s sh mode o).2.2.1.length ≤ 1000000 := by
  unfold shapeM
  split
  · simp [shp_length, hs]
  · simp
theorem impl_GreatestShapeGap_ev (s : List Int) (sh mode o : Int) (hs : s.length ≤ 1000000) : Ev (fun k => impl_GreatestShapeGap.f k s sh mode o) (((peakM (shapeM s sh mode o).2.2.1 0 : Nat) : Int), (shapeM s sh mode o).2.2.2) := by
  simp only [impl_GreatestShapeGap.f]
  have h := shape_len s sh mode o hs
  exact Ev.bind (impl_shape_ev s sh mode o hs) (Ev.bind (impl_peak_ev _ (by omega) shape_gaps_bd) (Ev.now _))
theorem spec_GreatestShapeGap_ev (s : List Int) (sh mode o : Int) (hs : s.length ≤ 1000000) : Ev (fun k => spec_GreatestShapeGap.f k s sh mode o) (((peakM (shapeM s sh mode o).2.2.1 0 : Nat) : Int), (shapeM s sh mode o).2.2.2) := by
  simp only [spec_GreatestShapeGap.f]
  refine Ev.bind (spec_dmShaped_ev s sh mode o hs) ?_
  have hb := shape_gaps_bd (s := s) (sh := sh) (mode := mode) (o := o)
  have hlen := shape_len s sh mode o hs
  by_cases ok : shOk s sh mode o = true
  · obtain ⟨n, rfl, hn⟩ := sh_nat ok
    rw [shapeM_yes ok, Int.toNat_natCast] at hb hlen ⊢
    exact Ev.tt ok (Ev.bind (spec_dmGaps_ev s n mode o ok) (Ev.bind (spec_wdPeak_ev _ (by rw [List.length_map, shp_length]; omega) hb) (Ev.now _)))
  · rw [shapeM_no ok]
    exact Ev.ff ok (Ev.now _)

theorem shaped_ok {l : List Int} (hl : Bytes l) : ∃ s sh mode o, Ev (fun k => spec_DrawShapeSignal.f k l) (s, sh, mode, o) ∧ s.length ≤ 100001 := by
  obtain ⟨v, a1, sd1, e1, ha1, hb1, -⟩ := one_ok hl 0 0 12 (by omega) (by omega) (by omega)
  simp only [spec_DrawShapeSignal.f, spec_l1Cur_shaped.f, e1, Option.bind_some]
  by_cases c : v = true
  · obtain ⟨s, a2, sd2, h2, hs2, ha2, hb2⟩ := signal_ok hl a1 sd1 6 30 (by omega) (by omega) (by omega) (by omega)
    obtain ⟨z, a3, sd3, e3, ha3, hb3, -⟩ := among_ok hl a2 sd2 [(-1), 0, 10, 11] (by omega) (by omega) (by simp) (by simp)
    obtain ⟨y, a4, sd4, e4, ha4, hb4, -⟩ := mode_ok hl a3 sd3 (by omega) (by omega)
    obtain ⟨x, a5, sd5, e5, ha5, hb5, -⟩ := pick_ok hl a4 sd4 3 (by omega) (by omega) (by omega)
    exact ⟨s, z, y, x, Ev.bind (a := (s, z, y, x, a5, sd5)) (Ev.tt c (Ev.bind h2 (Ev.dbind e3 (Ev.dbind e4 (Ev.dbind e5 (Ev.now _)))))) (Ev.now _), hs2⟩
  · obtain ⟨s, a2, sd2, h2, hs2, ha2, hb2⟩ := signal_ok hl a1 sd1 14 60 (by omega) (by omega) (by omega) (by omega)
    obtain ⟨z, a3, sd3, e3, ha3, hb3, -⟩ := pick_ok hl a2 sd2 5 (by omega) (by omega) (by omega)
    obtain ⟨y, a4, sd4, e4, ha4, hb4, -⟩ := mode_ok hl a3 sd3 (by omega) (by omega)
    obtain ⟨x, a5, sd5, e5, ha5, hb5, -⟩ := pick_ok hl a4 sd4 4 (by omega) (by omega) (by omega)
    obtain ⟨u, a6, sd6, e6, ha6, hb6, -⟩ := pick_ok hl a5 sd5 9 (by omega) (by omega) (by omega)
    exact ⟨s, z, y, wrap64 (x - wrap64 (Int.tdiv u 8)), Ev.bind (a := (s, z, y, wrap64 (x - wrap64 (Int.tdiv u 8)), a6, sd6)) (Ev.ff c (Ev.bind h2 (Ev.dbind e3 (Ev.dbind e4 (Ev.dbind e5 (Ev.dbind e6 (Ev.now _))))))) (Ev.now _), hs2⟩

theorem peakM_le : ∀ (l : List Int) (m M : Nat), m ≤ M → (∀ x ∈ l, x.natAbs ≤ M) → peakM l m ≤ M
  | [], m, M, h, _ => h
  | x :: t, m, M, h, hl => by
    rw [peakM]
    have := hl x (by simp)
    exact peakM_le t _ M (by omega) (fun y hy => hl y (by simp [hy]))
theorem law_shape (n : Nat) (hn : n ≤ 10) (mode o : Int) (ho : 0 ≤ o ∧ o ≤ 2) (l Y E G : List Int) (hl : l.length ≤ 64) (hb : ∀ x ∈ l, -100000 ≤ x ∧ x ≤ 100000) (most : Nat) (hm1 : o = 1 → (most : Int) < 2 ^ n) (hm2 : o = 2 → (most : Int) < 2 * 2 ^ n) :
    ∀ (t p P1 P2 P3 : List Int) (la be su : Int) (gr : Nat), l = p ++ t → Y = P1 ++ (shp (2 ^ n) mode o t la be su).map (·.1) → E = P2 ++ (shp (2 ^ n) mode o t la be su).map (·.2.1) → G = P3 ++ (shp (2 ^ n) mode o t la be su).map (·.2.2) → P1.length = p.length → P2.length = p.length → P3.length = p.length → Car (2 ^ n) o la be su p.length → most = peakM ((shp (2 ^ n) mode o t la be su).map (·.2.2)) gr →
    Ev (fun k => laws_FnErrorsShaped.l0 k o Y E G (most : Int) (2 ^ n) (gr : Int) la be su l (l.length : Int) (p.length : Int)) true
  | [], p, P1, P2, P3, la, be, su, gr, h, hY, hE, hG, hp1, hp2, hp3, hc, hm => by
    have e : l = p := by simpa using h
    have em : (gr : Int) = (most : Int) := by rw [hm]; rfl
    have hb2 := pow2_pos n
    have hb3 := pow10_le hn
    refine Ev.step (fun k => by simp only [laws_FnErrorsShaped.l0]; rfl) ?_
    rw [w64 (n := 2 * (2 : Int) ^ n) (by omega) (by omega)]
    refine Ev.ff (by rw [e]; omega) (Ev.tt em ?_)
    by_cases o1 : o = 1
    · have := hm1 o1
      exact Ev.tt o1 (Ev.ff (by omega) (Ev.ff (by omega) (Ev.now _)))
    · refine Ev.ff o1 ?_
      by_cases o2 : o = 2
      · have := hm2 o2
        exact Ev.tt o2 (Ev.ff (by omega) (Ev.now _))
      · exact Ev.ff o2 (Ev.now _)
  | x :: t, p, P1, P2, P3, la, be, su, gr, h, hY, hE, hG, hp1, hp2, hp3, hc, hm => by
    have e1 : (p.length : Int) < (l.length : Int) := by rw [h]; exact lt_mid p t x
    have e2 : rd l (p.length : Int) = x := by rw [h]; exact rd_mid p t x
    have e3 : wrap64 ((p.length : Int) + 1) = ((p ++ [x]).length : Int) := nx_mid p t x (by rw [← h]; omega)
    have hx := hb x (by rw [h]; simp)
    have hpl : p.length + 1 ≤ 64 := by rw [h] at hl; simp at hl; omega
    have hb2 := pow2_pos n
    have hb3 := pow10_le hn
    have hcb := come_bd ⟨hb2, hb3⟩ hc hx
    have hyb := yb_bd mode ⟨hb2, hb3⟩ hcb
    have hst := car_step (x := x) (mode := mode) ⟨hb2, hb3⟩ ho hc
    have hl2 : (p ++ [x]).length = p.length + 1 := by simp
    have eYl : (p.length : Int) < (Y.length : Int) := by rw [hY, ← hp1]; simp [shp]; omega
    have eEl : (p.length : Int) < (E.length : Int) := by rw [hE, ← hp2]; simp [shp]; omega
    have eGl : (p.length : Int) < (G.length : Int) := by rw [hG, ← hp3]; simp [shp]; omega
    have eY : rd Y (p.length : Int) = shM (come o x la be) (2 ^ n) mode := by rw [hY, ← hp1]; simp only [shp, List.map_cons]; exact rd_mid _ _ _
    have eE : rd E (p.length : Int) = come o x la be - shM (come o x la be) (2 ^ n) mode * 2 ^ n := by rw [hE, ← hp2]; simp only [shp, List.map_cons]; exact rd_mid _ _ _
    have eG : rd G (p.length : Int) = su + (x - shM (come o x la be) (2 ^ n) mode * 2 ^ n) := by rw [hG, ← hp3]; simp only [shp, List.map_cons]; exact rd_mid _ _ _
    have next := law_shape n hn mode o ho l Y E G hl hb most hm1 hm2 t (p ++ [x]) (P1 ++ [shM (come o x la be) (2 ^ n) mode]) (P2 ++ [come o x la be - shM (come o x la be) (2 ^ n) mode * 2 ^ n]) (P3 ++ [su + (x - shM (come o x la be) (2 ^ n) mode * 2 ^ n)]) (come o x la be - shM (come o x la be) (2 ^ n) mode * 2 ^ n) la (su + (x - shM (come o x la be) (2 ^ n) mode * 2 ^ n)) (max gr (su + (x - shM (come o x la be) (2 ^ n) mode * 2 ^ n)).natAbs) (by simp [h]) (by rw [hY]; simp [shp]) (by rw [hE]; simp [shp]) (by rw [hG]; simp [shp]) (by simp [hp1]) (by simp [hp2]) (by simp [hp3]) (by rw [hl2]; exact hst) (by rw [hm]; rfl)
    clear hY hE hG hm hm1 hm2
    obtain ⟨c1, c2, c3, c4, c5⟩ := hc
    obtain ⟨d1, d2, d3, d4, d5⟩ := hst
    rw [← e3] at next
    have ecome : ∀ g : Int → Nat → Option Bool, Ev (fun k => g (come o x la be) k) true → Ev (fun k => if o = 1 then g (wrap64 (x + la)) k else (if o = 2 then g (wrap64 (x + wrap64 (wrap64 (2 * la) - be))) k else g x k)) true := by
      intro g hg
      by_cases o1 : o = 1
      · have ec : wrap64 (x + la) = come o x la be := by rw [w64 (n := x + la) (by omega) (by omega), come, if_pos o1]
        rw [ec]
        exact Ev.tt o1 hg
      · by_cases o2 : o = 2
        · have ec : wrap64 (x + wrap64 (wrap64 (2 * la) - be)) = come o x la be := by
            rw [w64 (n := 2 * la) (by omega) (by omega), w64 (n := 2 * la - be) (by omega) (by omega), w64 (n := x + (2 * la - be)) (by omega) (by omega), come, if_neg o1, if_pos o2]
          rw [ec]
          exact Ev.ff o1 (Ev.tt o2 hg)
        · have ec : come o x la be = x := by rw [come, if_neg o1, if_neg o2]
          rw [ec] at hg
          exact Ev.ff o1 (Ev.ff o2 hg)
    generalize hC : come o x la be = c at *
    generalize hyy : shM c (2 ^ n) mode * 2 ^ n = yb at *
    have f1 : wrap64 (shM c (2 ^ n) mode * 2 ^ n) = yb := by rw [hyy]; exact w64 (by omega) (by omega)
    have f2 : wrap64 (c - yb) = c - yb := w64 (by omega) (by omega)
    have f3 : wrap64 (x - yb) = x - yb := w64 (by omega) (by omega)
    have f4 : wrap64 (su + (x - yb)) = su + (x - yb) := w64 (by omega) (by omega)
    have s1 := laws_iSize_eq (c - yb) (by omega)
    have s2 := laws_iSize_eq (su + (x - yb)) (by omega)
    have j5 : Ev (fun k => laws_FnErrorsShaped.j5 k o Y E G (most : Int) (2 ^ n) (gr : Int) la (su + (x - yb)) (p.length : Int) l (l.length : Int) (p.length : Int) false) true := by
      refine Ev.step (fun k => by simp only [laws_FnErrorsShaped.j5]; rfl) ?_
      rw [eE]
      refine Ev.ff (by decide) (Ev.tt (Int.natCast_nonneg _) (Ev.tt eEl (Ev.dbind s2 ?_)))
      by_cases g : ((su + (x - yb)).natAbs : Int) > (gr : Int)
      · rw [Nat.max_eq_right (by omega)] at next
        exact Ev.tt g (Ev.dbind s2 next)
      · rw [Nat.max_eq_left (by omega)] at next
        exact Ev.ff g next
    have j4 : ∀ due : Int, su + (x - yb) = due → Ev (fun k => laws_FnErrorsShaped.j4 k o Y E G (most : Int) (2 ^ n) (gr : Int) la (su + (x - yb)) (p.length : Int) due l (l.length : Int) (p.length : Int)) true := by
      intro due hdue
      refine Ev.step (fun k => by simp only [laws_FnErrorsShaped.j4]; rfl) ?_
      rw [eG, ← hdue, bne_self_eq_false]
      exact Ev.tt (Int.natCast_nonneg _) (Ev.tt eGl (Ev.tt rfl j5))
    have j3 : Ev (fun k => laws_FnErrorsShaped.j3 k o Y E G (most : Int) (2 ^ n) (gr : Int) la su (p.length : Int) x l (l.length : Int) (p.length : Int) false) true := by
      refine Ev.step (fun k => by simp only [laws_FnErrorsShaped.j3]; rfl) ?_
      rw [eY, eE, f1, f3, f4]
      refine Ev.ff (by decide) (Ev.tt (Int.natCast_nonneg _) (Ev.tt eYl ?_))
      by_cases o1 : o = 1
      · exact Ev.tt o1 (Ev.tt eEl (j4 _ (d3 o1)))
      · by_cases o2 : o = 2
        · refine Ev.ff o1 (Ev.tt o2 (Ev.tt eEl (j4 _ ?_)))
          rw [w64 (n := c - yb - la) (by omega) (by omega)]
          exact d4 o2
        · exact Ev.ff o1 (Ev.ff o2 (j4 _ rfl))
    have j2 : Ev (fun k => laws_FnErrorsShaped.j2 k o Y E G (most : Int) (2 ^ n) (gr : Int) la su (p.length : Int) x c l (l.length : Int) (p.length : Int)) true := by
      refine Ev.step (fun k => by simp only [laws_FnErrorsShaped.j2]; rfl) ?_
      rw [eE, eY, f1, f2]
      refine Ev.tt (Int.natCast_nonneg _) (Ev.tt eEl (Ev.tt eYl (Ev.tt rfl (Ev.dbind s1 (Ev.ff (by omega) ?_)))))
      by_cases b1 : (2 : Int) ^ n = 1
      · have ez : (c - yb != 0) = false := by
          have : c - yb = 0 := by omega
          rw [this]
          rfl
        rw [ez]
        exact Ev.tt b1 j3
      · exact Ev.ff b1 j3
    refine Ev.step (fun k => by simp only [laws_FnErrorsShaped.l0]; rfl) ?_
    rw [e2]
    exact Ev.tt e1 (Ev.tt (Int.natCast_nonneg _) (Ev.tt e1 (ecome (fun v k => laws_FnErrorsShaped.j2 k o Y E G (most : Int) (2 ^ n) (gr : Int) la su (p.length : Int) x v l (l.length : Int) (p.length : Int)) j2)))
theorem FnErrorsShaped : laws_FnErrorsShaped.Pure := by
  intro l m h1 h2 h3 h4 h5 h6
  apply Ev.rounds
  simp only [laws_FnErrorsShaped.f]
  refine Ev.dbind (laws_big_eq l m (by omega) (by omega)) ?_
  by_cases big : 1048576 < l.length + m.length
  · exact Ev.tt (by simpa using big) (Ev.now _)
  refine Ev.ff (by simpa using big) ?_
  have hl : Bytes l := bytes_of (by omega) h3
  obtain ⟨s, sh, mode, o, hd, hs⟩ := shaped_ok hl
  have hs' : s.length ≤ 1000000 := by omega
  have hlen := shape_len s sh mode o hs'
  refine Ev.bind hd (Ev.bind (impl_ShapeSignal_ev s sh mode o hs') (Ev.bind (spec_ShapeSignal_ev s sh mode o hs') (Ev.bind (impl_ShapeErrors_ev s sh mode o hs') (Ev.bind (spec_ShapeErrors_ev s sh mode o hs') (Ev.bind (impl_ShapedSums_ev s sh mode o hs') (Ev.bind (spec_ShapedSums_ev s sh mode o hs') (Ev.bind (impl_GreatestShapeGap_ev s sh mode o hs') (Ev.bind (spec_GreatestShapeGap_ev s sh mode o hs') ?_))))))))
  dsimp only
  refine Ev.ff (by simp) (Ev.bind (laws_iSame_ev _ (by omega)) (Ev.tt rfl (Ev.ff (by simp) (Ev.bind (laws_iSame_ev _ (by omega)) (Ev.tt rfl (Ev.ff (by simp) (Ev.bind (laws_iSame_ev _ (by omega)) (Ev.tt rfl (Ev.ff (by simp) (Ev.tt rfl (Ev.ff (by simp) (Ev.ff (by simp) ?_))))))))))))
  refine Ev.step (fun k => by simp only [laws_FnErrorsShaped.j0]; rfl) ?_
  refine Ev.ff (by simp) ?_
  by_cases ok : shOk s sh mode o = true
  · obtain ⟨n, rfl, hn⟩ := sh_nat ok
    obtain ⟨a, b, c, d⟩ := shOk_iff.1 ok
    have hb2 := pow2_pos n
    have hb3 := pow10_le hn
    have hg := shp_gaps (2 ^ n) mode o ⟨hb2, hb3⟩ d s 0 0 0 0 (car_zero n o)
    rw [shapeM_yes ok, Int.toNat_natCast, shl_one (by omega)]
    refine Ev.tt rfl (Ev.tt (Int.natCast_nonneg _) ?_)
    have := law_shape n hn mode o d s _ ((shp (2 ^ n) mode o s 0 0 0).map (·.2.1)) ((shp (2 ^ n) mode o s 0 0 0).map (·.2.2)) (sig_len a) (sig_mem a) (peakM ((shp (2 ^ n) mode o s 0 0 0).map (·.2.2)) 0)
      (fun o1 => by
        have := peakM_le ((shp (2 ^ n) mode o s 0 0 0).map (·.2.2)) 0 ((2 : Int) ^ n - 1).toNat (by omega) (fun g h => by have := (hg g h).1 o1; omega)
        omega)
      (fun o2 => by
        have := peakM_le ((shp (2 ^ n) mode o s 0 0 0).map (·.2.2)) 0 (2 * (2 : Int) ^ n - 1).toNat (by omega) (fun g h => by have := (hg g h).2.1 o2; omega)
        omega)
      s [] [] [] [] 0 0 0 0 rfl rfl rfl rfl rfl rfl rfl (car_zero n o) rfl
    simpa using this
  · rw [shapeM_no ok]
    exact Ev.ff (by simp) (Ev.now _)

end Go.Proofs.Ythpdpbjgdndnmaa.Pure
