/- Fitted numbers are of their words, sums and differences undo each other where they wrap, and held ones are nearest. Conditions: none beyond those that the statement itself prints. -/
import Derived.Test.YthpdpbjgdndnmaaPFnWordsFitx7
namespace Go.Proofs.Ythpdpbjgdndnmaa.Pure
open Go.RowKit Go.Proofs.Ythpdpbjgdndnmaa.PFnWordsFit Go.Proofs.YthpdpbjgdndnmaaW.PrintWords Go.Proofs.YthpdpbjgdndnmaaW.PrintLast Go.Proofs.YthpdpbjgdndnmaaW.PrintMore
set_option linter.unusedVariables false
set_option linter.unusedSimpArgs false

theorem w64 {n : Int} (h1 : -9223372036854775808 ≤ n) (h2 : n ≤ 9223372036854775807) : wrap64 n = n := by
  unfold wrap64
  omega
theorem Ev.to {α : Type} {g : Nat → Option α} {r r' : α} (h : Ev g r) (e : r = r') : Ev g r' := e ▸ h
theorem Ev.const {α : Type} {g : Option α} {r : α} (h : g = some r) : Ev (fun _ => g) r := ⟨0, fun _ _ => h⟩
theorem Ev.dbind {α β : Type} {g : Option α} {f : Nat → α → Option β} {a : α} {r : β} (h : g = some a) (k : Ev (fun n => f n a) r) : Ev (fun n => g.bind (f n)) r :=
  Ev.bind (g := fun _ => g) (Ev.const h) k
theorem Ev.tt {α : Type} {c : Prop} {_ : Decidable c} {g f : Nat → Option α} {r : α} (h : c) (k : Ev g r) : Ev (fun n => if c then g n else f n) r := by
  simpa only [if_pos h] using k
theorem Ev.ff {α : Type} {c : Prop} {_ : Decidable c} {g f : Nat → Option α} {r : α} (h : ¬ c) (k : Ev f r) : Ev (fun n => if c then g n else f n) r := by
  simpa only [if_neg h] using k
theorem rd_mid (p t : List Int) (x : Int) : rd (p ++ x :: t) (p.length : Int) = x := by
  simp [rd]
theorem lt_mid {α : Type} (p t : List α) (x : α) : (p.length : Int) < ((p ++ x :: t).length : Int) := by
  simp
  omega
theorem nx_mid {α : Type} (p t : List α) (x : α) (h : (p ++ x :: t).length ≤ 140737488351232) : wrap64 ((p.length : Int) + 1) = ((p ++ [x]).length : Int) := by
  simp at h ⊢
  exact w64 (by omega) (by omega)
theorem ap_mid {α : Type} (p t : List α) (x : α) : p ++ x :: t = (p ++ [x]) ++ t := by simp
theorem w64_nat (a b : Nat) (h : a + b ≤ 1000000000) : wrap64 ((a : Int) + (b : Int)) = ((a + b : Nat) : Int) := by
  rw [w64 (n := (a : Int) + (b : Int)) (by omega) (by omega)]
  omega
theorem w64_suc {α : Type} (q : List α) (x : α) (h : q.length ≤ 1000000000) : wrap64 ((q.length : Int) + 1) = ((q ++ [x]).length : Int) := by
  rw [w64 (n := (q.length : Int) + 1) (by omega) (by omega)]
  simp
theorem ar1 {a b c d : Nat} (h1 : a + 1 ≤ c) (h2 : b + 1 ≤ d) : ((a + b : Nat) : Int) < ((c + d - 1 : Nat) : Int) := by omega
theorem ar2 {a b c d : Nat} (h1 : a + 1 ≤ c) (h2 : b + 1 ≤ d) : a + b < c + d - 1 := by omega
theorem ar3 (a b : Nat) : ¬ (a ≤ a + b ∧ a + b - a < b) := by omega
theorem ar4 {v M : Int} (h : -M ≤ v ∧ v ≤ M) (hm : M ≤ 4000000000000000000) : wrap64 v = v := w64 (by omega) (by omega)
theorem ar5 {c v P M H : Int} (hc : -P ≤ c ∧ c ≤ P) (hv : -M ≤ v ∧ v ≤ M) (hp : P + M ≤ H) (hH : H ≤ 4000000000000000000) : wrap64 (c + v) = c + v := w64 (by omega) (by omega)
theorem ar6 {a b : Nat} {M : Int} (h : a + 1 ≤ b) (hM : 0 ≤ M) : (a : Int) * M + M ≤ (b : Int) * M := by
  have h1 : ((a : Int) + 1) * M ≤ (b : Int) * M := Int.mul_le_mul_of_nonneg_right (by omega) hM
  rw [Int.add_mul, Int.one_mul] at h1
  exact h1
theorem ar7 {a b c d : Nat} (h1 : a + 1 ≤ c) (h2 : b + 1 ≤ d) (h : c + d ≤ 100000000) : a + b ≤ 1000000000 := by omega
theorem ar8 {a c d : Nat} (h1 : a + 1 ≤ c) (h : c + d ≤ 100000000) : a ≤ 1000000000 := by omega
theorem tm (a b : Nat) : Int.tmod (a : Int) (b : Int) = ((a % b : Nat) : Int) := (Int.ofNat_tmod a b).symm
theorem td (a b : Nat) : Int.tdiv (a : Int) (b : Int) = ((a / b : Nat) : Int) := (Int.ofNat_tdiv a b).symm
theorem w64n {a : Nat} (h : a ≤ 1000000000) : wrap64 (a : Int) = (a : Int) := w64 (by omega) (by omega)

def backOf (n : Int) : Int × Bool := if n = 3 then (-1, true) else if n = 4 then (0, true) else if n = 6 then (1, true) else (0, false)
def tnF (c : Int) : List Int → Int → Int → Int × Int
  | [], y, z => (y, z)
  | x :: t, y, z => tnF c t (wrap64 ((wrap64 (x + (wrap64 (c * y)))) - z)) y
def sig (l : List Int) : Bool := decide (l.length ≤ 64) && l.all fun x => decide (-100000 ≤ x) && decide (x ≤ 100000)
def toneStates (l : List Int) (n : Int) : Int × Int × Bool := if (backOf n).2 = true then (if sig l = true then ((tnF (backOf n).1 l 0 0).1, (tnF (backOf n).1 l 0 0).2, true) else (0, 0, false)) else (0, 0, false)
theorem sig_len {l : List Int} (h : sig l = true) : l.length ≤ 64 := by
  simp [sig] at h
  exact h.1
theorem sig_mem {l : List Int} (h : sig l = true) : ∀ x ∈ l, -100000 ≤ x ∧ x ≤ 100000 := by
  simp [sig] at h
  exact h.2
def isBits (l : List Int) : Bool := decide (l.length ≤ 200) && l.all fun x => decide (x = 1 ∨ x = -1)
theorem isBits_len {l : List Int} (h : isBits l = true) : l.length ≤ 200 := by
  simp [isBits] at h
  exact h.1
theorem isBits_mem {l : List Int} (h : isBits l = true) : ∀ x ∈ l, x = 1 ∨ x = -1 := by
  simp [isBits] at h
  exact h.2
def toldM (l : List Int) : List Int × Bool := if sig l = true then (l, true) else ([], false)
theorem toldM_len (l : List Int) : (toldM l).1.length ≤ 64 := by
  unfold toldM
  split
  · exact sig_len ‹_›
  · simp
def bitM (x v : Int) : Int := if x ≥ v then 1 else -1
theorem bitM_cases (x v : Int) : bitM x v = 1 ∨ bitM x v = -1 := by
  unfold bitM
  split <;> simp
def tkS (st last : Int) (fixed : Bool) (bit : Int) : Int :=
  if fixed = true then st else if last = 0 then st else if bit = last then (if 2 * st ≤ 4096 then 2 * st else 4096) else (if 1 ≤ st / 2 then st / 2 else 1)
theorem tkS_bd {st last : Int} {fixed : Bool} {bit : Int} (h0 : 1 ≤ st) (h1 : st ≤ 4096) : 1 ≤ tkS st last fixed bit ∧ tkS st last fixed bit ≤ 4096 := by
  unfold tkS
  repeat' split
  all_goals omega
theorem mul_bit {st bit : Int} (hb : bit = 1 ∨ bit = -1) : st * bit = st ∨ st * bit = -st := by
  rcases hb with rfl | rfl
  · left; omega
  · right; omega
/-- bit, value and step behind each sample -/
def codeM (fixed : Bool) : List Int → Int → Int → Int → List (Int × Int × Int)
  | [], _, _, _ => []
  | x :: t, v, st, last =>
    let b := bitM x v
    let s := tkS st last fixed b
    (b, v + s * b, s) :: codeM fixed t (v + s * b) s b
theorem codeM_length (fixed : Bool) : ∀ (l : List Int) (v st last : Int), (codeM fixed l v st last).length = l.length
  | [], _, _, _ => rfl
  | x :: t, v, st, last => by simp [codeM, codeM_length fixed t]
def fixM (st : Int) : List Int → Int → List Int
  | [], _ => []
  | x :: t, v => bitM x v :: fixM st t (v + bitM x v * st)
theorem fixM_length (st : Int) : ∀ (l : List Int) (v : Int), (fixM st l v).length = l.length
  | [], _ => rfl
  | x :: t, v => by simp [fixM, fixM_length st t]
def fixedBits (l : List Int) (st : Int) : List Int × Bool := if sig l = true ∧ 1 ≤ st ∧ st ≤ 4096 then (fixM st l 0, true) else ([], false)
def decM (fixed : Bool) : List Int → Int → Int → Int → List (Int × Int)
  | [], _, _, _ => []
  | b :: t, v, st, last => (v + tkS st last fixed b * b, tkS st last fixed b) :: decM fixed t (v + tkS st last fixed b * b) (tkS st last fixed b) b
theorem decM_length (fixed : Bool) : ∀ (l : List Int) (v st last : Int), (decM fixed l v st last).length = l.length
  | [], _, _, _ => rfl
  | x :: t, v, st, last => by simp [decM, decM_length fixed t]
def gapM : List Int → List Int → List Int
  | x :: t, y :: u => (x - y) :: gapM t u
  | _, _ => []
theorem gapM_length : ∀ (l m : List Int), l.length = m.length → (gapM l m).length = l.length
  | [], m, _ => by cases m <;> simp [gapM]
  | x :: t, [], h => by simp at h
  | x :: t, y :: u, h => by
    simp at h
    simp [gapM, gapM_length t u h]
theorem codeM_val (fixed : Bool) : ∀ (l : List Int) (v st last : Int) (n : Int), 1 ≤ st → st ≤ 4096 → -4096 * n ≤ v → v ≤ 4096 * n → ∀ y ∈ (codeM fixed l v st last).map (·.2.1), -4096 * (n + l.length) ≤ y ∧ y ≤ 4096 * (n + l.length)
  | [], _, _, _, _, _, _, _, _, y, hy => by simp [codeM] at hy
  | x :: t, v, st, last, n, h0, h1, hv0, hv1, y, hy => by
    have hb := bitM_cases x v
    have hk := tkS_bd (last := last) (fixed := fixed) (bit := bitM x v) h0 h1
    have hm := mul_bit (st := tkS st last fixed (bitM x v)) hb
    simp only [codeM, List.map_cons, List.mem_cons] at hy
    rcases hy with rfl | hy
    · simp; omega
    · have := codeM_val fixed t _ _ _ (n + 1) hk.1 hk.2 (by omega) (by omega) y hy
      simp; omega
def stepOk (st : Int) : Bool := decide (1 ≤ st) && decide (st ≤ 4096)
theorem stepOk_iff {st : Int} : stepOk st = true ↔ 1 ≤ st ∧ st ≤ 4096 := by simp [stepOk]
def stepBits (l : List Int) (st : Int) : List Int × Bool := if sig l = true then (if stepOk st = true then ((codeM false l 0 st 0).map (·.1), true) else ([], false)) else ([], false)
def stepValues (l : List Int) (st : Int) : List Int × Bool := if isBits l = true then (if stepOk st = true then toldM ((decM false l 0 st 0).map (·.1)) else ([], false)) else ([], false)
def stepsOfBits (l : List Int) (st : Int) : List Int × Bool := if isBits l = true then (if stepOk st = true then toldM ((decM false l 0 st 0).map (·.2)) else ([], false)) else ([], false)
def fixedValues (l : List Int) (st : Int) : List Int × Bool := if isBits l = true then (if stepOk st = true then toldM ((decM true l 0 st 0).map (·.1)) else ([], false)) else ([], false)
def stepGaps (l : List Int) (st : Int) : List Int × Bool := if sig l = true then (if stepOk st = true then toldM (gapM l ((codeM false l 0 st 0).map (·.2.1))) else ([], false)) else ([], false)
def wts (l : List Int) : Bool := decide (1 ≤ l.length) && decide (l.length ≤ 9) && l.all fun x => decide (-1000 ≤ x) && decide (x ≤ 1000)
theorem wts_len {l : List Int} (h : wts l = true) : 1 ≤ l.length ∧ l.length ≤ 9 := by
  simp [wts] at h
  exact ⟨h.1.1, h.1.2⟩
theorem wts_mem {l : List Int} (h : wts l = true) : ∀ x ∈ l, -1000 ≤ x ∧ x ≤ 1000 := by
  simp [wts] at h
  exact h.2
def ratio (p q : Int) : Bool := (decide (1 ≤ p) && decide (p ≤ 8)) && (decide (1 ≤ q) && decide (q ≤ 8))
theorem ratio_iff {p q : Int} : ratio p q = true ↔ (1 ≤ p ∧ p ≤ 8) ∧ (1 ≤ q ∧ q ≤ 8) := by simp [ratio]
def rsOk (h l : List Int) (p q : Int) : Bool := wts h && ((sig l && ratio p q) && decide ((l.length : Int) * p ≤ 64))
def peakM : List Int → Nat → Nat
  | [], m => m
  | x :: t, m => peakM t (max m x.natAbs)

def cv : List Int → List Int → Nat → Int
  | [], _, _ => 0
  | w :: _, s, 0 => w * s.getD 0 0
  | w :: h, s, n + 1 => w * s.getD (n + 1) 0 + cv h s n
def Lf (f : Nat → Int) (N : Nat) : List Int := (List.range N).map f
theorem Lf_length (f : Nat → Int) (N : Nat) : (Lf f N).length = N := by simp [Lf]
theorem rd_Lf (f : Nat → Int) (N i : Nat) (h : i < N) : rd (Lf f N) (i : Int) = f i := by
  simp [rd, Lf, h]
theorem set_Lf (f : Nat → Int) (N i : Nat) (v : Int) : (Lf f N).set i v = Lf (fun n => if n = i then v else f n) N := by
  apply List.ext_getElem
  · simp [Lf]
  · intro n h1 h2
    simp [Lf, List.getElem_set]
    by_cases c : i = n
    · simp [c]
    · rw [if_neg c, if_neg (fun h => c h.symm)]
theorem Lf_congr {f g : Nat → Int} {N : Nat} (h : ∀ n, n < N → f n = g n) : Lf f N = Lf g N := by
  apply List.ext_getElem
  · simp [Lf]
  · intro n h1 h2
    simp [Lf] at h1 ⊢
    exact h n h1
theorem cv_snoc (s : List Int) (w : Int) : ∀ (p : List Int) (n : Nat), cv (p ++ [w]) s n = cv p s n + (if p.length ≤ n then w * s.getD (n - p.length) 0 else 0)
  | [], 0 => by simp [cv]
  | [], n + 1 => by simp [cv]
  | a :: p, 0 => by simp [cv]
  | a :: p, n + 1 => by
    simp only [List.cons_append, cv, cv_snoc s w p n, List.length_cons, Nat.add_le_add_iff_right, Nat.add_sub_add_right]
    omega
theorem getD_bd {s : List Int} {a M : Int} (hM : 0 ≤ M) (h : ∀ x ∈ s, -M ≤ a * x ∧ a * x ≤ M) (n : Nat) : -M ≤ a * s.getD n 0 ∧ a * s.getD n 0 ≤ M := by
  rw [List.getD_eq_getElem?_getD]
  by_cases c : n < s.length
  · rw [List.getElem?_eq_getElem c]
    exact h _ (List.getElem_mem c)
  · rw [List.getElem?_eq_none (by omega)]
    simp
    omega
theorem cv_bd {s : List Int} {M : Int} (hM : 0 ≤ M) : ∀ (h : List Int) (n : Nat), (∀ a ∈ h, ∀ x ∈ s, -M ≤ a * x ∧ a * x ≤ M) → -(h.length * M) ≤ cv h s n ∧ cv h s n ≤ h.length * M
  | [], n, hb => by simp [cv]
  | a :: h, 0, hb => by
    have h1 := getD_bd hM (hb a (by simp)) 0
    have h2 : 0 ≤ (h.length : Int) * M := Int.mul_nonneg (by omega) hM
    simp only [cv, List.length_cons, Int.natCast_add, Int.add_mul]
    omega
  | a :: h, n + 1, hb => by
    have h1 := getD_bd hM (hb a (by simp)) (n + 1)
    have h2 := cv_bd hM h n (fun b hbm => hb b (by simp [hbm]))
    simp only [cv, List.length_cons, Int.natCast_add, Int.add_mul]
    omega
def conv (h s : List Int) : List Int := if s = [] then [] else Lf (cv h s) (h.length + s.length - 1)
theorem conv_length (h s : List Int) (hs : s ≠ []) : (conv h s).length = h.length + s.length - 1 := by
  rw [conv, if_neg hs, Lf_length]
/-- what stands in the list when the weights p are done, and of the weight w the samples q -/
def cvi (p q s : List Int) (w : Int) (n : Nat) : Int := cv p s n + (if p.length ≤ n ∧ n - p.length < q.length then w * s.getD (n - p.length) 0 else 0)
theorem cvi_nil (p s : List Int) (w : Int) : cvi p [] s w = cv p s := by
  funext n
  simp [cvi]
theorem cvi_all (p s : List Int) (w : Int) (n : Nat) : cvi p s s w n = cv (p ++ [w]) s n := by
  rw [cv_snoc, cvi]
  by_cases c : p.length ≤ n
  · by_cases d : n - p.length < s.length
    · rw [if_pos ⟨c, d⟩, if_pos c]
    · rw [if_neg (fun h => d h.2), if_pos c, List.getD_eq_getElem?_getD, List.getElem?_eq_none (by omega)]
      simp
  · rw [if_neg (fun h => c h.1), if_neg c]
theorem getD_mid (q t : List Int) (x : Int) : (q ++ x :: t).getD q.length 0 = x := by simp
theorem cvi_step (p q t : List Int) (w x : Int) (n : Nat) : (if n = p.length + q.length then cvi p q (q ++ x :: t) w n + w * x else cvi p q (q ++ x :: t) w n) = cvi p (q ++ [x]) (q ++ x :: t) w n := by
  unfold cvi
  by_cases c : n = p.length + q.length
  · subst c
    have e : p.length + q.length - p.length = q.length := by omega
    rw [if_pos rfl, e, getD_mid, if_neg (by omega), if_pos ⟨by omega, by simp⟩]
    omega
  · rw [if_neg c]
    by_cases d : p.length ≤ n ∧ n - p.length < q.length
    · rw [if_pos d, if_pos ⟨d.1, by simp; omega⟩]
    · rw [if_neg d, if_neg (fun h => d ⟨h.1, by have := h.2; simp at this; omega⟩)]
theorem Lf_succ (f : Nat → Int) (n : Nat) : Lf f (n + 1) = Lf f n ++ [f n] := by simp [Lf, List.range_succ]
def dropN (len rate first : Nat) : Nat := (len - first + rate - 1) / rate
theorem dropN_lt {len rate first j : Nat} (hr : 1 ≤ rate) : j < dropN len rate first ↔ first + j * rate < len := by
  unfold dropN
  rw [Nat.lt_iff_add_one_le, Nat.le_div_iff_mul_le (by omega), Nat.add_mul]
  omega
def dropM (l : List Int) (rate first : Nat) : List Int := Lf (fun j => l.getD (first + j * rate) 0) (dropN l.length rate first)
theorem dropM_length (l : List Int) (rate first : Nat) : (dropM l rate first).length = dropN l.length rate first := Lf_length _ _
theorem dropN_le {len rate first : Nat} (hr : 1 ≤ rate) : dropN len rate first ≤ len := by
  apply Nat.le_of_not_lt
  intro h
  have := (dropN_lt hr).1 h
  have h2 : len * 1 ≤ len * rate := Nat.mul_le_mul_left len hr
  omega
def stuffM (p : Nat) : List Int → List Int
  | [] => []
  | x :: t => (x :: List.replicate (p - 1) 0) ++ stuffM p t
theorem stuffM_length (p : Nat) (hp : 1 ≤ p) : ∀ l : List Int, (stuffM p l).length = l.length * p
  | [] => by simp [stuffM]
  | x :: t => by
    simp only [stuffM, List.length_append, List.length_cons, List.length_replicate, stuffM_length p hp t, Nat.add_mul]
    omega
theorem stuffM_snoc (p : Nat) (x : Int) : ∀ l : List Int, stuffM p (l ++ [x]) = stuffM p l ++ (x :: List.replicate (p - 1) 0)
  | [] => by simp [stuffM]
  | y :: t => by simp [stuffM, stuffM_snoc p x t]
theorem rd_getD (l : List Int) (i : Nat) : rd l (i : Int) = l.getD i 0 := by simp [rd]
theorem stuffM_sig (p : Nat) : ∀ l : List Int, (∀ x ∈ l, -100000 ≤ x ∧ x ≤ 100000) → ∀ x ∈ stuffM p l, -100000 ≤ x ∧ x ≤ 100000
  | [], _, x, h => by simp [stuffM] at h
  | y :: t, hl, x, h => by
    simp only [stuffM, List.mem_append, List.mem_cons, List.mem_replicate] at h
    rcases h with (rfl | ⟨_, rfl⟩) | h
    · exact hl _ (by simp)
    · omega
    · exact stuffM_sig p t (fun z hz => hl z (by simp [hz])) x h
theorem sig_iff {l : List Int} : sig l = true ↔ l.length ≤ 64 ∧ ∀ x ∈ l, -100000 ≤ x ∧ x ≤ 100000 := by simp [sig]
theorem ediv_bd {x b : Int} (hb : 0 < b) (hx : -4611686018427387904 ≤ x ∧ x ≤ 4611686018427387904) : -4611686018427387905 ≤ x / b ∧ x / b ≤ 4611686018427387905 := by
  have h0 := Int.emod_nonneg x (show b ≠ 0 by omega)
  have h1 := Int.emod_lt_of_pos x hb
  have h2 := Int.emod_add_mul_ediv x b
  constructor
  · apply Int.not_lt.1
    intro h
    have : b * (x / b) ≤ 1 * (x / b) := Int.mul_le_mul_of_nonpos_right (by omega) (by omega)
    have h3 : b * (x / b) ≤ b * (-4611686018427387906) := Int.mul_le_mul_of_nonneg_left (by omega) (by omega)
    omega
  · apply Int.not_lt.1
    intro h
    have h3 : 1 * (x / b) ≤ b * (x / b) := Int.mul_le_mul_of_nonneg_right (by omega) (by omega)
    omega
def atM (s : List Int) (i : Int) : Int := if 0 ≤ i then s.getD i.toNat 0 else 0
theorem getD_all {l : List Int} {M : Int} (hM : 0 ≤ M) (h : ∀ x ∈ l, -M ≤ x ∧ x ≤ M) (n : Nat) : -M ≤ l.getD n 0 ∧ l.getD n 0 ≤ M := by
  rw [List.getD_eq_getElem?_getD]
  by_cases c : n < l.length
  · rw [List.getElem?_eq_getElem c]
    exact h _ (List.getElem_mem c)
  · rw [List.getElem?_eq_none (by omega)]
    simp
    omega

theorem spec_l1In_eq (a b c : Int) : spec_l1In.f a b c = some (decide (b ≤ a) && decide (a ≤ c)) := by
  unfold spec_l1In.f
  by_cases h : b ≤ a <;> simp [h]

theorem impl_in_eq (a b c : Int) : impl_in.f a b c = some (decide (b ≤ a) && decide (a ≤ c)) := by
  unfold impl_in.f
  by_cases h : b ≤ a <;> simp [h]

/-- What a cursor gives: a value with P, and at most c steps further. -/
def Dr {α : Type} (P : α → Prop) (c : Int) (a : Int) (g : Option (α × Int × Int)) : Prop := ∃ v a' sd, g = some (v, a', sd) ∧ a ≤ a' ∧ a' ≤ a + c ∧ P v
theorem u64_bd (n : Int) : 0 ≤ IntKind.u64.wrap n ∧ IntKind.u64.wrap n < 18446744073709551616 := by
  simp only [IntKind.wrap, IntKind.bits, IntKind.signed]
  simp
  omega
theorem u64_and255 (x : Int) (h0 : 0 ≤ x) (h1 : x < 18446744073709551616) : Go.bits .and .u64 x 255 = x % 256 :=
  bits_mask .u64 64 (by decide) (fun n h0 h1 => by
    simp only [IntKind.wrap, IntKind.bits, IntKind.signed]
    simp
    omega) 8 (by decide) x h0 h1
def Bytes (l : List Int) : Prop := l.length ≤ 1048576 ∧ ∀ x ∈ l, 0 ≤ x ∧ x ≤ 255
theorem next_ok {l : List Int} (hl : Bytes l) (a sd : Int) (h0 : 0 ≤ a) (h1 : a ≤ 1000000000000000) : Dr (fun v => 0 ≤ v ∧ v ≤ 255) 1 a (spec_l1Cur_next.f l a sd) := by
  have hw : wrap64 (a + 1) = a + 1 := w64 (by omega) (by omega)
  have hm : ∀ y : Int, 0 ≤ wrap64 (Go.bits .and .u64 (IntKind.u64.wrap y / 1099511627776) 255) ∧ wrap64 (Go.bits .and .u64 (IntKind.u64.wrap y / 1099511627776) 255) ≤ 255 := by
    intro y
    have hy := u64_bd y
    rw [u64_and255 _ (by omega) (by omega), w64 (n := IntKind.u64.wrap y / 1099511627776 % 256) (by omega) (by omega)]
    omega
  unfold spec_l1Cur_next.f
  by_cases c : a < (l.length : Int)
  · have hr : 0 ≤ rd l a ∧ rd l a ≤ 255 := by
      obtain ⟨n, rfl⟩ : ∃ n : Nat, a = (n : Int) := ⟨a.toNat, by omega⟩
      have hn : n < l.length := by omega
      rw [rd_getD, List.getD_eq_getElem?_getD, List.getElem?_eq_getElem hn]
      exact hl.2 _ (List.getElem_mem hn)
    rw [if_pos c, if_pos h0, hw, if_pos (by omega), w64 (n := rd l a) (by omega) (by omega)]
    exact ⟨_, _, _, rfl, by omega, by omega, hr⟩
  · rw [if_neg c, hw]
    by_cases d : a + 1 ≤ (l.length : Int)
    · omega
    · rw [if_neg d]
      exact ⟨_, _, _, rfl, by omega, by omega, hm _⟩

theorem pick_ok {l : List Int} (hl : Bytes l) (a sd n : Int) (h0 : 0 ≤ a) (h1 : a ≤ 100000000000000) (hn : n ≤ 1000000) : Dr (fun v => 0 ≤ v ∧ (v < n ∨ v = 0)) 2 a (spec_l1Cur_pick.f l a sd n) := by
  unfold spec_l1Cur_pick.f
  by_cases c : n ≤ 1
  · rw [if_pos c]
    exact ⟨_, _, _, rfl, by omega, by omega, by omega, .inr rfl⟩
  · rw [if_neg c]
    obtain ⟨v, a', sd', e, ha, hb, hv⟩ := next_ok hl a sd h0 (by omega)
    rw [e]
    simp only [Option.bind_some]
    have hn0 : ¬ n = 0 := by omega
    by_cases d : n > 200
    · rw [if_pos d]
      obtain ⟨v2, a2, sd2, e2, ha2, hb2, hv2⟩ := next_ok hl a' sd' (by omega) (by omega)
      rw [e2]
      simp only [Option.bind_some]
      rw [if_neg hn0, w64 (n := v * 256) (by omega) (by omega), w64 (n := v * 256 + v2) (by omega) (by omega), Int.tmod_eq_emod_of_nonneg (by omega)]
      have := Int.emod_nonneg (v * 256 + v2) hn0
      have := Int.emod_lt_of_pos (v * 256 + v2) (show 0 < n by omega)
      exact ⟨_, _, _, rfl, by omega, by omega, by omega, .inl (by omega)⟩
    · rw [if_neg d, if_neg hn0, Int.tmod_eq_emod_of_nonneg (by omega)]
      have := Int.emod_nonneg v hn0
      have := Int.emod_lt_of_pos v (show 0 < n by omega)
      exact ⟨_, _, _, rfl, by omega, by omega, by omega, .inl (by omega)⟩

theorem among_ok {l : List Int} (hl : Bytes l) (a sd : Int) (m : List Int) (h0 : 0 ≤ a) (h1 : a ≤ 100000000000000) (hm : 1 ≤ m.length) (hm2 : m.length ≤ 1000) : Dr (fun v => v ∈ m) 2 a (spec_l1Cur_among.f l a sd m) := by
  unfold spec_l1Cur_among.f
  obtain ⟨v, a', sd', e, ha, hb, hv, hv2⟩ := pick_ok hl a sd (m.length : Int) h0 h1 (by omega)
  rw [e]
  simp only [Option.bind_some]
  rw [if_pos hv, if_pos (by omega)]
  refine ⟨_, _, _, rfl, ha, hb, ?_⟩
  obtain ⟨n, rfl⟩ : ∃ n : Nat, v = (n : Int) := ⟨v.toNat, by omega⟩
  have hn : n < m.length := by omega
  rw [rd_getD, List.getD_eq_getElem?_getD, List.getElem?_eq_getElem hn]
  exact List.getElem_mem hn

theorem one_ok {l : List Int} (hl : Bytes l) (a sd n : Int) (h0 : 0 ≤ a) (h1 : a ≤ 100000000000000) (hn : n ≤ 1000000) : Dr (fun _ => True) 2 a (spec_l1Cur_one.f l a sd n) := by
  unfold spec_l1Cur_one.f
  obtain ⟨v, a', sd', e, ha, hb, hv, hv2⟩ := pick_ok hl a sd n h0 h1 hn
  rw [e]
  simp only [Option.bind_some]
  exact ⟨_, _, _, rfl, ha, hb, trivial⟩

theorem number_ok {l : List Int} (hl : Bytes l) (a sd : Int) (h0 : 0 ≤ a) (h1 : a ≤ 10000000000000) : Dr (fun v => -4611686018427387904 ≤ v ∧ v ≤ 4611686018427387904) 10 a (spec_l1Cur_number.f l a sd) := by
  unfold spec_l1Cur_number.f
  obtain ⟨v, a1, sd1, e, ha, hb, hv⟩ := pick_ok hl a sd 14 h0 (by omega) (by omega)
  rw [e]
  simp only [Option.bind_some]
  by_cases c : v = 0
  · rw [if_pos c]
    obtain ⟨u, a2, sd2, e2, ha2, hb2, hu⟩ := among_ok hl a1 sd1 [1000000000000, (-1000000000000), 1000000000001, (-4611686018427387904), 549755813888] (by omega) (by omega) (by simp) (by simp)
    rw [e2]
    simp only [Option.bind_some]
    refine ⟨_, _, _, rfl, by omega, by omega, ?_⟩
    simp at hu
    rcases hu with rfl | rfl | rfl | rfl | rfl <;> decide
  · rw [if_neg c]
    by_cases d : v = 1
    · rw [if_pos d]
      obtain ⟨u, a2, sd2, e2, ha2, hb2, hu, hu2⟩ := pick_ok hl a1 sd1 256 (by omega) (by omega) (by omega)
      rw [e2]
      simp only [Option.bind_some]
      obtain ⟨u3, a3, sd3, e3, ha3, hb3, hu3, hu4⟩ := pick_ok hl a2 sd2 256 (by omega) (by omega) (by omega)
      rw [e3]
      simp only [Option.bind_some]
      refine ⟨_, _, _, rfl, by omega, by omega, ?_⟩
      rw [w64 (n := u * 256) (by omega) (by omega), w64 (n := u * 256 + u3) (by omega) (by omega), w64 (n := (u * 256 + u3) * 256) (by omega) (by omega), w64 (n := (u * 256 + u3) * 256 - 5000000) (by omega) (by omega)]
      omega
    · rw [if_neg d]
      obtain ⟨u, a2, sd2, e2, ha2, hb2, hu, hu2⟩ := pick_ok hl a1 sd1 200 (by omega) (by omega) (by omega)
      rw [e2]
      simp only [Option.bind_some]
      refine ⟨_, _, _, rfl, by omega, by omega, ?_⟩
      rw [w64 (n := u - 100) (by omega) (by omega)]
      omega

theorem shift_ok {l : List Int} (hl : Bytes l) (a sd : Int) (h0 : 0 ≤ a) (h1 : a ≤ 10000000000000) : Dr (fun v => -1 ≤ v ∧ v ≤ 64) 10 a (spec_l1Cur_shift.f l a sd) := by
  unfold spec_l1Cur_shift.f
  obtain ⟨v, a1, sd1, e, ha, hb, hv⟩ := one_ok hl a sd 12 h0 (by omega) (by omega)
  rw [e]
  simp only [Option.bind_some]
  by_cases c : v = true
  · rw [if_pos c]
    obtain ⟨u, a2, sd2, e2, ha2, hb2, hu⟩ := among_ok hl a1 sd1 [(-1), 0, 20, 21, 64] (by omega) (by omega) (by simp) (by simp)
    rw [e2]
    simp only [Option.bind_some]
    refine ⟨_, _, _, rfl, by omega, by omega, ?_⟩
    simp at hu
    rcases hu with rfl | rfl | rfl | rfl | rfl <;> decide
  · rw [if_neg c]
    obtain ⟨u, a2, sd2, e2, ha2, hb2, hu, hu2⟩ := pick_ok hl a1 sd1 7 (by omega) (by omega) (by omega)
    rw [e2]
    simp only [Option.bind_some]
    exact ⟨_, _, _, rfl, by omega, by omega, by omega, by omega⟩

theorem mode_ok {l : List Int} (hl : Bytes l) (a sd : Int) (h0 : 0 ≤ a) (h1 : a ≤ 10000000000000) : Dr (fun v => -1 ≤ v ∧ v ≤ 3) 10 a (spec_l1Cur_mode.f l a sd) := by
  unfold spec_l1Cur_mode.f
  obtain ⟨u, a2, sd2, e2, ha2, hb2, hu⟩ := among_ok hl a sd [0, 1, 2, 0, 1, 2, 0, 1, 2, 3, (-1)] h0 (by omega) (by simp) (by simp)
  rw [e2]
  simp only [Option.bind_some]
  refine ⟨_, _, _, rfl, by omega, by omega, ?_⟩
  simp at hu
  omega

theorem laws_big_eq (l m : List Int) (hl : l.length ≤ 140737488355328) (hm : m.length ≤ 140737488355328) : laws_big.f l m = some (decide (1048576 < l.length + m.length)) := by
  unfold laws_big.f
  by_cases c : (l.length : Int) > 1048576
  · rw [if_pos c]
    simp; omega
  · rw [if_neg c, w64 (n := 1048576 - (l.length : Int)) (by omega) (by omega)]
    simp; omega
theorem bytes_of {l : List Int} (h : l.length ≤ 1048576) (hx : ∀ x ∈ l, (Lit.int .u8 x).wf = true) : Bytes l := by
  refine ⟨h, fun x hxl => ?_⟩
  have := hx x hxl
  simp [Lit.wf, IntKind.min, IntKind.max, IntKind.signed, IntKind.bits] at this
  omega

/-- A number shifted: down, to the nearest one, towards 0. -/
def shM (x b mode : Int) : Int := if mode = 1 ∧ b ≤ 2 * (x % b) ∧ 0 < x % b then x / b + 1 else if mode = 2 ∧ x < 0 ∧ 0 < x % b then x / b + 1 else x / b
theorem div_uniq {x b q r : Int} (h : x = q * b + r) (h0 : 0 ≤ r) (h1 : r < b) : x / b = q := by
  have hb : 0 < b := by omega
  exact ((Int.ediv_emod_unique hb).2 ⟨by rw [h, Int.mul_comm]; omega, h0, h1⟩).1
theorem pow2_pos (s : Nat) : (0 : Int) < 2 ^ s := Int.pow_pos (by decide)
theorem pow2_le {s : Nat} (h : s ≤ 20) : (2 : Int) ^ s ≤ 1048576 := by
  have h1 : (2 : Nat) ^ s ≤ 2 ^ 20 := Nat.pow_le_pow_right (by decide) h
  have h3 : (2 : Int) ^ s = (((2 : Nat) ^ s : Nat) : Int) := by simp
  rw [h3]
  have h2 : (2 : Nat) ^ 20 = 1048576 := by decide
  omega
theorem shl_one {s : Nat} (h : s ≤ 20) : shl .i64 1 (s : Int) = 2 ^ s := by
  unfold shl
  have h1 : min ((s : Int)).toNat IntKind.i64.bits = s := by
    simp [IntKind.bits]; omega
  rw [h1, Int.one_mul, IntKind.wrap_i64]
  have := pow2_pos s
  have := pow2_le h
  omega
theorem shl_mul {s : Nat} (h : s ≤ 20) (y : Int) (h1 : -9223372036854775808 ≤ y * 2 ^ s) (h2 : y * 2 ^ s ≤ 9223372036854775807) : shl .i64 y (s : Int) = y * 2 ^ s := by
  unfold shl
  have e : min ((s : Int)).toNat IntKind.i64.bits = s := by
    simp [IntKind.bits]; omega
  rw [e, IntKind.wrap_i64]
  omega
theorem shr_div {s : Nat} (h : s ≤ 20) (y : Int) : shr .i64 y (s : Int) = y / 2 ^ s := by
  unfold shr
  have e : min ((s : Int)).toNat IntKind.i64.bits = s := by
    simp [IntKind.bits]; omega
  rw [e]
theorem mod_eq (x b : Int) : x = (x / b) * b + x % b := by
  have := Int.emod_add_mul_ediv x b
  rw [Int.mul_comm] at this
  omega

theorem impl_shifted_ev (x : Int) (s : Nat) (mode : Int) (hs : s ≤ 20) (hx : -4611686018427387904 ≤ x ∧ x ≤ 4611686018427387904) : Ev (fun k => impl_shifted.f k x (s : Int) mode) (shM x (2 ^ s) mode) := by
  have hb := pow2_pos s
  have hb2 := pow2_le hs
  have hr0 := Int.emod_nonneg x (show (2 : Int) ^ s ≠ 0 by omega)
  have hr1 := Int.emod_lt_of_pos x hb
  have hd := mod_eq x (2 ^ s)
  simp only [impl_shifted.f]
  by_cases c : mode = 1
  · refine Ev.tt c ?_
    by_cases d : (s : Int) > 0
    · obtain ⟨m, rfl⟩ : ∃ m, s = m + 1 := ⟨s - 1, by omega⟩
      have e1 : wrap64 (((m + 1 : Nat) : Int) - 1) = (m : Int) := by
        rw [w64 (n := ((m + 1 : Nat) : Int) - 1) (by omega) (by omega)]
        omega
      have hp : (2 : Int) ^ (m + 1) = 2 * 2 ^ m := by rw [Int.pow_succ]; omega
      have hpm := pow2_pos m
      have e2 : wrap64 (x + 2 ^ m) = x + 2 ^ m := w64 (by omega) (by omega)
      refine Ev.step (f := fun _ => some (shM x (2 ^ (m + 1)) mode)) (fun k => ?_) (Ev.now _)
      simp only [impl_shifted.j0, e1, shl_one (s := m) (by omega), e2, shr_div hs]
      rw [if_pos (by simp), if_pos (Int.natCast_nonneg _), if_pos (Int.natCast_nonneg _)]
      congr 1
      unfold shM
      by_cases g : (2 : Int) ^ (m + 1) ≤ 2 * (x % 2 ^ (m + 1)) ∧ 0 < x % 2 ^ (m + 1)
      · rw [if_pos ⟨c, g⟩]
        refine div_uniq (r := x % 2 ^ (m + 1) - 2 ^ m) ?_ (by omega) (by omega)
        rw [Int.add_mul]
        omega
      · rw [if_neg (fun h => g h.2), if_neg (fun h => by omega)]
        refine div_uniq (r := x % 2 ^ (m + 1) + 2 ^ m) (by omega) (by omega) (by omega)
    · have e : s = 0 := by omega
      subst e
      refine Ev.step (f := fun _ => some (shM x (2 ^ 0) mode)) (fun k => ?_) (Ev.now _)
      simp only [impl_shifted.j0, shr_div (s := 0) (by omega)]
      rw [if_neg (by simp), if_neg (by omega), if_pos (by omega)]
      congr 1
      unfold shM
      rw [if_neg (fun h => by have := h.2.2; simp at this), if_neg (fun h => by omega)]
  · refine Ev.ff c ?_
    refine Ev.step (f := fun _ => some (shM x (2 ^ s) mode)) (fun k => ?_) (Ev.now _)
    simp only [impl_shifted.j0, shr_div hs]
    rw [if_neg (by decide)]
    have hS : shM x (2 ^ s) mode = if mode = 2 ∧ x < 0 ∧ 0 < x % 2 ^ s then x / 2 ^ s + 1 else x / 2 ^ s := by
      unfold shM
      rw [if_neg (fun h => c h.1)]
    rw [hS]
    clear hS
    by_cases d : mode = 2
    · rw [if_pos d]
      by_cases g : x < 0
      · rw [if_pos g, if_pos (Int.natCast_nonneg _), w64 (n := -x) (by omega) (by omega)]
        by_cases r : 0 < x % 2 ^ s
        · rw [if_pos ⟨d, g, r⟩]
          have e : (-x) / 2 ^ s = -(x / 2 ^ s) - 1 := by
            refine div_uniq (r := 2 ^ s - x % 2 ^ s) ?_ (by omega) (by omega)
            rw [Int.sub_mul, Int.neg_mul]
            omega
          have hq : -4611686018427387905 ≤ x / 2 ^ s ∧ x / 2 ^ s ≤ 4611686018427387905 := ediv_bd hb hx
          rw [e, w64 (n := -(-(x / 2 ^ s) - 1)) (by omega) (by omega)]
          congr 1
          omega
        · rw [if_neg (fun h => r h.2.2)]
          have e : (-x) / 2 ^ s = -(x / 2 ^ s) := by
            refine div_uniq (r := 0) ?_ (by omega) (by omega)
            rw [Int.neg_mul]
            omega
          have hq : -4611686018427387905 ≤ x / 2 ^ s ∧ x / 2 ^ s ≤ 4611686018427387905 := ediv_bd hb hx
          rw [e, w64 (n := -(-(x / 2 ^ s))) (by omega) (by omega)]
          congr 1
          omega
      · rw [if_neg g, if_pos (Int.natCast_nonneg _), if_neg (fun h => g h.2.1)]
    · rw [if_neg d, if_pos (Int.natCast_nonneg _), if_neg (fun h => d h.1)]

theorem spec_wdShift_ev (x : Int) (s : Nat) (mode : Int) (hs : s ≤ 20) (hx : -4611686018427387904 ≤ x ∧ x ≤ 4611686018427387904) : Ev (fun k => spec_wdShift.f k x (s : Int) mode) (shM x (2 ^ s) mode) := by
  have hb := pow2_pos s
  have hb2 := pow2_le hs
  have hr0 := Int.emod_nonneg x (show (2 : Int) ^ s ≠ 0 by omega)
  have hr1 := Int.emod_lt_of_pos x hb
  have hd := mod_eq x (2 ^ s)
  have hq : -4611686018427387905 ≤ x / 2 ^ s ∧ x / 2 ^ s ≤ 4611686018427387905 := ediv_bd hb hx
  have key : ∀ d : Int, d = x / 2 ^ s → Ev (fun k => spec_wdShift.j0 k x mode (2 ^ s) d) (shM x (2 ^ s) mode) := by
    intro d e
    subst e
    have e1 : wrap64 (x / 2 ^ s * 2 ^ s) = x / 2 ^ s * 2 ^ s := w64 (by omega) (by omega)
    have e2 : wrap64 (x - x / 2 ^ s * 2 ^ s) = x % 2 ^ s := by
      rw [w64 (n := x - x / 2 ^ s * 2 ^ s) (by omega) (by omega)]
      omega
    have e3 : wrap64 (2 * (x % 2 ^ s)) = 2 * (x % 2 ^ s) := w64 (by omega) (by omega)
    have e4 : wrap64 (x / 2 ^ s + 1) = x / 2 ^ s + 1 := w64 (by omega) (by omega)
    have j1 : ∀ f : Bool, (f = true ↔ mode = 1 ∧ 2 ^ s ≤ 2 * (x % 2 ^ s) ∧ 0 < x % 2 ^ s) → Ev (fun k => spec_wdShift.j1 k x mode (x / 2 ^ s) (x % 2 ^ s) f) (shM x (2 ^ s) mode) := by
      intro f hf
      refine Ev.step (f := fun _ => some (shM x (2 ^ s) mode)) (fun k => ?_) (Ev.now _)
      simp only [spec_wdShift.j1, e4]
      unfold shM
      by_cases g : f = true
      · rw [if_pos g, if_pos (hf.1 g)]
      · rw [if_neg g, if_neg (fun h => g (hf.2 h))]
        by_cases m2 : mode = 2
        · rw [if_pos m2]
          by_cases x0 : x < 0
          · rw [if_pos x0]
            by_cases r0 : x % 2 ^ s > 0
            · rw [if_pos r0, if_pos ⟨m2, x0, r0⟩]
            · rw [if_neg r0, if_neg (fun h => r0 h.2.2)]
          · rw [if_neg x0, if_neg (fun h => x0 h.2.1)]
        · rw [if_neg m2, if_neg (fun h => m2 h.1)]
    by_cases m1 : mode = 1
    · by_cases g : 2 * (x % 2 ^ s) ≥ 2 ^ s
      · refine Ev.step (fun k => ?_) (j1 (decide (x % 2 ^ s > 0)) (by simp only [decide_eq_true_eq]; exact ⟨fun h => ⟨m1, g, h⟩, fun h => h.2.2⟩))
        simp only [spec_wdShift.j0, e1, e2, e3, if_pos m1, if_pos g]
      · refine Ev.step (fun k => ?_) (j1 false (by simp; intro _ h; omega))
        simp only [spec_wdShift.j0, e1, e2, e3, if_pos m1, if_neg g]
    · refine Ev.step (fun k => ?_) (j1 false (by simp; intro h; exact absurd h m1))
      simp only [spec_wdShift.j0, e1, e2, e3, if_neg m1]
  simp only [spec_wdShift.f, shl_one hs]
  refine Ev.tt (Int.natCast_nonneg _) (Ev.ff (by omega) ?_)
  by_cases g : Int.tmod x (2 ^ s) < 0
  · refine Ev.tt g (key _ ?_)
    have hx0 : x < 0 := by
      apply Int.not_le.1
      intro h
      have := Int.tmod_nonneg (2 ^ s) h
      omega
    have e := Int.tdiv_eq_ediv (a := x) (b := 2 ^ s)
    have e0 : ¬ (0 ≤ x ∨ (2 : Int) ^ s ∣ x) := by
      rintro (h | h)
      · omega
      · rw [Int.tmod_eq_zero_of_dvd h] at g
        omega
    rw [if_neg e0, Int.sign_eq_one_of_pos hb] at e
    rw [e, w64 (n := x / 2 ^ s + 1) (by omega) (by omega), w64 (n := x / 2 ^ s + 1 - 1) (by omega) (by omega)]
    omega
  · refine Ev.ff g (key _ ?_)
    have e := Int.tdiv_eq_ediv (a := x) (b := 2 ^ s)
    have e0 : 0 ≤ x ∨ (2 : Int) ^ s ∣ x := by
      by_cases h : 0 ≤ x
      · exact .inl h
      · right
        have h2 : Int.tmod x (2 ^ s) ≤ 0 := by
          have := Int.tmod_nonneg (2 ^ s) (show 0 ≤ -x by omega)
          rw [Int.neg_tmod] at this
          omega
        exact Int.dvd_of_tmod_eq_zero (by omega)
    rw [if_pos e0] at e
    rw [e, w64 (n := x / 2 ^ s + 0) (by omega) (by omega)]
    omega

def numOk (x : Int) : Bool := decide (-1000000000000 ≤ x) && decide (x ≤ 1000000000000)
def modeOk (s mode : Int) : Bool := (decide (0 ≤ s) && decide (s ≤ 20)) && (decide (0 ≤ mode) && decide (mode ≤ 2))
theorem numOk_iff {x : Int} : numOk x = true ↔ -1000000000000 ≤ x ∧ x ≤ 1000000000000 := by simp [numOk]
theorem modeOk_iff {s m : Int} : modeOk s m = true ↔ (0 ≤ s ∧ s ≤ 20) ∧ (0 ≤ m ∧ m ≤ 2) := by simp [modeOk]

def roundM (x s mode : Int) : Int × Bool := if numOk x = true then (if modeOk s mode = true then (shM x (2 ^ s.toNat) mode, true) else (0, false)) else (0, false)
theorem impl_isNumber_eq (x : Int) : impl_isNumber.f x = some (numOk x) := by
  unfold impl_isNumber.f
  rw [impl_in_eq]
  rfl
theorem impl_isShift_eq (s m : Int) : impl_isShift.f s m = some (modeOk s m) := by
  unfold impl_isShift.f modeOk
  rw [impl_in_eq]
  simp only [Option.bind_some, impl_in_eq]
  by_cases c : (decide (0 ≤ s) && decide (s ≤ 20)) = true
  · rw [if_pos c, c, Bool.true_and]
  · rw [if_neg c, Bool.eq_false_iff.mpr c, Bool.false_and]
theorem impl_RoundShift_ev (x s m : Int) : Ev (fun k => impl_RoundShift.f k x s m) (roundM x s m) := by
  simp only [impl_RoundShift.f, roundM]
  refine Ev.dbind (impl_isNumber_eq x) ?_
  by_cases c : numOk x = true
  · rw [if_pos c]
    refine Ev.tt c (Ev.dbind (impl_isShift_eq s m) ?_)
    by_cases d : modeOk s m = true
    · rw [if_pos d]
      have d' := modeOk_iff.1 d
      have c' := numOk_iff.1 c
      obtain ⟨n, rfl⟩ : ∃ n : Nat, s = (n : Int) := ⟨s.toNat, by omega⟩
      rw [Int.toNat_natCast]
      exact Ev.tt d (Ev.bind (impl_shifted_ev x n m (by omega) (by omega)) (Ev.now _))
    · rw [if_neg d]
      exact Ev.ff d (Ev.now _)
  · rw [if_neg c]
    exact Ev.ff c (Ev.now _)

theorem spec_wdNumber_eq (x : Int) : spec_wdNumber.f x = some (numOk x) := by
  unfold spec_wdNumber.f
  rw [spec_l1In_eq]
  rfl

theorem spec_wdMode_eq (s m : Int) : spec_wdMode.f s m = some (modeOk s m) := by
  unfold spec_wdMode.f modeOk
  rw [spec_l1In_eq]
  simp only [Option.bind_some, spec_l1In_eq]
  by_cases c : (decide (0 ≤ s) && decide (s ≤ 20)) = true
  · rw [if_pos c, c, Bool.true_and]
  · rw [if_neg c, Bool.eq_false_iff.mpr c, Bool.false_and]

def goodB (b : Int) : Bool := decide (2 ≤ b) && decide (b ≤ 16)
def hf (b : Int) : Int := 2 ^ (b - 1).toNat
def fitH (h : Int) (w : Bool) (x : Int) : Int := if w = true then (x + h) % (2 * h) - h else if x < -h then -h else if h - 1 < x then h - 1 else x
theorem goodB_iff {b : Int} : goodB b = true ↔ 2 ≤ b ∧ b ≤ 16 := by simp [goodB]
theorem half {b : Int} (g : goodB b = true) : (2 ≤ hf b ∧ hf b ≤ 32768) ∧ wrap64 (b - 1) = b - 1 ∧ 0 ≤ b - 1 ∧ shl .i64 1 (b - 1) = hf b ∧ 0 ≤ b ∧ shl .i64 1 b = 2 * hf b := by
  have g' := goodB_iff.1 g
  obtain ⟨n, rfl⟩ : ∃ n : Nat, b = ((n + 1 : Nat) : Int) := ⟨(b - 1).toNat, by omega⟩
  have e : ((n + 1 : Nat) : Int) - 1 = (n : Int) := by omega
  have eh : hf ((n + 1 : Nat) : Int) = 2 ^ n := by rw [hf, e, Int.toNat_natCast]
  have h1 : (2 : Nat) ^ n ≤ 2 ^ 15 := Nat.pow_le_pow_right (by decide) (by omega)
  have h2 : (2 : Nat) ^ 1 ≤ 2 ^ n := Nat.pow_le_pow_right (by decide) (by omega)
  have h3 : (2 : Int) ^ n = (((2 : Nat) ^ n : Nat) : Int) := by simp
  have h4 : (2 : Nat) ^ 15 = 32768 := by decide
  have h5 : (2 : Nat) ^ 1 = 2 := by decide
  rw [eh, e, shl_one (s := n) (by omega), shl_one (s := n + 1) (by omega), Int.pow_succ]
  refine ⟨⟨by omega, by omega⟩, w64 (by omega) (by omega), by omega, rfl, by omega, by omega⟩
theorem mod_uniq {x b q r : Int} (h : x = q * b + r) (h0 : 0 ≤ r) (h1 : r < b) : x % b = r := by
  have hb : 0 < b := by omega
  exact ((Int.ediv_emod_unique (q := q) hb).2 ⟨by rw [h, Int.mul_comm]; omega, h0, h1⟩).2
theorem tmod_fix (a n : Int) (hn : 0 < n) (hn2 : n ≤ 1000000000) : Int.tmod (wrap64 (Int.tmod a n + n)) n = a % n := by
  have h0 := Int.emod_nonneg a (show n ≠ 0 by omega)
  have h1 := Int.emod_lt_of_pos a hn
  have e := Int.tmod_eq_emod (a := a) (b := n)
  have hb : Int.tmod a n = a % n ∨ Int.tmod a n = a % n - n := by
    rw [e]
    split
    · left; omega
    · right; omega
  rcases hb with hb | hb
  · rw [hb, w64 (n := a % n + n) (by omega) (by omega), Int.tmod_eq_emod_of_nonneg (by omega)]
    simp
  · rw [hb, Int.sub_add_cancel, w64 (n := a % n) (by omega) (by omega), Int.tmod_eq_emod_of_nonneg (by omega)]
    simp
theorem fitH_bd (h : Int) (w : Bool) (x : Int) (hh : 1 ≤ h) : -h ≤ fitH h w x ∧ fitH h w x ≤ h - 1 := by
  have h0 := Int.emod_nonneg (x + h) (show 2 * h ≠ 0 by omega)
  have h1 := Int.emod_lt_of_pos (x + h) (show 0 < 2 * h by omega)
  unfold fitH
  split
  · omega
  · split
    · omega
    · split <;> omega
theorem fitH_id (h : Int) (w : Bool) (x : Int) (h0 : -h ≤ x) (h1 : x ≤ h - 1) : fitH h w x = x := by
  unfold fitH
  by_cases c : w = true
  · rw [if_pos c, mod_uniq (x := x + h) (b := 2 * h) (q := 0) (r := x + h) (by omega) (by omega) (by omega)]
    omega
  · rw [if_neg c, if_neg (by omega), if_neg (by omega)]
theorem fitH_two (h x : Int) (hh : 1 ≤ h) : fitH h true x = if x % (2 * h) > h - 1 then x % (2 * h) - 2 * h else x % (2 * h) := by
  have h0 := Int.emod_nonneg x (show 2 * h ≠ 0 by omega)
  have h1 := Int.emod_lt_of_pos x (show 0 < 2 * h by omega)
  have hd := mod_eq x (2 * h)
  unfold fitH
  rw [if_pos rfl]
  split
  · rw [mod_uniq (x := x + h) (b := 2 * h) (q := x / (2 * h) + 1) (r := x % (2 * h) - h) (by rw [Int.add_mul]; omega) (by omega) (by omega)]
    omega
  · rw [mod_uniq (x := x + h) (b := 2 * h) (q := x / (2 * h)) (r := x % (2 * h) + h) (by omega) (by omega) (by omega)]
    omega
theorem fit_back (h x y : Int) (h0 : -h ≤ x) (h1 : x ≤ h - 1) : fitH h true (fitH h true (x + y) - y) = x := by
  have hd := mod_eq (x + y + h) (2 * h)
  have e : fitH h true (x + y) - y = x - (x + y + h) / (2 * h) * (2 * h) := by
    unfold fitH
    rw [if_pos rfl]
    omega
  rw [e]
  unfold fitH
  rw [if_pos rfl, mod_uniq (x := x - (x + y + h) / (2 * h) * (2 * h) + h) (b := 2 * h) (q := -((x + y + h) / (2 * h))) (r := x + h) (by rw [Int.neg_mul]; omega) (by omega) (by omega)]
  omega
theorem fit_dvd (h x : Int) : ∃ q, x - fitH h true x = 2 * h * q := by
  have hd := mod_eq (x + h) (2 * h)
  refine ⟨(x + h) / (2 * h), ?_⟩
  unfold fitH
  rw [if_pos rfl, Int.mul_comm (2 * h)]
  omega
def inW (b x : Int) : Bool := decide (-(hf b) ≤ x) && decide (x ≤ hf b - 1)
theorem inW_iff {b x : Int} : inW b x = true ↔ -(hf b) ≤ x ∧ x ≤ hf b - 1 := by simp [inW]
theorem ediv_in {x b M : Int} (hb : 0 < b) (hM : 0 ≤ M) (hx : -M ≤ x ∧ x ≤ M) : -M ≤ x / b ∧ x / b ≤ M := by
  have h1 : (-M) * b ≤ (-M) * 1 := Int.mul_le_mul_of_nonpos_left (by omega) (by omega)
  have h2 : M * 1 ≤ M * b := Int.mul_le_mul_of_nonneg_left (by omega) hM
  exact ⟨Int.le_ediv_of_mul_le hb (by omega), Int.ediv_le_of_le_mul hb (by omega)⟩
theorem shM_in {x b M : Int} (m : Int) (hb : 0 < b) (hM : 0 ≤ M) (hx : -M ≤ x ∧ x ≤ M) : -M ≤ shM x b m ∧ shM x b m ≤ M + 1 := by
  have := ediv_in hb hM hx
  unfold shM
  split
  · omega
  · split <;> omega

theorem impl_isWord_eq (b : Int) (w : Bool) : impl_isWord.f b w = some (goodB b) := by
  unfold impl_isWord.f
  rw [impl_in_eq]
  rfl

theorem spec_wdGood_eq (b : Int) (w : Bool) : spec_wdGood.f b w = some (goodB b) := by
  unfold spec_wdGood.f
  rw [spec_l1In_eq]
  rfl

theorem impl_IsWord_eq (b : Int) (w : Bool) : impl_IsWord.f b w = some (goodB b) := by
  unfold impl_IsWord.f
  rw [impl_isWord_eq]
  rfl
theorem spec_IsWord_eq (b : Int) (w : Bool) : spec_IsWord.f b w = some (goodB b) := by
  unfold spec_IsWord.f
  rw [spec_wdGood_eq]
  rfl

theorem impl_Word_ends_eq {b : Int} (w : Bool) (g : goodB b = true) : impl_Word_ends.f b w = some (-(hf b), hf b - 1) := by
  obtain ⟨h1, h2, h3, h4, h5, h6⟩ := half g
  unfold impl_Word_ends.f
  rw [h2, if_pos h3, h4, w64 (n := -(hf b)) (by omega) (by omega), w64 (n := hf b - 1) (by omega) (by omega)]

theorem impl_mod_eq (a n : Int) (hn : 0 < n) (hn2 : n ≤ 1000000000) : impl_mod.f a n = some (a % n) := by
  unfold impl_mod.f
  rw [if_neg (by omega), tmod_fix a n hn hn2]
theorem impl_Word_fit_eq {b : Int} (w : Bool) (x : Int) (g : goodB b = true) (hx : -4611686018427387904 ≤ x ∧ x ≤ 4611686018427387904) : impl_Word_fit.f b w x = some (fitH (hf b) w x) := by
  obtain ⟨h1, h2, h3, h4, h5, h6⟩ := half g
  have m0 := Int.emod_nonneg (x + hf b) (show 2 * hf b ≠ 0 by omega)
  have m1 := Int.emod_lt_of_pos (x + hf b) (show 0 < 2 * hf b by omega)
  have e1 : x - -(hf b) = x + hf b := by omega
  have e2 : hf b - 1 - -(hf b) = 2 * hf b - 1 := by omega
  have e3 : 2 * hf b - 1 + 1 = 2 * hf b := by omega
  unfold impl_Word_fit.f fitH
  rw [impl_Word_ends_eq w g]
  simp only [Option.bind_some]
  by_cases c : w = true
  · rw [if_pos c, if_pos c, e1, w64 (n := x + hf b) (by omega) (by omega), e2, w64 (n := 2 * hf b - 1) (by omega) (by omega), e3, w64 (n := 2 * hf b) (by omega) (by omega), impl_mod_eq _ _ (by omega) (by omega)]
    simp only [Option.bind_some]
    rw [w64 (n := (x + hf b) % (2 * hf b) + -(hf b)) (by omega) (by omega)]
    congr 1
  · rw [if_neg c, if_neg c]
    congr 1
    unfold mn mx
    repeat' split
    all_goals omega

theorem spec_wdHigh_eq {b : Int} (w : Bool) (g : goodB b = true) : spec_wdHigh.f b w = some (hf b - 1) := by
  obtain ⟨h1, h2, h3, h4, h5, h6⟩ := half g
  unfold spec_wdHigh.f
  rw [h2, if_pos h3, h4, w64 (n := hf b - 1) (by omega) (by omega)]

theorem spec_wdLow_eq {b : Int} (w : Bool) (g : goodB b = true) : spec_wdLow.f b w = some (-(hf b)) := by
  obtain ⟨h1, h2, h3, h4, h5, h6⟩ := half g
  unfold spec_wdLow.f
  rw [h2, if_pos h3, h4, w64 (n := -(hf b)) (by omega) (by omega)]

theorem spec_wdFit_eq {b : Int} (w : Bool) (x : Int) (g : goodB b = true) : spec_wdFit.f b w x = some (fitH (hf b) w x) := by
  obtain ⟨h1, h2, h3, h4, h5, h6⟩ := half g
  unfold spec_wdFit.f
  by_cases c : w = true
  · have m0 := Int.emod_nonneg x (show 2 * hf b ≠ 0 by omega)
    have m1 := Int.emod_lt_of_pos x (show 0 < 2 * hf b by omega)
    rw [if_pos c, if_pos h5, h6, if_neg (by omega), spec_wdHigh_eq w g, tmod_fix x _ (by omega) (by omega)]
    simp only [Option.bind_some]
    rw [c, fitH_two _ _ (by omega)]
    by_cases d : x % (2 * hf b) > hf b - 1
    · rw [if_pos d, if_pos d, w64 (n := x % (2 * hf b) - 2 * hf b) (by omega) (by omega)]
    · rw [if_neg d, if_neg d]
  · rw [if_neg c, spec_wdHigh_eq w g, spec_wdLow_eq w g]
    simp only [Option.bind_some, spec_l1Most.f, spec_l1Least.f]
    unfold fitH
    rw [if_neg c]
    by_cases d : -(hf b) > x
    · rw [if_pos d]
      simp only [Option.bind_some]
      rw [if_neg (show ¬ hf b - 1 < -(hf b) by omega), if_pos (show x < -(hf b) by omega)]
      rfl
    · rw [if_neg d]
      simp only [Option.bind_some]
      rw [if_neg (show ¬ x < -(hf b) by omega)]
      by_cases e : hf b - 1 < x
      · rw [if_pos e, if_pos e]
        rfl
      · rw [if_neg e, if_neg e]
        rfl

def fitN (b : Int) (w : Bool) (x : Int) : Int × Bool := if goodB b = true then (if numOk x = true then (fitH (hf b) w x, true) else (0, false)) else (0, false)
theorem impl_FitNumber_eq (b : Int) (w : Bool) (x : Int) : impl_FitNumber.f b w x = some (fitN b w x) := by
  unfold impl_FitNumber.f fitN
  rw [impl_isWord_eq]
  simp only [Option.bind_some]
  by_cases g : goodB b = true
  · rw [if_pos g, if_pos g, impl_isNumber_eq]
    simp only [Option.bind_some]
    by_cases n : numOk x = true
    · have n' := numOk_iff.1 n
      rw [if_pos n, if_pos n, impl_Word_fit_eq w x g (by omega)]
      rfl
    · rw [if_neg n, if_neg n]
  · rw [if_neg g, if_neg g]

theorem spec_FitNumber_eq (b : Int) (w : Bool) (x : Int) : spec_FitNumber.f b w x = some (fitN b w x) := by
  unfold spec_FitNumber.f fitN
  rw [spec_wdGood_eq]
  simp only [Option.bind_some]
  by_cases g : goodB b = true
  · rw [if_pos g, if_pos g, spec_wdNumber_eq]
    simp only [Option.bind_some]
    by_cases n : numOk x = true
    · rw [if_pos n, if_pos n, spec_wdFit_eq w x g]
      rfl
    · rw [if_neg n, if_neg n]
  · rw [if_neg g, if_neg g]

def rangeM (b : Int) : Int × Int × Bool := if goodB b = true then (-(hf b), hf b - 1, true) else (0, 0, false)
theorem impl_RangeOf_eq (b : Int) (w : Bool) : impl_RangeOf.f b w = some (rangeM b) := by
  unfold impl_RangeOf.f rangeM
  rw [impl_isWord_eq]
  simp only [Option.bind_some]
  by_cases g : goodB b = true
  · rw [if_pos g, if_pos g, impl_Word_ends_eq w g]
    rfl
  · rw [if_neg g, if_neg g]
theorem spec_RangeOf_eq (b : Int) (w : Bool) : spec_RangeOf.f b w = some (rangeM b) := by
  unfold spec_RangeOf.f rangeM
  rw [spec_wdGood_eq]
  simp only [Option.bind_some]
  by_cases g : goodB b = true
  · rw [if_pos g, if_pos g, spec_wdLow_eq w g, spec_wdHigh_eq w g]
    rfl
  · rw [if_neg g, if_neg g]

theorem impl_Word_has_eq {b : Int} (w : Bool) (x : Int) (g : goodB b = true) : impl_Word_has.f b w x = some (inW b x) := by
  unfold impl_Word_has.f
  rw [impl_Word_ends_eq w g]
  simp only [Option.bind_some, impl_in_eq]
  rfl

theorem spec_wdIn_eq (b : Int) (w : Bool) (x : Int) : spec_wdIn.f b w x = some (if goodB b = true then inW b x else false) := by
  unfold spec_wdIn.f
  rw [spec_wdGood_eq]
  simp only [Option.bind_some]
  by_cases g : goodB b = true
  · rw [if_pos g, if_pos g, spec_wdLow_eq w g, spec_wdHigh_eq w g]
    simp only [Option.bind_some, spec_l1In_eq]
    rfl
  · rw [if_neg g, if_neg g]

def bothIn (b x y : Int) : Bool := goodB b && inW b x && inW b y
theorem bothIn_iff {b x y : Int} : bothIn b x y = true ↔ goodB b = true ∧ inW b x = true ∧ inW b y = true := by
  simp [bothIn, and_assoc]
def addN (b : Int) (w : Bool) (x y : Int) : Int × Bool := if bothIn b x y = true then (fitH (hf b) w (x + y), true) else (0, false)
def lessN (b : Int) (w : Bool) (x y : Int) : Int × Bool := if bothIn b x y = true then (fitH (hf b) w (x - y), true) else (0, false)
theorem impl_AddIn_eq (b : Int) (w : Bool) (x y : Int) : impl_AddIn.f b w x y = some (addN b w x y) := by
  unfold impl_AddIn.f addN
  rw [impl_isWord_eq]
  simp only [Option.bind_some]
  by_cases g : goodB b = true
  · have hg := half g
    rw [if_pos g, impl_Word_has_eq w x g]
    simp only [Option.bind_some]
    by_cases c : inW b x = true
    · rw [if_pos c, impl_Word_has_eq w y g]
      simp only [Option.bind_some]
      by_cases d : inW b y = true
      · have c' := inW_iff.1 c
        have d' := inW_iff.1 d
        rw [if_pos d, if_pos (bothIn_iff.2 ⟨g, c, d⟩), w64 (n := x + y) (by omega) (by omega), impl_Word_fit_eq w _ g (by omega)]
        rfl
      · rw [if_neg d, if_neg (fun h => d (bothIn_iff.1 h).2.2)]
    · rw [if_neg c, if_neg (fun h => c (bothIn_iff.1 h).2.1)]
  · rw [if_neg g, if_neg (fun h => g (bothIn_iff.1 h).1)]
theorem impl_LessIn_eq (b : Int) (w : Bool) (x y : Int) : impl_LessIn.f b w x y = some (lessN b w x y) := by
  unfold impl_LessIn.f lessN
  rw [impl_isWord_eq]
  simp only [Option.bind_some]
  by_cases g : goodB b = true
  · have hg := half g
    rw [if_pos g, impl_Word_has_eq w x g]
    simp only [Option.bind_some]
    by_cases c : inW b x = true
    · rw [if_pos c, impl_Word_has_eq w y g]
      simp only [Option.bind_some]
      by_cases d : inW b y = true
      · have c' := inW_iff.1 c
        have d' := inW_iff.1 d
        rw [if_pos d, if_pos (bothIn_iff.2 ⟨g, c, d⟩), w64 (n := x - y) (by omega) (by omega), impl_Word_fit_eq w _ g (by omega)]
        rfl
      · rw [if_neg d, if_neg (fun h => d (bothIn_iff.1 h).2.2)]
    · rw [if_neg c, if_neg (fun h => c (bothIn_iff.1 h).2.1)]
  · rw [if_neg g, if_neg (fun h => g (bothIn_iff.1 h).1)]
theorem spec_AddIn_eq (b : Int) (w : Bool) (x y : Int) : spec_AddIn.f b w x y = some (addN b w x y) := by
  unfold spec_AddIn.f addN
  rw [spec_wdIn_eq]
  simp only [Option.bind_some, spec_wdIn_eq]
  by_cases g : goodB b = true
  · have hg := half g
    rw [if_pos g]
    by_cases c : inW b x = true
    · rw [if_pos c, if_pos g]
      by_cases d : inW b y = true
      · have c' := inW_iff.1 c
        have d' := inW_iff.1 d
        rw [if_pos d, if_pos (bothIn_iff.2 ⟨g, c, d⟩), w64 (n := x + y) (by omega) (by omega), spec_wdFit_eq w _ g]
        rfl
      · rw [if_neg d, if_neg (fun h => d (bothIn_iff.1 h).2.2)]
    · rw [if_neg c, if_neg (fun h => c (bothIn_iff.1 h).2.1)]
  · rw [if_neg g, if_neg (by simp), if_neg (fun h => g (bothIn_iff.1 h).1)]
theorem spec_LessIn_eq (b : Int) (w : Bool) (x y : Int) : spec_LessIn.f b w x y = some (lessN b w x y) := by
  unfold spec_LessIn.f lessN
  rw [spec_wdIn_eq]
  simp only [Option.bind_some, spec_wdIn_eq]
  by_cases g : goodB b = true
  · have hg := half g
    rw [if_pos g]
    by_cases c : inW b x = true
    · rw [if_pos c, if_pos g]
      by_cases d : inW b y = true
      · have c' := inW_iff.1 c
        have d' := inW_iff.1 d
        rw [if_pos d, if_pos (bothIn_iff.2 ⟨g, c, d⟩), w64 (n := x - y) (by omega) (by omega), spec_wdFit_eq w _ g]
        rfl
      · rw [if_neg d, if_neg (fun h => d (bothIn_iff.1 h).2.2)]
    · rw [if_neg c, if_neg (fun h => c (bothIn_iff.1 h).2.1)]
  · rw [if_neg g, if_neg (by simp), if_neg (fun h => g (bothIn_iff.1 h).1)]

def timesOk (b x y s m : Int) : Bool := bothIn b x y && modeOk s m
theorem timesOk_iff {b x y s m : Int} : timesOk b x y s m = true ↔ bothIn b x y = true ∧ modeOk s m = true := by simp [timesOk]
def timesN (b : Int) (w : Bool) (x y s m : Int) : Int × Bool := if timesOk b x y s m = true then (fitH (hf b) w (shM (x * y) (2 ^ s.toNat) m), true) else (0, false)
theorem sq_in {b x y : Int} (h : hf b ≤ 32768) (hx : -(hf b) ≤ x ∧ x ≤ hf b - 1) (hy : -(hf b) ≤ y ∧ y ≤ hf b - 1) : -1073741824 ≤ x * y ∧ x * y ≤ 1073741824 := by
  have h1 : (x.natAbs * y.natAbs : Nat) ≤ 32768 * 32768 := Nat.mul_le_mul (by omega) (by omega)
  have h2 := Int.natAbs_mul x y
  omega
theorem impl_TimesIn_ev (b : Int) (w : Bool) (x y s m : Int) : Ev (fun k => impl_TimesIn.f k b w x y s m) (timesN b w x y s m) := by
  have fail : Ev (fun k => impl_TimesIn.j0 k x y s m true b w) ((0 : Int), false) := Ev.step (f := fun _ => some (0, false)) (fun k => by simp [impl_TimesIn.j0]) (Ev.now _)
  simp only [impl_TimesIn.f, timesN]
  refine Ev.dbind (impl_isWord_eq b w) ?_
  by_cases g : goodB b = true
  · have hg := half g
    refine Ev.tt g (Ev.dbind (impl_Word_has_eq w x g) ?_)
    by_cases c : inW b x = true
    · refine Ev.tt c (Ev.dbind (impl_Word_has_eq w y g) ?_)
      by_cases d : inW b y = true
      · have c' := inW_iff.1 c
        have d' := inW_iff.1 d
        have hxy := sq_in hg.1.2 c' d'
        refine Ev.tt d (Ev.dbind (impl_isShift_eq s m) ?_)
        by_cases e : modeOk s m = true
        · have e' := modeOk_iff.1 e
          obtain ⟨n, rfl⟩ : ∃ n : Nat, s = (n : Int) := ⟨s.toNat, by omega⟩
          have hsh := shM_in (M := 1073741824) m (pow2_pos n) (by omega) hxy
          rw [e, if_pos (timesOk_iff.2 ⟨bothIn_iff.2 ⟨g, c, d⟩, e⟩), Int.toNat_natCast]
          refine Ev.step (fun k => by simp only [impl_TimesIn.j0]; rfl) ?_
          rw [w64 (n := x * y) (by omega) (by omega)]
          refine Ev.ff (by decide) (Ev.bind (impl_shifted_ev (x * y) n m (by omega) (by omega)) (Ev.dbind (impl_Word_fit_eq w _ g (by omega)) (Ev.now _)))
        · rw [Bool.eq_false_iff.mpr e, if_neg (fun h => e (timesOk_iff.1 h).2)]
          exact fail
      · rw [if_neg (fun h => d (bothIn_iff.1 (timesOk_iff.1 h).1).2.2)]
        exact Ev.ff d fail
    · rw [if_neg (fun h => c (bothIn_iff.1 (timesOk_iff.1 h).1).2.1)]
      exact Ev.ff c fail
  · rw [if_neg (fun h => g (bothIn_iff.1 (timesOk_iff.1 h).1).1)]
    exact Ev.ff g fail
theorem spec_TimesIn_ev (b : Int) (w : Bool) (x y s m : Int) : Ev (fun k => spec_TimesIn.f k b w x y s m) (timesN b w x y s m) := by
  have fail : Ev (fun k => spec_TimesIn.j0 k x y s m true b w) ((0 : Int), false) := Ev.step (f := fun _ => some (0, false)) (fun k => by simp [spec_TimesIn.j0]) (Ev.now _)
  simp only [spec_TimesIn.f, timesN]
  refine Ev.dbind (spec_wdIn_eq b w x) ?_
  by_cases g : goodB b = true
  · have hg := half g
    rw [if_pos g]
    by_cases c : inW b x = true
    · refine Ev.tt c (Ev.dbind (spec_wdIn_eq b w y) ?_)
      rw [if_pos g]
      by_cases d : inW b y = true
      · have c' := inW_iff.1 c
        have d' := inW_iff.1 d
        have hxy := sq_in hg.1.2 c' d'
        refine Ev.tt d (Ev.dbind (spec_wdMode_eq s m) ?_)
        by_cases e : modeOk s m = true
        · have e' := modeOk_iff.1 e
          obtain ⟨n, rfl⟩ : ∃ n : Nat, s = (n : Int) := ⟨s.toNat, by omega⟩
          rw [e, if_pos (timesOk_iff.2 ⟨bothIn_iff.2 ⟨g, c, d⟩, e⟩), Int.toNat_natCast]
          refine Ev.step (fun k => by simp only [spec_TimesIn.j0]; rfl) ?_
          rw [w64 (n := x * y) (by omega) (by omega)]
          refine Ev.ff (by decide) (Ev.bind (spec_wdShift_ev (x * y) n m (by omega) (by omega)) (Ev.dbind (spec_wdFit_eq w _ g) (Ev.now _)))
        · rw [Bool.eq_false_iff.mpr e, if_neg (fun h => e (timesOk_iff.1 h).2)]
          exact fail
      · rw [if_neg (fun h => d (bothIn_iff.1 (timesOk_iff.1 h).1).2.2)]
        exact Ev.ff d fail
    · rw [if_neg (fun h => c (bothIn_iff.1 (timesOk_iff.1 h).1).2.1)]
      exact Ev.ff c fail
  · rw [if_neg g, if_neg (fun h => g (bothIn_iff.1 (timesOk_iff.1 h).1).1)]
    exact Ev.ff (by simp) fail

theorem word_ok {l : List Int} (hl : Bytes l) (a sd : Int) (h0 : 0 ≤ a) (h1 : a ≤ 10000000000000) : ∃ b w a' sd', spec_l1Cur_word.f l a sd = some (b, w, a', sd') ∧ a ≤ a' ∧ a' ≤ a + 10 := by
  unfold spec_l1Cur_word.f
  obtain ⟨v, a1, sd1, e1, ha1, hb1, -⟩ := one_ok hl a sd 12 h0 (by omega) (by omega)
  rw [e1]
  simp only [Option.bind_some]
  by_cases c : v = true
  · rw [if_pos c]
    obtain ⟨u, a2, sd2, e2, ha2, hb2, -⟩ := among_ok hl a1 sd1 [(-1), 1, 2, 16, 17, 4611686018427387904] (by omega) (by omega) (by simp) (by simp)
    rw [e2]
    simp only [Option.bind_some]
    obtain ⟨u3, a3, sd3, e3, ha3, hb3, -⟩ := one_ok hl a2 sd2 2 (by omega) (by omega) (by omega)
    rw [e3]
    simp only [Option.bind_some]
    exact ⟨_, _, _, _, rfl, by omega, by omega⟩
  · rw [if_neg c]
    obtain ⟨u, a2, sd2, e2, ha2, hb2, -⟩ := pick_ok hl a1 sd1 7 (by omega) (by omega) (by omega)
    rw [e2]
    simp only [Option.bind_some]
    obtain ⟨u3, a3, sd3, e3, ha3, hb3, -⟩ := one_ok hl a2 sd2 2 (by omega) (by omega) (by omega)
    rw [e3]
    simp only [Option.bind_some]
    exact ⟨_, _, _, _, rfl, by omega, by omega⟩

theorem inWord_ok {l : List Int} (hl : Bytes l) (a sd : Int) (b : Int) (w : Bool) (h0 : 0 ≤ a) (h1 : a ≤ 1000000000000) : ∃ v a' sd', Ev (fun k => spec_l1Cur_inWord.f k l a sd b w) (v, a', sd') ∧ a ≤ a' ∧ a' ≤ a + 20 ∧ (-4611686018427387904 ≤ v ∧ v ≤ 4611686018427387904) := by
  have plain : ∀ a sd : Int, 0 ≤ a → a ≤ 2000000000000 → ∃ v a' sd', Ev (fun k => spec_l1Cur_inWord.j0 k true l a sd b w) (v, a', sd') ∧ a ≤ a' ∧ a' ≤ a + 10 ∧ (-4611686018427387904 ≤ v ∧ v ≤ 4611686018427387904) := by
    intro a sd h0 h1
    obtain ⟨v, a1, sd1, e1, ha1, hb1, hv⟩ := number_ok hl a sd h0 (by omega)
    refine ⟨v, a1, sd1, ?_, ha1, hb1, hv⟩
    refine Ev.step (f := fun _ => some (v, a1, sd1)) (fun k => ?_) (Ev.now _)
    simp only [spec_l1Cur_inWord.j0, e1, Option.bind_some]
    rfl
  simp only [spec_l1Cur_inWord.f, spec_wdGood_eq, Option.bind_some]
  by_cases g : goodB b = true
  · obtain ⟨g1, g2, g3, g4, g5, g6⟩ := half g
    obtain ⟨v, a1, sd1, e1, ha1, hb1, -⟩ := one_ok hl a sd 12 h0 (by omega) (by omega)
    by_cases c : v = true
    · subst c
      obtain ⟨v, a', sd', h, ha, hb, hv⟩ := plain a1 sd1 (by omega) (by omega)
      exact ⟨v, a', sd', Ev.tt g (by simpa only [e1, Option.bind_some] using h), by omega, by omega, hv⟩
    · obtain ⟨u, a2, sd2, e2, ha2, hb2, hu, hu2⟩ := pick_ok hl a1 sd1 5 (by omega) (by omega) (by omega)
      by_cases d : u = 0
      · refine ⟨-(hf b), a2, sd2, Ev.tt g ?_, by omega, by omega, by omega, by omega⟩
        simp only [e1, Option.bind_some]
        refine Ev.step (f := fun _ => some (-(hf b), a2, sd2)) (fun k => ?_) (Ev.now _)
        simp only [spec_l1Cur_inWord.j0, if_neg c, e2, Option.bind_some, if_pos d, spec_wdLow_eq w g]
      · by_cases d1 : u = 1
        · refine ⟨hf b - 1, a2, sd2, Ev.tt g ?_, by omega, by omega, by omega, by omega⟩
          simp only [e1, Option.bind_some]
          refine Ev.step (f := fun _ => some (hf b - 1, a2, sd2)) (fun k => ?_) (Ev.now _)
          simp only [spec_l1Cur_inWord.j0, if_neg c, e2, Option.bind_some, if_neg d, if_pos d1, spec_wdHigh_eq w g]
        · obtain ⟨z, a3, sd3, e3, ha3, hb3, hz, hz2⟩ := pick_ok hl a2 sd2 256 (by omega) (by omega) (by omega)
          have m0 := Int.emod_nonneg (z * 257) (show 2 * hf b ≠ 0 by omega)
          have m1 := Int.emod_lt_of_pos (z * 257) (show 0 < 2 * hf b by omega)
          refine ⟨-(hf b) + (z * 257) % (2 * hf b), a3, sd3, Ev.tt g ?_, by omega, by omega, by omega, by omega⟩
          simp only [e1, Option.bind_some]
          refine Ev.step (f := fun _ => some (-(hf b) + (z * 257) % (2 * hf b), a3, sd3)) (fun k => ?_) (Ev.now _)
          simp only [spec_l1Cur_inWord.j0, if_neg c, e2, Option.bind_some, if_neg d, if_neg d1, spec_wdLow_eq w g, e3, if_pos g5, g6]
          rw [if_neg (by omega), w64 (n := z * 257) (by omega) (by omega), Int.tmod_eq_emod_of_nonneg (by omega), w64 (n := -(hf b) + z * 257 % (2 * hf b)) (by omega) (by omega)]
  · obtain ⟨v, a', sd', h, ha, hb, hv⟩ := plain a sd h0 (by omega)
    exact ⟨v, a', sd', Ev.ff g h, by omega, by omega, hv⟩

theorem law_j6 (b : Int) (w : Bool) (x y s m : Int) : Ev (fun k => laws_FnWordsFit.j6 k x y s m (timesN b w x y s m).1 (timesN b w x y s m).2 false b w) true := by
  by_cases c : timesOk b x y s m = true
  · have c' := timesOk_iff.1 c
    obtain ⟨g, c1, c2⟩ := bothIn_iff.1 c'.1
    have hg := half g
    have d := modeOk_iff.1 c'.2
    have hxy := sq_in hg.1.2 (inW_iff.1 c1) (inW_iff.1 c2)
    obtain ⟨n, rfl⟩ : ∃ n : Nat, s = (n : Int) := ⟨s.toNat, by omega⟩
    have hsh := shM_in (M := 1073741824) m (pow2_pos n) (by omega) hxy
    have e0 : timesN b w x y (n : Int) m = (fitH (hf b) w (shM (x * y) (2 ^ n) m), true) := by rw [timesN, if_pos c, Int.toNat_natCast]
    have e1 : roundM (x * y) (n : Int) m = (shM (x * y) (2 ^ n) m, true) := by rw [roundM, if_pos (numOk_iff.2 (by omega)), if_pos c'.2, Int.toNat_natCast]
    have e2 : fitN b w (shM (x * y) (2 ^ n) m) = (fitH (hf b) w (shM (x * y) (2 ^ n) m), true) := by rw [fitN, if_pos g, if_pos (numOk_iff.2 (by omega))]
    rw [e0]
    refine Ev.step (fun k => by simp only [laws_FnWordsFit.j6]; rfl) ?_
    refine Ev.ff (by simp) (Ev.tt trivial (Ev.bind (r := true) (impl_RoundShift_ev _ _ _) ?_))
    rw [w64 (n := x * y) (by omega) (by omega), e1]
    refine Ev.dbind (impl_FitNumber_eq _ _ _) ?_
    rw [e2]
    exact Ev.tt rfl (Ev.tt rfl (Ev.to (Ev.now _) (by simp)))
  · have e0 : timesN b w x y s m = (0, false) := by rw [timesN, if_neg c]
    rw [e0]
    exact Ev.step (f := fun _ => some true) (fun k => by simp [laws_FnWordsFit.j6]) (Ev.now _)
theorem law_j5 {l : List Int} (hl : Bytes l) : Ev (fun k => laws_FnWordsFit.j5 k l) true := by
  obtain ⟨b, w, a1, sd1, e1, ha1, hb1⟩ := word_ok hl 0 0 (by omega) (by omega)
  obtain ⟨x, a2, sd2, e2, ha2, hb2, hx⟩ := inWord_ok hl a1 sd1 b w (by omega) (by omega)
  obtain ⟨y, a3, sd3, e3, ha3, hb3, hy⟩ := inWord_ok hl a2 sd2 b w (by omega) (by omega)
  obtain ⟨s, a4, sd4, e4, ha4, hb4, hs⟩ := shift_ok hl a3 sd3 (by omega) (by omega)
  obtain ⟨m, a5, sd5, e5, ha5, hb5, hm⟩ := mode_ok hl a4 sd4 (by omega) (by omega)
  have hd : Ev (fun k => spec_DrawTimesIn.f k l) (b, w, x, y, s, m) := by
    simp only [spec_DrawTimesIn.f]
    refine Ev.dbind e1 (Ev.bind e2 (Ev.bind e3 (Ev.dbind e4 (Ev.dbind e5 (Ev.now _)))))
  refine Ev.step (fun k => by simp only [laws_FnWordsFit.j5]; rfl) ?_
  refine Ev.bind hd (Ev.bind (impl_TimesIn_ev _ _ _ _ _ _) (Ev.bind (spec_TimesIn_ev _ _ _ _ _ _) ?_))
  refine Ev.ff (by simp) ?_
  have := law_j6 b w x y s m
  simpa using this
theorem law_j2 {l : List Int} (hl : Bytes l) : Ev (fun k => laws_FnWordsFit.j2 k l) true := by
  obtain ⟨b, w, a1, sd1, e1, ha1, hb1⟩ := word_ok hl 0 0 (by omega) (by omega)
  obtain ⟨x, a2, sd2, e2, ha2, hb2, hx⟩ := inWord_ok hl a1 sd1 b w (by omega) (by omega)
  obtain ⟨y, a3, sd3, e3, ha3, hb3, hy⟩ := inWord_ok hl a2 sd2 b w (by omega) (by omega)
  have hd : Ev (fun k => spec_DrawAddIn.f k l) (b, w, x, y) := by
    simp only [spec_DrawAddIn.f]
    refine Ev.dbind e1 (Ev.bind e2 (Ev.bind e3 (Ev.now _)))
  have h5 := law_j5 hl
  refine Ev.step (fun k => by simp only [laws_FnWordsFit.j2]; rfl) ?_
  refine Ev.bind hd (Ev.dbind (impl_AddIn_eq _ _ _ _) (Ev.dbind (spec_AddIn_eq _ _ _ _) (Ev.dbind (impl_LessIn_eq _ _ _ _) (Ev.dbind (spec_LessIn_eq _ _ _ _) ?_))))
  dsimp only
  refine Ev.ff (by simp) (Ev.tt rfl (Ev.ff (by simp) (Ev.tt rfl ?_)))
  by_cases c : bothIn b x y = true
  · obtain ⟨g, c1, c2⟩ := bothIn_iff.1 c
    have hg := half g
    have c1' := inW_iff.1 c1
    have c2' := inW_iff.1 c2
    have hf1 := fitH_bd (hf b) w (x + y) (by omega)
    have s0 : addN b w x y = (fitH (hf b) w (x + y), true) := by rw [addN, if_pos c]
    have s1 : addN b w y x = (fitH (hf b) w (x + y), true) := by rw [addN, if_pos (bothIn_iff.2 ⟨g, c2, c1⟩), Int.add_comm y x]
    have s2 : lessN b w x y = (fitH (hf b) w (x - y), true) := by rw [lessN, if_pos c]
    rw [s0, s2]
    refine Ev.step (fun k => by simp only [laws_FnWordsFit.j3]; rfl) ?_
    refine Ev.ff (by simp) (Ev.tt trivial (Ev.dbind (impl_AddIn_eq _ _ _ _) ?_))
    rw [s1]
    refine Ev.tt rfl (Ev.step (fun k => by simp only [laws_FnWordsFit.j4]; rfl) ?_)
    refine Ev.ff (by simp) ?_
    by_cases d : w = true
    · subst d
      refine Ev.tt rfl (Ev.dbind (impl_LessIn_eq _ _ _ _) ?_)
      have s3 : lessN b true (fitH (hf b) true (x + y)) y = (x, true) := by
        rw [lessN, if_pos (bothIn_iff.2 ⟨g, inW_iff.2 hf1, c2⟩), fit_back _ _ _ c1'.1 c1'.2]
      rw [s3]
      exact Ev.tt rfl (Ev.tt rfl h5)
    · refine Ev.ff d (Ev.dbind (impl_FitNumber_eq _ _ _) ?_)
      have s3 : fitN b w (wrap64 (x + y)) = (fitH (hf b) w (x + y), true) := by
        rw [w64 (n := x + y) (by omega) (by omega), fitN, if_pos g, if_pos (numOk_iff.2 (by omega))]
      rw [s3]
      exact Ev.tt rfl (Ev.tt rfl h5)
  · have s0 : addN b w x y = (0, false) := by rw [addN, if_neg c]
    have s2 : lessN b w x y = (0, false) := by rw [lessN, if_neg c]
    rw [s0, s2]
    refine Ev.step (fun k => by simp only [laws_FnWordsFit.j3]; rfl) ?_
    exact Ev.ff (by simp) (Ev.ff (by simp) h5)
theorem law_j1 {l : List Int} (hl : Bytes l) {b : Int} (w : Bool) (x : Int) (g : goodB b = true) (hx : -1000000000000 ≤ x ∧ x ≤ 1000000000000) : Ev (fun k => laws_FnWordsFit.j1 k l x (fitH (hf b) w x) (-(hf b)) (hf b - 1) false b w) true := by
  have h2 := law_j2 hl
  obtain ⟨g1, g2, g3, g4, g5, g6⟩ := half g
  refine Ev.step (fun k => by simp only [laws_FnWordsFit.j1]; rfl) (Ev.ff (by decide) ?_)
  by_cases d : w = true
  · subst d
    have hb := fitH_bd (hf b) true x (by omega)
    obtain ⟨q, hq⟩ := fit_dvd (hf b) x
    rw [g6, w64 (n := x - fitH (hf b) true x) (by omega) (by omega)]
    refine Ev.tt rfl (Ev.tt g5 (Ev.ff (by omega) (Ev.tt ?_ h2)))
    exact Int.tmod_eq_zero_of_dvd ⟨q, hq⟩
  · refine Ev.ff d ?_
    have e : fitH (hf b) w x = if x < -(hf b) then -(hf b) else if hf b - 1 < x then hf b - 1 else x := by rw [fitH, if_neg d]
    rw [e]
    by_cases c1 : x < -(hf b)
    · rw [if_pos c1]
      exact Ev.ff (by omega) (Ev.tt c1 (Ev.tt rfl (Ev.ff (by omega) h2)))
    · rw [if_neg c1]
      by_cases c2 : hf b - 1 < x
      · rw [if_pos c2]
        exact Ev.tt (by omega) (Ev.ff (by omega) (Ev.ff c1 (Ev.tt (by omega) (Ev.tt rfl h2))))
      · rw [if_neg c2]
        exact Ev.tt (by omega) (Ev.tt (by omega) (Ev.tt rfl (Ev.ff c1 (Ev.ff (by omega) h2))))
theorem FnWordsFit : laws_FnWordsFit.Pure := by
  intro l m h1 h2 h3 h4 h5 h6
  apply Ev.rounds
  simp only [laws_FnWordsFit.f]
  refine Ev.dbind (laws_big_eq l m (by omega) (by omega)) ?_
  by_cases big : 1048576 < l.length + m.length
  · exact Ev.tt (by simpa using big) (Ev.now _)
  refine Ev.ff (by simpa using big) ?_
  have hl : Bytes l := bytes_of (by omega) h3
  have hm : Bytes m := bytes_of (by omega) h6
  obtain ⟨b, w, a1, sd1, e1, ha1, hb1⟩ := word_ok hl 0 0 (by omega) (by omega)
  obtain ⟨x, a2, sd2, e2, ha2, hb2, hx⟩ := number_ok hl a1 sd1 (by omega) (by omega)
  have hd : spec_DrawFitNumber.f l = some (b, w, x) := by
    simp only [spec_DrawFitNumber.f, e1, e2, Option.bind_some]
  refine Ev.dbind hd (Ev.dbind (impl_FitNumber_eq _ _ _) (Ev.dbind (spec_FitNumber_eq _ _ _) (Ev.dbind (impl_RangeOf_eq _ _) (Ev.dbind (spec_RangeOf_eq _ _) ?_))))
  dsimp only
  refine Ev.ff (by simp) (Ev.tt rfl (Ev.ff (by simp) (Ev.tt rfl (Ev.tt rfl (Ev.dbind (impl_IsWord_eq _ _) ?_)))))
  have er : (rangeM b).2.2 = goodB b := by
    unfold rangeM
    split
    · simp [*]
    · simp [*]
  refine Ev.ff (by rw [er]; simp) (Ev.dbind (impl_IsWord_eq _ _) (Ev.dbind (spec_IsWord_eq _ _) (Ev.ff (by simp) ?_)))
  by_cases c : goodB b = true ∧ numOk x = true
  · have n := numOk_iff.1 c.2
    obtain ⟨g1, g2, g3, g4, g5, g6⟩ := half c.1
    have ef : fitN b w x = (fitH (hf b) w x, true) := by rw [fitN, if_pos c.1, if_pos c.2]
    have hb := fitH_bd (hf b) w x (by omega)
    have ef2 : fitN b w (fitH (hf b) w x) = (fitH (hf b) w x, true) := by
      rw [fitN, if_pos c.1, if_pos (numOk_iff.2 (by omega)), fitH_id _ _ _ hb.1 hb.2]
    have er2 : rangeM b = (-(hf b), hf b - 1, true) := by rw [rangeM, if_pos c.1]
    rw [ef, er2]
    refine Ev.tt rfl (Ev.step (fun k => by simp only [laws_FnWordsFit.j0]; rfl) ?_)
    refine Ev.ff (by simp) (Ev.tt trivial (Ev.dbind (impl_FitNumber_eq _ _ _) ?_))
    rw [ef2]
    refine Ev.tt rfl (Ev.tt rfl (Ev.ff (by omega) (Ev.ff (by omega) (Ev.tt g5 ?_))))
    have e3 : hf b - 1 - -(hf b) = 2 * hf b - 1 := by omega
    have e4 : 2 * hf b - 1 + 1 = 2 * hf b := by omega
    have e5 : -(hf b) + (hf b - 1) = -1 := by omega
    rw [e3, w64 (n := 2 * hf b - 1) (by omega) (by omega), e4, w64 (n := 2 * hf b) (by omega) (by omega), g6, e5]
    have e6 : (wrap64 (-1) != -1) = false := by
      rw [w64 (n := -1) (by omega) (by omega)]
      rfl
    rw [e6]
    exact Ev.tt rfl (law_j1 hm w x c.1 n)
  · have ef : fitN b w x = (0, false) := by
      unfold fitN
      by_cases a : goodB b = true
      · rw [if_pos a, if_neg (fun h => c ⟨a, h⟩)]
      · rw [if_neg a]
    rw [ef]
    refine Ev.ff (by simp) (Ev.step (fun k => by simp only [laws_FnWordsFit.j0]; rfl) ?_)
    exact Ev.ff (by simp) (Ev.ff (by simp) (law_j2 hm))

end Go.Proofs.Ythpdpbjgdndnmaa.Pure
