/- FnFirstCycles: the plain law behind the statement FnFirstCycles. No condition. -/
import Derived.Test.YtjplcongellcmaaPFnFirstCyclesx15
namespace Go.Proofs.Ytjplcongellcmaa.Pure
open Go.RowKit Go.Proofs.Ytjplcongellcmaa.PFnFirstCycles Go.Proofs.YtjplcongellcmaaW.PrintWords Go.Proofs.YtjplcongellcmaaW.PrintLast Go.Proofs.YtjplcongellcmaaW.PrintMore
set_option linter.unusedVariables false
set_option linter.unusedSimpArgs false

theorem w64 {n : Int} (h1 : -9223372036854775808 ≤ n) (h2 : n ≤ 9223372036854775807) : wrap64 n = n := by
  unfold wrap64
  omega
theorem Ev.to {α : Type} {g : Nat → Option α} {r r' : α} (h : Ev g r) (e : r = r') : Ev g r' := e ▸ h
theorem Ev.const {α : Type} {g : Option α} {r : α} (h : g = some r) : Ev (fun _ => g) r := ⟨0, fun _ _ => h⟩
theorem Ev.dbind {α β : Type} {g : Option α} {f : Nat → α → Option β} {a : α} {r : β} (h : g = some a) (k : Ev (fun n => f n a) r) : Ev (fun n => g.bind (f n)) r :=
  Ev.bind (g := fun _ => g) (Ev.const h) k
theorem Ev.tt {α : Type} {c : Prop} {_ : Decidable c} {g f : Nat → Option α} {r : α} (h : c) (k : Ev g r) : Ev (fun n => if c then g n else f n) r := by
  simpa only [if_pos h] using k
theorem Ev.ff {α : Type} {c : Prop} {_ : Decidable c} {g f : Nat → Option α} {r : α} (h : ¬ c) (k : Ev f r) : Ev (fun n => if c then g n else f n) r := by
  simpa only [if_neg h] using k
theorem rd_mid (p t : List Int) (x : Int) : rd (p ++ x :: t) (p.length : Int) = x := by
  simp [rd]
theorem lt_mid {α : Type} (p t : List α) (x : α) : (p.length : Int) < ((p ++ x :: t).length : Int) := by
  simp
  omega
theorem nx_mid {α : Type} (p t : List α) (x : α) (h : (p ++ x :: t).length ≤ 140737488351232) : wrap64 ((p.length : Int) + 1) = ((p ++ [x]).length : Int) := by
  simp at h ⊢
  exact w64 (by omega) (by omega)
theorem ap_mid {α : Type} (p t : List α) (x : α) : p ++ x :: t = (p ++ [x]) ++ t := by simp
theorem w64_nat (a b : Nat) (h : a + b ≤ 1000000000) : wrap64 ((a : Int) + (b : Int)) = ((a + b : Nat) : Int) := by
  rw [w64 (n := (a : Int) + (b : Int)) (by omega) (by omega)]
  omega
theorem w64_suc {α : Type} (q : List α) (x : α) (h : q.length ≤ 1000000000) : wrap64 ((q.length : Int) + 1) = ((q ++ [x]).length : Int) := by
  rw [w64 (n := (q.length : Int) + 1) (by omega) (by omega)]
  simp
theorem ar1 {a b c d : Nat} (h1 : a + 1 ≤ c) (h2 : b + 1 ≤ d) : ((a + b : Nat) : Int) < ((c + d - 1 : Nat) : Int) := by omega
theorem ar2 {a b c d : Nat} (h1 : a + 1 ≤ c) (h2 : b + 1 ≤ d) : a + b < c + d - 1 := by omega
theorem ar3 (a b : Nat) : ¬ (a ≤ a + b ∧ a + b - a < b) := by omega
theorem ar4 {v M : Int} (h : -M ≤ v ∧ v ≤ M) (hm : M ≤ 4000000000000000000) : wrap64 v = v := w64 (by omega) (by omega)
theorem ar5 {c v P M H : Int} (hc : -P ≤ c ∧ c ≤ P) (hv : -M ≤ v ∧ v ≤ M) (hp : P + M ≤ H) (hH : H ≤ 4000000000000000000) : wrap64 (c + v) = c + v := w64 (by omega) (by omega)
theorem ar6 {a b : Nat} {M : Int} (h : a + 1 ≤ b) (hM : 0 ≤ M) : (a : Int) * M + M ≤ (b : Int) * M := by
  have h1 : ((a : Int) + 1) * M ≤ (b : Int) * M := Int.mul_le_mul_of_nonneg_right (by omega) hM
  rw [Int.add_mul, Int.one_mul] at h1
  exact h1
theorem ar7 {a b c d : Nat} (h1 : a + 1 ≤ c) (h2 : b + 1 ≤ d) (h : c + d ≤ 100000000) : a + b ≤ 1000000000 := by omega
theorem ar8 {a c d : Nat} (h1 : a + 1 ≤ c) (h : c + d ≤ 100000000) : a ≤ 1000000000 := by omega
theorem tm (a b : Nat) : Int.tmod (a : Int) (b : Int) = ((a % b : Nat) : Int) := (Int.ofNat_tmod a b).symm
theorem td (a b : Nat) : Int.tdiv (a : Int) (b : Int) = ((a / b : Nat) : Int) := (Int.ofNat_tdiv a b).symm
theorem w64n {a : Nat} (h : a ≤ 1000000000) : wrap64 (a : Int) = (a : Int) := w64 (by omega) (by omega)

def backOf (n : Int) : Int × Bool := if n = 3 then (-1, true) else if n = 4 then (0, true) else if n = 6 then (1, true) else (0, false)
def tnF (c : Int) : List Int → Int → Int → Int × Int
  | [], y, z => (y, z)
  | x :: t, y, z => tnF c t (wrap64 ((wrap64 (x + (wrap64 (c * y)))) - z)) y
def sig (l : List Int) : Bool := decide (l.length ≤ 64) && l.all fun x => decide (-100000 ≤ x) && decide (x ≤ 100000)
def toneStates (l : List Int) (n : Int) : Int × Int × Bool := if (backOf n).2 = true then (if sig l = true then ((tnF (backOf n).1 l 0 0).1, (tnF (backOf n).1 l 0 0).2, true) else (0, 0, false)) else (0, 0, false)
theorem sig_len {l : List Int} (h : sig l = true) : l.length ≤ 64 := by
  simp [sig] at h
  exact h.1
theorem sig_mem {l : List Int} (h : sig l = true) : ∀ x ∈ l, -100000 ≤ x ∧ x ≤ 100000 := by
  simp [sig] at h
  exact h.2
def isBits (l : List Int) : Bool := decide (l.length ≤ 200) && l.all fun x => decide (x = 1 ∨ x = -1)
theorem isBits_len {l : List Int} (h : isBits l = true) : l.length ≤ 200 := by
  simp [isBits] at h
  exact h.1
theorem isBits_mem {l : List Int} (h : isBits l = true) : ∀ x ∈ l, x = 1 ∨ x = -1 := by
  simp [isBits] at h
  exact h.2
def toldM (l : List Int) : List Int × Bool := if sig l = true then (l, true) else ([], false)
theorem toldM_len (l : List Int) : (toldM l).1.length ≤ 64 := by
  unfold toldM
  split
  · exact sig_len ‹_›
  · simp
def bitM (x v : Int) : Int := if x ≥ v then 1 else -1
theorem bitM_cases (x v : Int) : bitM x v = 1 ∨ bitM x v = -1 := by
  unfold bitM
  split <;> simp
def tkS (st last : Int) (fixed : Bool) (bit : Int) : Int :=
  if fixed = true then st else if last = 0 then st else if bit = last then (if 2 * st ≤ 4096 then 2 * st else 4096) else (if 1 ≤ st / 2 then st / 2 else 1)
theorem tkS_bd {st last : Int} {fixed : Bool} {bit : Int} (h0 : 1 ≤ st) (h1 : st ≤ 4096) : 1 ≤ tkS st last fixed bit ∧ tkS st last fixed bit ≤ 4096 := by
  unfold tkS
  repeat' split
  all_goals omega
theorem mul_bit {st bit : Int} (hb : bit = 1 ∨ bit = -1) : st * bit = st ∨ st * bit = -st := by
  rcases hb with rfl | rfl
  · left; omega
  · right; omega
/-- bit, value and step behind each sample -/
def codeM (fixed : Bool) : List Int → Int → Int → Int → List (Int × Int × Int)
  | [], _, _, _ => []
  | x :: t, v, st, last =>
    let b := bitM x v
    let s := tkS st last fixed b
    (b, v + s * b, s) :: codeM fixed t (v + s * b) s b
theorem codeM_length (fixed : Bool) : ∀ (l : List Int) (v st last : Int), (codeM fixed l v st last).length = l.length
  | [], _, _, _ => rfl
  | x :: t, v, st, last => by simp [codeM, codeM_length fixed t]
def fixM (st : Int) : List Int → Int → List Int
  | [], _ => []
  | x :: t, v => bitM x v :: fixM st t (v + bitM x v * st)
theorem fixM_length (st : Int) : ∀ (l : List Int) (v : Int), (fixM st l v).length = l.length
  | [], _ => rfl
  | x :: t, v => by simp [fixM, fixM_length st t]
def fixedBits (l : List Int) (st : Int) : List Int × Bool := if sig l = true ∧ 1 ≤ st ∧ st ≤ 4096 then (fixM st l 0, true) else ([], false)
def decM (fixed : Bool) : List Int → Int → Int → Int → List (Int × Int)
  | [], _, _, _ => []
  | b :: t, v, st, last => (v + tkS st last fixed b * b, tkS st last fixed b) :: decM fixed t (v + tkS st last fixed b * b) (tkS st last fixed b) b
theorem decM_length (fixed : Bool) : ∀ (l : List Int) (v st last : Int), (decM fixed l v st last).length = l.length
  | [], _, _, _ => rfl
  | x :: t, v, st, last => by simp [decM, decM_length fixed t]
def gapM : List Int → List Int → List Int
  | x :: t, y :: u => (x - y) :: gapM t u
  | _, _ => []
theorem gapM_length : ∀ (l m : List Int), l.length = m.length → (gapM l m).length = l.length
  | [], m, _ => by cases m <;> simp [gapM]
  | x :: t, [], h => by simp at h
  | x :: t, y :: u, h => by
    simp at h
    simp [gapM, gapM_length t u h]
theorem codeM_val (fixed : Bool) : ∀ (l : List Int) (v st last : Int) (n : Int), 1 ≤ st → st ≤ 4096 → -4096 * n ≤ v → v ≤ 4096 * n → ∀ y ∈ (codeM fixed l v st last).map (·.2.1), -4096 * (n + l.length) ≤ y ∧ y ≤ 4096 * (n + l.length)
  | [], _, _, _, _, _, _, _, _, y, hy => by simp [codeM] at hy
  | x :: t, v, st, last, n, h0, h1, hv0, hv1, y, hy => by
    have hb := bitM_cases x v
    have hk := tkS_bd (last := last) (fixed := fixed) (bit := bitM x v) h0 h1
    have hm := mul_bit (st := tkS st last fixed (bitM x v)) hb
    simp only [codeM, List.map_cons, List.mem_cons] at hy
    rcases hy with rfl | hy
    · simp; omega
    · have := codeM_val fixed t _ _ _ (n + 1) hk.1 hk.2 (by omega) (by omega) y hy
      simp; omega
def stepOk (st : Int) : Bool := decide (1 ≤ st) && decide (st ≤ 4096)
theorem stepOk_iff {st : Int} : stepOk st = true ↔ 1 ≤ st ∧ st ≤ 4096 := by simp [stepOk]
def stepBits (l : List Int) (st : Int) : List Int × Bool := if sig l = true then (if stepOk st = true then ((codeM false l 0 st 0).map (·.1), true) else ([], false)) else ([], false)
def stepValues (l : List Int) (st : Int) : List Int × Bool := if isBits l = true then (if stepOk st = true then toldM ((decM false l 0 st 0).map (·.1)) else ([], false)) else ([], false)
def stepsOfBits (l : List Int) (st : Int) : List Int × Bool := if isBits l = true then (if stepOk st = true then toldM ((decM false l 0 st 0).map (·.2)) else ([], false)) else ([], false)
def fixedValues (l : List Int) (st : Int) : List Int × Bool := if isBits l = true then (if stepOk st = true then toldM ((decM true l 0 st 0).map (·.1)) else ([], false)) else ([], false)
def stepGaps (l : List Int) (st : Int) : List Int × Bool := if sig l = true then (if stepOk st = true then toldM (gapM l ((codeM false l 0 st 0).map (·.2.1))) else ([], false)) else ([], false)
def wts (l : List Int) : Bool := decide (1 ≤ l.length) && decide (l.length ≤ 9) && l.all fun x => decide (-1000 ≤ x) && decide (x ≤ 1000)
theorem wts_len {l : List Int} (h : wts l = true) : 1 ≤ l.length ∧ l.length ≤ 9 := by
  simp [wts] at h
  exact ⟨h.1.1, h.1.2⟩
theorem wts_mem {l : List Int} (h : wts l = true) : ∀ x ∈ l, -1000 ≤ x ∧ x ≤ 1000 := by
  simp [wts] at h
  exact h.2
def ratio (p q : Int) : Bool := (decide (1 ≤ p) && decide (p ≤ 8)) && (decide (1 ≤ q) && decide (q ≤ 8))
theorem ratio_iff {p q : Int} : ratio p q = true ↔ (1 ≤ p ∧ p ≤ 8) ∧ (1 ≤ q ∧ q ≤ 8) := by simp [ratio]
def rsOk (h l : List Int) (p q : Int) : Bool := wts h && ((sig l && ratio p q) && decide ((l.length : Int) * p ≤ 64))
def peakM : List Int → Nat → Nat
  | [], m => m
  | x :: t, m => peakM t (max m x.natAbs)

def cv : List Int → List Int → Nat → Int
  | [], _, _ => 0
  | w :: _, s, 0 => w * s.getD 0 0
  | w :: h, s, n + 1 => w * s.getD (n + 1) 0 + cv h s n
def Lf (f : Nat → Int) (N : Nat) : List Int := (List.range N).map f
theorem Lf_length (f : Nat → Int) (N : Nat) : (Lf f N).length = N := by simp [Lf]
theorem rd_Lf (f : Nat → Int) (N i : Nat) (h : i < N) : rd (Lf f N) (i : Int) = f i := by
  simp [rd, Lf, h]
theorem set_Lf (f : Nat → Int) (N i : Nat) (v : Int) : (Lf f N).set i v = Lf (fun n => if n = i then v else f n) N := by
  apply List.ext_getElem
  · simp [Lf]
  · intro n h1 h2
    simp [Lf, List.getElem_set]
    by_cases c : i = n
    · simp [c]
    · rw [if_neg c, if_neg (fun h => c h.symm)]
theorem Lf_congr {f g : Nat → Int} {N : Nat} (h : ∀ n, n < N → f n = g n) : Lf f N = Lf g N := by
  apply List.ext_getElem
  · simp [Lf]
  · intro n h1 h2
    simp [Lf] at h1 ⊢
    exact h n h1
theorem cv_snoc (s : List Int) (w : Int) : ∀ (p : List Int) (n : Nat), cv (p ++ [w]) s n = cv p s n + (if p.length ≤ n then w * s.getD (n - p.length) 0 else 0)
  | [], 0 => by simp [cv]
  | [], n + 1 => by simp [cv]
  | a :: p, 0 => by simp [cv]
  | a :: p, n + 1 => by
    simp only [List.cons_append, cv, cv_snoc s w p n, List.length_cons, Nat.add_le_add_iff_right, Nat.add_sub_add_right]
    omega
theorem getD_bd {s : List Int} {a M : Int} (hM : 0 ≤ M) (h : ∀ x ∈ s, -M ≤ a * x ∧ a * x ≤ M) (n : Nat) : -M ≤ a * s.getD n 0 ∧ a * s.getD n 0 ≤ M := by
  rw [List.getD_eq_getElem?_getD]
  by_cases c : n < s.length
  · rw [List.getElem?_eq_getElem c]
    exact h _ (List.getElem_mem c)
  · rw [List.getElem?_eq_none (by omega)]
    simp
    omega
theorem cv_bd {s : List Int} {M : Int} (hM : 0 ≤ M) : ∀ (h : List Int) (n : Nat), (∀ a ∈ h, ∀ x ∈ s, -M ≤ a * x ∧ a * x ≤ M) → -(h.length * M) ≤ cv h s n ∧ cv h s n ≤ h.length * M
  | [], n, hb => by simp [cv]
  | a :: h, 0, hb => by
    have h1 := getD_bd hM (hb a (by simp)) 0
    have h2 : 0 ≤ (h.length : Int) * M := Int.mul_nonneg (by omega) hM
    simp only [cv, List.length_cons, Int.natCast_add, Int.add_mul]
    omega
  | a :: h, n + 1, hb => by
    have h1 := getD_bd hM (hb a (by simp)) (n + 1)
    have h2 := cv_bd hM h n (fun b hbm => hb b (by simp [hbm]))
    simp only [cv, List.length_cons, Int.natCast_add, Int.add_mul]
    omega
def conv (h s : List Int) : List Int := if s = [] then [] else Lf (cv h s) (h.length + s.length - 1)
theorem conv_length (h s : List Int) (hs : s ≠ []) : (conv h s).length = h.length + s.length - 1 := by
  rw [conv, if_neg hs, Lf_length]
/-- what stands in the list when the weights p are done, and of the weight w the samples q -/
def cvi (p q s : List Int) (w : Int) (n : Nat) : Int := cv p s n + (if p.length ≤ n ∧ n - p.length < q.length then w * s.getD (n - p.length) 0 else 0)
theorem cvi_nil (p s : List Int) (w : Int) : cvi p [] s w = cv p s := by
  funext n
  simp [cvi]
theorem cvi_all (p s : List Int) (w : Int) (n : Nat) : cvi p s s w n = cv (p ++ [w]) s n := by
  rw [cv_snoc, cvi]
  by_cases c : p.length ≤ n
  · by_cases d : n - p.length < s.length
    · rw [if_pos ⟨c, d⟩, if_pos c]
    · rw [if_neg (fun h => d h.2), if_pos c, List.getD_eq_getElem?_getD, List.getElem?_eq_none (by omega)]
      simp
  · rw [if_neg (fun h => c h.1), if_neg c]
theorem getD_mid (q t : List Int) (x : Int) : (q ++ x :: t).getD q.length 0 = x := by simp
theorem cvi_step (p q t : List Int) (w x : Int) (n : Nat) : (if n = p.length + q.length then cvi p q (q ++ x :: t) w n + w * x else cvi p q (q ++ x :: t) w n) = cvi p (q ++ [x]) (q ++ x :: t) w n := by
  unfold cvi
  by_cases c : n = p.length + q.length
  · subst c
    have e : p.length + q.length - p.length = q.length := by omega
    rw [if_pos rfl, e, getD_mid, if_neg (by omega), if_pos ⟨by omega, by simp⟩]
    omega
  · rw [if_neg c]
    by_cases d : p.length ≤ n ∧ n - p.length < q.length
    · rw [if_pos d, if_pos ⟨d.1, by simp; omega⟩]
    · rw [if_neg d, if_neg (fun h => d ⟨h.1, by have := h.2; simp at this; omega⟩)]
theorem Lf_succ (f : Nat → Int) (n : Nat) : Lf f (n + 1) = Lf f n ++ [f n] := by simp [Lf, List.range_succ]
def dropN (len rate first : Nat) : Nat := (len - first + rate - 1) / rate
theorem dropN_lt {len rate first j : Nat} (hr : 1 ≤ rate) : j < dropN len rate first ↔ first + j * rate < len := by
  unfold dropN
  rw [Nat.lt_iff_add_one_le, Nat.le_div_iff_mul_le (by omega), Nat.add_mul]
  omega
def dropM (l : List Int) (rate first : Nat) : List Int := Lf (fun j => l.getD (first + j * rate) 0) (dropN l.length rate first)
theorem dropM_length (l : List Int) (rate first : Nat) : (dropM l rate first).length = dropN l.length rate first := Lf_length _ _
theorem dropN_le {len rate first : Nat} (hr : 1 ≤ rate) : dropN len rate first ≤ len := by
  apply Nat.le_of_not_lt
  intro h
  have := (dropN_lt hr).1 h
  have h2 : len * 1 ≤ len * rate := Nat.mul_le_mul_left len hr
  omega
def stuffM (p : Nat) : List Int → List Int
  | [] => []
  | x :: t => (x :: List.replicate (p - 1) 0) ++ stuffM p t
theorem stuffM_length (p : Nat) (hp : 1 ≤ p) : ∀ l : List Int, (stuffM p l).length = l.length * p
  | [] => by simp [stuffM]
  | x :: t => by
    simp only [stuffM, List.length_append, List.length_cons, List.length_replicate, stuffM_length p hp t, Nat.add_mul]
    omega
theorem stuffM_snoc (p : Nat) (x : Int) : ∀ l : List Int, stuffM p (l ++ [x]) = stuffM p l ++ (x :: List.replicate (p - 1) 0)
  | [] => by simp [stuffM]
  | y :: t => by simp [stuffM, stuffM_snoc p x t]
theorem rd_getD (l : List Int) (i : Nat) : rd l (i : Int) = l.getD i 0 := by simp [rd]
theorem stuffM_sig (p : Nat) : ∀ l : List Int, (∀ x ∈ l, -100000 ≤ x ∧ x ≤ 100000) → ∀ x ∈ stuffM p l, -100000 ≤ x ∧ x ≤ 100000
  | [], _, x, h => by simp [stuffM] at h
  | y :: t, hl, x, h => by
    simp only [stuffM, List.mem_append, List.mem_cons, List.mem_replicate] at h
    rcases h with (rfl | ⟨_, rfl⟩) | h
    · exact hl _ (by simp)
    · omega
    · exact stuffM_sig p t (fun z hz => hl z (by simp [hz])) x h
theorem sig_iff {l : List Int} : sig l = true ↔ l.length ≤ 64 ∧ ∀ x ∈ l, -100000 ≤ x ∧ x ≤ 100000 := by simp [sig]
theorem ediv_bd {x b : Int} (hb : 0 < b) (hx : -4611686018427387904 ≤ x ∧ x ≤ 4611686018427387904) : -4611686018427387905 ≤ x / b ∧ x / b ≤ 4611686018427387905 := by
  have h0 := Int.emod_nonneg x (show b ≠ 0 by omega)
  have h1 := Int.emod_lt_of_pos x hb
  have h2 := Int.emod_add_mul_ediv x b
  constructor
  · apply Int.not_lt.1
    intro h
    have : b * (x / b) ≤ 1 * (x / b) := Int.mul_le_mul_of_nonpos_right (by omega) (by omega)
    have h3 : b * (x / b) ≤ b * (-4611686018427387906) := Int.mul_le_mul_of_nonneg_left (by omega) (by omega)
    omega
  · apply Int.not_lt.1
    intro h
    have h3 : 1 * (x / b) ≤ b * (x / b) := Int.mul_le_mul_of_nonneg_right (by omega) (by omega)
    omega
def atM (s : List Int) (i : Int) : Int := if 0 ≤ i then s.getD i.toNat 0 else 0
theorem getD_all {l : List Int} {M : Int} (hM : 0 ≤ M) (h : ∀ x ∈ l, -M ≤ x ∧ x ≤ M) (n : Nat) : -M ≤ l.getD n 0 ∧ l.getD n 0 ≤ M := by
  rw [List.getD_eq_getElem?_getD]
  by_cases c : n < l.length
  · rw [List.getElem?_eq_getElem c]
    exact h _ (List.getElem_mem c)
  · rw [List.getElem?_eq_none (by omega)]
    simp
    omega
def totL : List (List Int) → Nat
  | [] => 0
  | x :: t => x.length + totL t

theorem spec_l1In_eq (a b c : Int) : spec_l1In.f a b c = some (decide (b ≤ a) && decide (a ≤ c)) := by
  unfold spec_l1In.f
  by_cases h : b ≤ a <;> simp [h]

theorem impl_in_eq (a b c : Int) : impl_in.f a b c = some (decide (b ≤ a) && decide (a ≤ c)) := by
  unfold impl_in.f
  by_cases h : b ≤ a <;> simp [h]

theorem spec_l1Abs_eq (x : Int) (h : -1000000000000000000 ≤ x ∧ x ≤ 1000000000000000000) : spec_l1Abs.f x = some (x.natAbs : Int) := by
  unfold spec_l1Abs.f spec_l1Most.f
  rw [w64 (n := -x) (by omega) (by omega)]
  by_cases c : x > -x
  · rw [if_pos c]; simp; omega
  · rw [if_neg c]; simp; omega

theorem spec_wdPeak_l0 (l : List Int) (hl : l.length ≤ 140737488351232) (hs : ∀ x ∈ l, -1000000000000000000 ≤ x ∧ x ≤ 1000000000000000000) : ∀ (t p : List Int) (m : Nat), l = p ++ t → Ev (fun k => spec_wdPeak.l0 k (m : Int) l (l.length : Int) (p.length : Int)) ((peakM t m : Nat) : Int)
  | [], p, m, h => by
    refine Ev.step (f := fun _ => some (m : Int)) (fun k => ?_) (Ev.now _)
    subst h
    simp [spec_wdPeak.l0]
  | x :: t, p, m, h => by
    have e1 : (p.length : Int) < (l.length : Int) := by rw [h]; exact lt_mid p t x
    have e2 : rd l (p.length : Int) = x := by rw [h]; exact rd_mid p t x
    have e3 : wrap64 ((p.length : Int) + 1) = ((p ++ [x]).length : Int) := nx_mid p t x (h ▸ hl)
    have hx := hs x (by rw [h]; simp)
    have e4 : spec_l1Most.f (m : Int) (x.natAbs : Int) = some ((max m x.natAbs : Nat) : Int) := by
      unfold spec_l1Most.f
      by_cases c : (m : Int) > (x.natAbs : Int)
      · rw [if_pos c, Nat.max_eq_left (by omega)]
      · rw [if_neg c, Nat.max_eq_right (by omega)]
    refine Ev.step (fun k => ?_) (spec_wdPeak_l0 l hl hs t (p ++ [x]) (max m x.natAbs) (by simp [h]))
    simp only [spec_wdPeak.l0, if_pos e1, if_pos (Int.natCast_nonneg _), e2, e3, spec_l1Abs_eq x hx, Option.bind_some, e4]
theorem spec_wdPeak_ev (l : List Int) (hl : l.length ≤ 140737488351232) (hs : ∀ x ∈ l, -1000000000000000000 ≤ x ∧ x ≤ 1000000000000000000) : Ev (fun k => spec_wdPeak.f k l) ((peakM l 0 : Nat) : Int) := by
  have h := spec_wdPeak_l0 l hl hs l [] 0 rfl
  simpa [spec_wdPeak.f] using h

theorem impl_size_eq (x : Int) (h : -1000000000000000000 ≤ x ∧ x ≤ 1000000000000000000) : impl_size.f x = some (x.natAbs : Int) := by
  unfold impl_size.f mx
  rw [w64 (n := -x) (by omega) (by omega)]
  by_cases c : x < -x
  · rw [if_pos c]; simp; omega
  · rw [if_neg c]; simp; omega

theorem impl_peak_l0 (l : List Int) (hl : l.length ≤ 140737488351232) (hs : ∀ x ∈ l, -1000000000000000000 ≤ x ∧ x ≤ 1000000000000000000) : ∀ (t p : List Int) (m : Nat), l = p ++ t → Ev (fun k => impl_peak.l0 k (m : Int) l (l.length : Int) (p.length : Int)) ((peakM t m : Nat) : Int)
  | [], p, m, h => by
    refine Ev.step (f := fun _ => some (m : Int)) (fun k => ?_) (Ev.now _)
    subst h
    simp [impl_peak.l0]
  | x :: t, p, m, h => by
    have e1 : (p.length : Int) < (l.length : Int) := by rw [h]; exact lt_mid p t x
    have e2 : rd l (p.length : Int) = x := by rw [h]; exact rd_mid p t x
    have e3 : wrap64 ((p.length : Int) + 1) = ((p ++ [x]).length : Int) := nx_mid p t x (h ▸ hl)
    have hx := hs x (by rw [h]; simp)
    have e4 : mx (m : Int) (x.natAbs : Int) = ((max m x.natAbs : Nat) : Int) := by
      unfold mx
      by_cases c : (m : Int) < (x.natAbs : Int)
      · rw [if_pos c, Nat.max_eq_right (by omega)]
      · rw [if_neg c, Nat.max_eq_left (by omega)]
    refine Ev.step (fun k => ?_) (impl_peak_l0 l hl hs t (p ++ [x]) (max m x.natAbs) (by simp [h]))
    simp only [impl_peak.l0, if_pos e1, if_pos (Int.natCast_nonneg _), e2, e3, impl_size_eq x hx, Option.bind_some, e4]
theorem impl_peak_ev (l : List Int) (hl : l.length ≤ 140737488351232) (hs : ∀ x ∈ l, -1000000000000000000 ≤ x ∧ x ≤ 1000000000000000000) : Ev (fun k => impl_peak.f k l) ((peakM l 0 : Nat) : Int) := by
  have h := impl_peak_l0 l hl hs l [] 0 rfl
  simpa [impl_peak.f] using h

/-- What a cursor gives: a value with P, and at most c steps further. -/
def Dr {α : Type} (P : α → Prop) (c : Int) (a : Int) (g : Option (α × Int × Int)) : Prop := ∃ v a' sd, g = some (v, a', sd) ∧ a ≤ a' ∧ a' ≤ a + c ∧ P v
theorem u64_bd (n : Int) : 0 ≤ IntKind.u64.wrap n ∧ IntKind.u64.wrap n < 18446744073709551616 := by
  simp only [IntKind.wrap, IntKind.bits, IntKind.signed]
  simp
  omega
theorem u64_and255 (x : Int) (h0 : 0 ≤ x) (h1 : x < 18446744073709551616) : Go.bits .and .u64 x 255 = x % 256 :=
  bits_mask .u64 64 (by decide) (fun n h0 h1 => by
    simp only [IntKind.wrap, IntKind.bits, IntKind.signed]
    simp
    omega) 8 (by decide) x h0 h1
def Bytes (l : List Int) : Prop := l.length ≤ 1048576 ∧ ∀ x ∈ l, 0 ≤ x ∧ x ≤ 255
theorem next_ok {l : List Int} (hl : Bytes l) (a sd : Int) (h0 : 0 ≤ a) (h1 : a ≤ 1000000000000000) : Dr (fun v => 0 ≤ v ∧ v ≤ 255) 1 a (spec_l1Cur_next.f l a sd) := by
  have hw : wrap64 (a + 1) = a + 1 := w64 (by omega) (by omega)
  have hm : ∀ y : Int, 0 ≤ wrap64 (Go.bits .and .u64 (IntKind.u64.wrap y / 1099511627776) 255) ∧ wrap64 (Go.bits .and .u64 (IntKind.u64.wrap y / 1099511627776) 255) ≤ 255 := by
    intro y
    have hy := u64_bd y
    rw [u64_and255 _ (by omega) (by omega), w64 (n := IntKind.u64.wrap y / 1099511627776 % 256) (by omega) (by omega)]
    omega
  unfold spec_l1Cur_next.f
  by_cases c : a < (l.length : Int)
  · have hr : 0 ≤ rd l a ∧ rd l a ≤ 255 := by
      obtain ⟨n, rfl⟩ : ∃ n : Nat, a = (n : Int) := ⟨a.toNat, by omega⟩
      have hn : n < l.length := by omega
      rw [rd_getD, List.getD_eq_getElem?_getD, List.getElem?_eq_getElem hn]
      exact hl.2 _ (List.getElem_mem hn)
    rw [if_pos c, if_pos h0, hw, if_pos (by omega), w64 (n := rd l a) (by omega) (by omega)]
    exact ⟨_, _, _, rfl, by omega, by omega, hr⟩
  · rw [if_neg c, hw]
    by_cases d : a + 1 ≤ (l.length : Int)
    · omega
    · rw [if_neg d]
      exact ⟨_, _, _, rfl, by omega, by omega, hm _⟩

theorem pick_ok {l : List Int} (hl : Bytes l) (a sd n : Int) (h0 : 0 ≤ a) (h1 : a ≤ 100000000000000) (hn : n ≤ 1000000) : Dr (fun v => 0 ≤ v ∧ (v < n ∨ v = 0)) 2 a (spec_l1Cur_pick.f l a sd n) := by
  unfold spec_l1Cur_pick.f
  by_cases c : n ≤ 1
  · rw [if_pos c]
    exact ⟨_, _, _, rfl, by omega, by omega, by omega, .inr rfl⟩
  · rw [if_neg c]
    obtain ⟨v, a', sd', e, ha, hb, hv⟩ := next_ok hl a sd h0 (by omega)
    rw [e]
    simp only [Option.bind_some]
    have hn0 : ¬ n = 0 := by omega
    by_cases d : n > 200
    · rw [if_pos d]
      obtain ⟨v2, a2, sd2, e2, ha2, hb2, hv2⟩ := next_ok hl a' sd' (by omega) (by omega)
      rw [e2]
      simp only [Option.bind_some]
      rw [if_neg hn0, w64 (n := v * 256) (by omega) (by omega), w64 (n := v * 256 + v2) (by omega) (by omega), Int.tmod_eq_emod_of_nonneg (by omega)]
      have := Int.emod_nonneg (v * 256 + v2) hn0
      have := Int.emod_lt_of_pos (v * 256 + v2) (show 0 < n by omega)
      exact ⟨_, _, _, rfl, by omega, by omega, by omega, .inl (by omega)⟩
    · rw [if_neg d, if_neg hn0, Int.tmod_eq_emod_of_nonneg (by omega)]
      have := Int.emod_nonneg v hn0
      have := Int.emod_lt_of_pos v (show 0 < n by omega)
      exact ⟨_, _, _, rfl, by omega, by omega, by omega, .inl (by omega)⟩

theorem among_ok {l : List Int} (hl : Bytes l) (a sd : Int) (m : List Int) (h0 : 0 ≤ a) (h1 : a ≤ 100000000000000) (hm : 1 ≤ m.length) (hm2 : m.length ≤ 1000) : Dr (fun v => v ∈ m) 2 a (spec_l1Cur_among.f l a sd m) := by
  unfold spec_l1Cur_among.f
  obtain ⟨v, a', sd', e, ha, hb, hv, hv2⟩ := pick_ok hl a sd (m.length : Int) h0 h1 (by omega)
  rw [e]
  simp only [Option.bind_some]
  rw [if_pos hv, if_pos (by omega)]
  refine ⟨_, _, _, rfl, ha, hb, ?_⟩
  obtain ⟨n, rfl⟩ : ∃ n : Nat, v = (n : Int) := ⟨v.toNat, by omega⟩
  have hn : n < m.length := by omega
  rw [rd_getD, List.getD_eq_getElem?_getD, List.getElem?_eq_getElem hn]
  exact List.getElem_mem hn

theorem one_ok {l : List Int} (hl : Bytes l) (a sd n : Int) (h0 : 0 ≤ a) (h1 : a ≤ 100000000000000) (hn : n ≤ 1000000) : Dr (fun _ => True) 2 a (spec_l1Cur_one.f l a sd n) := by
  unfold spec_l1Cur_one.f
  obtain ⟨v, a', sd', e, ha, hb, hv, hv2⟩ := pick_ok hl a sd n h0 h1 hn
  rw [e]
  simp only [Option.bind_some]
  exact ⟨_, _, _, rfl, ha, hb, trivial⟩

theorem number_ok {l : List Int} (hl : Bytes l) (a sd : Int) (h0 : 0 ≤ a) (h1 : a ≤ 10000000000000) : Dr (fun v => -4611686018427387904 ≤ v ∧ v ≤ 4611686018427387904) 10 a (spec_l1Cur_number.f l a sd) := by
  unfold spec_l1Cur_number.f
  obtain ⟨v, a1, sd1, e, ha, hb, hv⟩ := pick_ok hl a sd 14 h0 (by omega) (by omega)
  rw [e]
  simp only [Option.bind_some]
  by_cases c : v = 0
  · rw [if_pos c]
    obtain ⟨u, a2, sd2, e2, ha2, hb2, hu⟩ := among_ok hl a1 sd1 [1000000000000, (-1000000000000), 1000000000001, (-4611686018427387904), 549755813888] (by omega) (by omega) (by simp) (by simp)
    rw [e2]
    simp only [Option.bind_some]
    refine ⟨_, _, _, rfl, by omega, by omega, ?_⟩
    simp at hu
    rcases hu with rfl | rfl | rfl | rfl | rfl <;> decide
  · rw [if_neg c]
    by_cases d : v = 1
    · rw [if_pos d]
      obtain ⟨u, a2, sd2, e2, ha2, hb2, hu, hu2⟩ := pick_ok hl a1 sd1 256 (by omega) (by omega) (by omega)
      rw [e2]
      simp only [Option.bind_some]
      obtain ⟨u3, a3, sd3, e3, ha3, hb3, hu3, hu4⟩ := pick_ok hl a2 sd2 256 (by omega) (by omega) (by omega)
      rw [e3]
      simp only [Option.bind_some]
      refine ⟨_, _, _, rfl, by omega, by omega, ?_⟩
      rw [w64 (n := u * 256) (by omega) (by omega), w64 (n := u * 256 + u3) (by omega) (by omega), w64 (n := (u * 256 + u3) * 256) (by omega) (by omega), w64 (n := (u * 256 + u3) * 256 - 5000000) (by omega) (by omega)]
      omega
    · rw [if_neg d]
      obtain ⟨u, a2, sd2, e2, ha2, hb2, hu, hu2⟩ := pick_ok hl a1 sd1 200 (by omega) (by omega) (by omega)
      rw [e2]
      simp only [Option.bind_some]
      refine ⟨_, _, _, rfl, by omega, by omega, ?_⟩
      rw [w64 (n := u - 100) (by omega) (by omega)]
      omega

theorem laws_big_eq (l m : List Int) (hl : l.length ≤ 140737488355328) (hm : m.length ≤ 140737488355328) : laws_big.f l m = some (decide (1048576 < l.length + m.length)) := by
  unfold laws_big.f
  by_cases c : (l.length : Int) > 1048576
  · rw [if_pos c]
    simp; omega
  · rw [if_neg c, w64 (n := 1048576 - (l.length : Int)) (by omega) (by omega)]
    simp; omega
theorem bytes_of {l : List Int} (h : l.length ≤ 1048576) (hx : ∀ x ∈ l, (Lit.int .u8 x).wf = true) : Bytes l := by
  refine ⟨h, fun x hxl => ?_⟩
  have := hx x hxl
  simp [Lit.wf, IntKind.min, IntKind.max, IntKind.signed, IntKind.bits] at this
  omega

/-- A number shifted: down, to the nearest one, towards 0. -/
def shM (x b mode : Int) : Int := if mode = 1 ∧ b ≤ 2 * (x % b) ∧ 0 < x % b then x / b + 1 else if mode = 2 ∧ x < 0 ∧ 0 < x % b then x / b + 1 else x / b
theorem div_uniq {x b q r : Int} (h : x = q * b + r) (h0 : 0 ≤ r) (h1 : r < b) : x / b = q := by
  have hb : 0 < b := by omega
  exact ((Int.ediv_emod_unique hb).2 ⟨by rw [h, Int.mul_comm]; omega, h0, h1⟩).1
theorem pow2_pos (s : Nat) : (0 : Int) < 2 ^ s := Int.pow_pos (by decide)
theorem pow2_le {s : Nat} (h : s ≤ 20) : (2 : Int) ^ s ≤ 1048576 := by
  have h1 : (2 : Nat) ^ s ≤ 2 ^ 20 := Nat.pow_le_pow_right (by decide) h
  have h3 : (2 : Int) ^ s = (((2 : Nat) ^ s : Nat) : Int) := by simp
  rw [h3]
  have h2 : (2 : Nat) ^ 20 = 1048576 := by decide
  omega
theorem shl_one {s : Nat} (h : s ≤ 20) : shl .i64 1 (s : Int) = 2 ^ s := by
  unfold shl
  have h1 : min ((s : Int)).toNat IntKind.i64.bits = s := by
    simp [IntKind.bits]; omega
  rw [h1, Int.one_mul, IntKind.wrap_i64]
  have := pow2_pos s
  have := pow2_le h
  omega
theorem shl_mul {s : Nat} (h : s ≤ 20) (y : Int) (h1 : -9223372036854775808 ≤ y * 2 ^ s) (h2 : y * 2 ^ s ≤ 9223372036854775807) : shl .i64 y (s : Int) = y * 2 ^ s := by
  unfold shl
  have e : min ((s : Int)).toNat IntKind.i64.bits = s := by
    simp [IntKind.bits]; omega
  rw [e, IntKind.wrap_i64]
  omega
theorem shr_div {s : Nat} (h : s ≤ 20) (y : Int) : shr .i64 y (s : Int) = y / 2 ^ s := by
  unfold shr
  have e : min ((s : Int)).toNat IntKind.i64.bits = s := by
    simp [IntKind.bits]; omega
  rw [e]
theorem mod_eq (x b : Int) : x = (x / b) * b + x % b := by
  have := Int.emod_add_mul_ediv x b
  rw [Int.mul_comm] at this
  omega

theorem impl_shifted_ev (x : Int) (s : Nat) (mode : Int) (hs : s ≤ 20) (hx : -4611686018427387904 ≤ x ∧ x ≤ 4611686018427387904) : Ev (fun k => impl_shifted.f k x (s : Int) mode) (shM x (2 ^ s) mode) := by
  have hb := pow2_pos s
  have hb2 := pow2_le hs
  have hr0 := Int.emod_nonneg x (show (2 : Int) ^ s ≠ 0 by omega)
  have hr1 := Int.emod_lt_of_pos x hb
  have hd := mod_eq x (2 ^ s)
  simp only [impl_shifted.f]
  by_cases c : mode = 1
  · refine Ev.tt c ?_
    by_cases d : (s : Int) > 0
    · obtain ⟨m, rfl⟩ : ∃ m, s = m + 1 := ⟨s - 1, by omega⟩
      have e1 : wrap64 (((m + 1 : Nat) : Int) - 1) = (m : Int) := by
        rw [w64 (n := ((m + 1 : Nat) : Int) - 1) (by omega) (by omega)]
        omega
      have hp : (2 : Int) ^ (m + 1) = 2 * 2 ^ m := by rw [Int.pow_succ]; omega
      have hpm := pow2_pos m
      have e2 : wrap64 (x + 2 ^ m) = x + 2 ^ m := w64 (by omega) (by omega)
      refine Ev.step (f := fun _ => some (shM x (2 ^ (m + 1)) mode)) (fun k => ?_) (Ev.now _)
      simp only [impl_shifted.j0, e1, shl_one (s := m) (by omega), e2, shr_div hs]
      rw [if_pos (by simp), if_pos (Int.natCast_nonneg _), if_pos (Int.natCast_nonneg _)]
      congr 1
      unfold shM
      by_cases g : (2 : Int) ^ (m + 1) ≤ 2 * (x % 2 ^ (m + 1)) ∧ 0 < x % 2 ^ (m + 1)
      · rw [if_pos ⟨c, g⟩]
        refine div_uniq (r := x % 2 ^ (m + 1) - 2 ^ m) ?_ (by omega) (by omega)
        rw [Int.add_mul]
        omega
      · rw [if_neg (fun h => g h.2), if_neg (fun h => by omega)]
        refine div_uniq (r := x % 2 ^ (m + 1) + 2 ^ m) (by omega) (by omega) (by omega)
    · have e : s = 0 := by omega
      subst e
      refine Ev.step (f := fun _ => some (shM x (2 ^ 0) mode)) (fun k => ?_) (Ev.now _)
      simp only [impl_shifted.j0, shr_div (s := 0) (by omega)]
      rw [if_neg (by simp), if_neg (by omega), if_pos (by omega)]
      congr 1
      unfold shM
      rw [if_neg (fun h => by have := h.2.2; simp at this), if_neg (fun h => by omega)]
  · refine Ev.ff c ?_
    refine Ev.step (f := fun _ => some (shM x (2 ^ s) mode)) (fun k => ?_) (Ev.now _)
    simp only [impl_shifted.j0, shr_div hs]
    rw [if_neg (by decide)]
    have hS : shM x (2 ^ s) mode = if mode = 2 ∧ x < 0 ∧ 0 < x % 2 ^ s then x / 2 ^ s + 1 else x / 2 ^ s := by
      unfold shM
      rw [if_neg (fun h => c h.1)]
    rw [hS]
    clear hS
    by_cases d : mode = 2
    · rw [if_pos d]
      by_cases g : x < 0
      · rw [if_pos g, if_pos (Int.natCast_nonneg _), w64 (n := -x) (by omega) (by omega)]
        by_cases r : 0 < x % 2 ^ s
        · rw [if_pos ⟨d, g, r⟩]
          have e : (-x) / 2 ^ s = -(x / 2 ^ s) - 1 := by
            refine div_uniq (r := 2 ^ s - x % 2 ^ s) ?_ (by omega) (by omega)
            rw [Int.sub_mul, Int.neg_mul]
            omega
          have hq : -4611686018427387905 ≤ x / 2 ^ s ∧ x / 2 ^ s ≤ 4611686018427387905 := ediv_bd hb hx
          rw [e, w64 (n := -(-(x / 2 ^ s) - 1)) (by omega) (by omega)]
          congr 1
          omega
        · rw [if_neg (fun h => r h.2.2)]
          have e : (-x) / 2 ^ s = -(x / 2 ^ s) := by
            refine div_uniq (r := 0) ?_ (by omega) (by omega)
            rw [Int.neg_mul]
            omega
          have hq : -4611686018427387905 ≤ x / 2 ^ s ∧ x / 2 ^ s ≤ 4611686018427387905 := ediv_bd hb hx
          rw [e, w64 (n := -(-(x / 2 ^ s))) (by omega) (by omega)]
          congr 1
          omega
      · rw [if_neg g, if_pos (Int.natCast_nonneg _), if_neg (fun h => g h.2.1)]
    · rw [if_neg d, if_pos (Int.natCast_nonneg _), if_neg (fun h => d h.1)]

theorem spec_wdShift_ev (x : Int) (s : Nat) (mode : Int) (hs : s ≤ 20) (hx : -4611686018427387904 ≤ x ∧ x ≤ 4611686018427387904) : Ev (fun k => spec_wdShift.f k x (s : Int) mode) (shM x (2 ^ s) mode) := by
  have hb := pow2_pos s
  have hb2 := pow2_le hs
  have hr0 := Int.emod_nonneg x (show (2 : Int) ^ s ≠ 0 by omega)
  have hr1 := Int.emod_lt_of_pos x hb
  have hd := mod_eq x (2 ^ s)
  have hq : -4611686018427387905 ≤ x / 2 ^ s ∧ x / 2 ^ s ≤ 4611686018427387905 := ediv_bd hb hx
  have key : ∀ d : Int, d = x / 2 ^ s → Ev (fun k => spec_wdShift.j0 k x mode (2 ^ s) d) (shM x (2 ^ s) mode) := by
    intro d e
    subst e
    have e1 : wrap64 (x / 2 ^ s * 2 ^ s) = x / 2 ^ s * 2 ^ s := w64 (by omega) (by omega)
    have e2 : wrap64 (x - x / 2 ^ s * 2 ^ s) = x % 2 ^ s := by
      rw [w64 (n := x - x / 2 ^ s * 2 ^ s) (by omega) (by omega)]
      omega
    have e3 : wrap64 (2 * (x % 2 ^ s)) = 2 * (x % 2 ^ s) := w64 (by omega) (by omega)
    have e4 : wrap64 (x / 2 ^ s + 1) = x / 2 ^ s + 1 := w64 (by omega) (by omega)
    have j1 : ∀ f : Bool, (f = true ↔ mode = 1 ∧ 2 ^ s ≤ 2 * (x % 2 ^ s) ∧ 0 < x % 2 ^ s) → Ev (fun k => spec_wdShift.j1 k x mode (x / 2 ^ s) (x % 2 ^ s) f) (shM x (2 ^ s) mode) := by
      intro f hf
      refine Ev.step (f := fun _ => some (shM x (2 ^ s) mode)) (fun k => ?_) (Ev.now _)
      simp only [spec_wdShift.j1, e4]
      unfold shM
      by_cases g : f = true
      · rw [if_pos g, if_pos (hf.1 g)]
      · rw [if_neg g, if_neg (fun h => g (hf.2 h))]
        by_cases m2 : mode = 2
        · rw [if_pos m2]
          by_cases x0 : x < 0
          · rw [if_pos x0]
            by_cases r0 : x % 2 ^ s > 0
            · rw [if_pos r0, if_pos ⟨m2, x0, r0⟩]
            · rw [if_neg r0, if_neg (fun h => r0 h.2.2)]
          · rw [if_neg x0, if_neg (fun h => x0 h.2.1)]
        · rw [if_neg m2, if_neg (fun h => m2 h.1)]
    by_cases m1 : mode = 1
    · by_cases g : 2 * (x % 2 ^ s) ≥ 2 ^ s
      · refine Ev.step (fun k => ?_) (j1 (decide (x % 2 ^ s > 0)) (by simp only [decide_eq_true_eq]; exact ⟨fun h => ⟨m1, g, h⟩, fun h => h.2.2⟩))
        simp only [spec_wdShift.j0, e1, e2, e3, if_pos m1, if_pos g]
      · refine Ev.step (fun k => ?_) (j1 false (by simp; intro _ h; omega))
        simp only [spec_wdShift.j0, e1, e2, e3, if_pos m1, if_neg g]
    · refine Ev.step (fun k => ?_) (j1 false (by simp; intro h; exact absurd h m1))
      simp only [spec_wdShift.j0, e1, e2, e3, if_neg m1]
  simp only [spec_wdShift.f, shl_one hs]
  refine Ev.tt (Int.natCast_nonneg _) (Ev.ff (by omega) ?_)
  by_cases g : Int.tmod x (2 ^ s) < 0
  · refine Ev.tt g (key _ ?_)
    have hx0 : x < 0 := by
      apply Int.not_le.1
      intro h
      have := Int.tmod_nonneg (2 ^ s) h
      omega
    have e := Int.tdiv_eq_ediv (a := x) (b := 2 ^ s)
    have e0 : ¬ (0 ≤ x ∨ (2 : Int) ^ s ∣ x) := by
      rintro (h | h)
      · omega
      · rw [Int.tmod_eq_zero_of_dvd h] at g
        omega
    rw [if_neg e0, Int.sign_eq_one_of_pos hb] at e
    rw [e, w64 (n := x / 2 ^ s + 1) (by omega) (by omega), w64 (n := x / 2 ^ s + 1 - 1) (by omega) (by omega)]
    omega
  · refine Ev.ff g (key _ ?_)
    have e := Int.tdiv_eq_ediv (a := x) (b := 2 ^ s)
    have e0 : 0 ≤ x ∨ (2 : Int) ^ s ∣ x := by
      by_cases h : 0 ≤ x
      · exact .inl h
      · right
        have h2 : Int.tmod x (2 ^ s) ≤ 0 := by
          have := Int.tmod_nonneg (2 ^ s) (show 0 ≤ -x by omega)
          rw [Int.neg_tmod] at this
          omega
        exact Int.dvd_of_tmod_eq_zero (by omega)
    rw [if_pos e0] at e
    rw [e, w64 (n := x / 2 ^ s + 0) (by omega) (by omega)]
    omega

def numOk (x : Int) : Bool := decide (-1000000000000 ≤ x) && decide (x ≤ 1000000000000)
def modeOk (s mode : Int) : Bool := (decide (0 ≤ s) && decide (s ≤ 20)) && (decide (0 ≤ mode) && decide (mode ≤ 2))
theorem numOk_iff {x : Int} : numOk x = true ↔ -1000000000000 ≤ x ∧ x ≤ 1000000000000 := by simp [numOk]
theorem modeOk_iff {s m : Int} : modeOk s m = true ↔ (0 ≤ s ∧ s ≤ 20) ∧ (0 ≤ m ∧ m ≤ 2) := by simp [modeOk]

theorem spec_wdMode_eq (s m : Int) : spec_wdMode.f s m = some (modeOk s m) := by
  unfold spec_wdMode.f modeOk
  rw [spec_l1In_eq]
  simp only [Option.bind_some, spec_l1In_eq]
  by_cases c : (decide (0 ≤ s) && decide (s ≤ 20)) = true
  · rw [if_pos c, c, Bool.true_and]
  · rw [if_neg c, Bool.eq_false_iff.mpr c, Bool.false_and]

def goodB (b : Int) : Bool := decide (2 ≤ b) && decide (b ≤ 16)
def hf (b : Int) : Int := 2 ^ (b - 1).toNat
def fitH (h : Int) (w : Bool) (x : Int) : Int := if w = true then (x + h) % (2 * h) - h else if x < -h then -h else if h - 1 < x then h - 1 else x
theorem goodB_iff {b : Int} : goodB b = true ↔ 2 ≤ b ∧ b ≤ 16 := by simp [goodB]
theorem half {b : Int} (g : goodB b = true) : (2 ≤ hf b ∧ hf b ≤ 32768) ∧ wrap64 (b - 1) = b - 1 ∧ 0 ≤ b - 1 ∧ shl .i64 1 (b - 1) = hf b ∧ 0 ≤ b ∧ shl .i64 1 b = 2 * hf b := by
  have g' := goodB_iff.1 g
  obtain ⟨n, rfl⟩ : ∃ n : Nat, b = ((n + 1 : Nat) : Int) := ⟨(b - 1).toNat, by omega⟩
  have e : ((n + 1 : Nat) : Int) - 1 = (n : Int) := by omega
  have eh : hf ((n + 1 : Nat) : Int) = 2 ^ n := by rw [hf, e, Int.toNat_natCast]
  have h1 : (2 : Nat) ^ n ≤ 2 ^ 15 := Nat.pow_le_pow_right (by decide) (by omega)
  have h2 : (2 : Nat) ^ 1 ≤ 2 ^ n := Nat.pow_le_pow_right (by decide) (by omega)
  have h3 : (2 : Int) ^ n = (((2 : Nat) ^ n : Nat) : Int) := by simp
  have h4 : (2 : Nat) ^ 15 = 32768 := by decide
  have h5 : (2 : Nat) ^ 1 = 2 := by decide
  rw [eh, e, shl_one (s := n) (by omega), shl_one (s := n + 1) (by omega), Int.pow_succ]
  refine ⟨⟨by omega, by omega⟩, w64 (by omega) (by omega), by omega, rfl, by omega, by omega⟩
theorem mod_uniq {x b q r : Int} (h : x = q * b + r) (h0 : 0 ≤ r) (h1 : r < b) : x % b = r := by
  have hb : 0 < b := by omega
  exact ((Int.ediv_emod_unique (q := q) hb).2 ⟨by rw [h, Int.mul_comm]; omega, h0, h1⟩).2
theorem tmod_fix (a n : Int) (hn : 0 < n) (hn2 : n ≤ 1000000000) : Int.tmod (wrap64 (Int.tmod a n + n)) n = a % n := by
  have h0 := Int.emod_nonneg a (show n ≠ 0 by omega)
  have h1 := Int.emod_lt_of_pos a hn
  have e := Int.tmod_eq_emod (a := a) (b := n)
  have hb : Int.tmod a n = a % n ∨ Int.tmod a n = a % n - n := by
    rw [e]
    split
    · left; omega
    · right; omega
  rcases hb with hb | hb
  · rw [hb, w64 (n := a % n + n) (by omega) (by omega), Int.tmod_eq_emod_of_nonneg (by omega)]
    simp
  · rw [hb, Int.sub_add_cancel, w64 (n := a % n) (by omega) (by omega), Int.tmod_eq_emod_of_nonneg (by omega)]
    simp
theorem fitH_bd (h : Int) (w : Bool) (x : Int) (hh : 1 ≤ h) : -h ≤ fitH h w x ∧ fitH h w x ≤ h - 1 := by
  have h0 := Int.emod_nonneg (x + h) (show 2 * h ≠ 0 by omega)
  have h1 := Int.emod_lt_of_pos (x + h) (show 0 < 2 * h by omega)
  unfold fitH
  split
  · omega
  · split
    · omega
    · split <;> omega
theorem fitH_id (h : Int) (w : Bool) (x : Int) (h0 : -h ≤ x) (h1 : x ≤ h - 1) : fitH h w x = x := by
  unfold fitH
  by_cases c : w = true
  · rw [if_pos c, mod_uniq (x := x + h) (b := 2 * h) (q := 0) (r := x + h) (by omega) (by omega) (by omega)]
    omega
  · rw [if_neg c, if_neg (by omega), if_neg (by omega)]
theorem fitH_two (h x : Int) (hh : 1 ≤ h) : fitH h true x = if x % (2 * h) > h - 1 then x % (2 * h) - 2 * h else x % (2 * h) := by
  have h0 := Int.emod_nonneg x (show 2 * h ≠ 0 by omega)
  have h1 := Int.emod_lt_of_pos x (show 0 < 2 * h by omega)
  have hd := mod_eq x (2 * h)
  unfold fitH
  rw [if_pos rfl]
  split
  · rw [mod_uniq (x := x + h) (b := 2 * h) (q := x / (2 * h) + 1) (r := x % (2 * h) - h) (by rw [Int.add_mul]; omega) (by omega) (by omega)]
    omega
  · rw [mod_uniq (x := x + h) (b := 2 * h) (q := x / (2 * h)) (r := x % (2 * h) + h) (by omega) (by omega) (by omega)]
    omega
theorem fit_back (h x y : Int) (h0 : -h ≤ x) (h1 : x ≤ h - 1) : fitH h true (fitH h true (x + y) - y) = x := by
  have hd := mod_eq (x + y + h) (2 * h)
  have e : fitH h true (x + y) - y = x - (x + y + h) / (2 * h) * (2 * h) := by
    unfold fitH
    rw [if_pos rfl]
    omega
  rw [e]
  unfold fitH
  rw [if_pos rfl, mod_uniq (x := x - (x + y + h) / (2 * h) * (2 * h) + h) (b := 2 * h) (q := -((x + y + h) / (2 * h))) (r := x + h) (by rw [Int.neg_mul]; omega) (by omega) (by omega)]
  omega
theorem fit_dvd (h x : Int) : ∃ q, x - fitH h true x = 2 * h * q := by
  have hd := mod_eq (x + h) (2 * h)
  refine ⟨(x + h) / (2 * h), ?_⟩
  unfold fitH
  rw [if_pos rfl, Int.mul_comm (2 * h)]
  omega
def inW (b x : Int) : Bool := decide (-(hf b) ≤ x) && decide (x ≤ hf b - 1)
theorem inW_iff {b x : Int} : inW b x = true ↔ -(hf b) ≤ x ∧ x ≤ hf b - 1 := by simp [inW]
theorem ediv_in {x b M : Int} (hb : 0 < b) (hM : 0 ≤ M) (hx : -M ≤ x ∧ x ≤ M) : -M ≤ x / b ∧ x / b ≤ M := by
  have h1 : (-M) * b ≤ (-M) * 1 := Int.mul_le_mul_of_nonpos_left (by omega) (by omega)
  have h2 : M * 1 ≤ M * b := Int.mul_le_mul_of_nonneg_left (by omega) hM
  exact ⟨Int.le_ediv_of_mul_le hb (by omega), Int.ediv_le_of_le_mul hb (by omega)⟩
theorem shM_in {x b M : Int} (m : Int) (hb : 0 < b) (hM : 0 ≤ M) (hx : -M ≤ x ∧ x ≤ M) : -M ≤ shM x b m ∧ shM x b m ≤ M + 1 := by
  have := ediv_in hb hM hx
  unfold shM
  split
  · omega
  · split <;> omega

theorem impl_isWord_eq (b : Int) (w : Bool) : impl_isWord.f b w = some (goodB b) := by
  unfold impl_isWord.f
  rw [impl_in_eq]
  rfl

theorem spec_wdGood_eq (b : Int) (w : Bool) : spec_wdGood.f b w = some (goodB b) := by
  unfold spec_wdGood.f
  rw [spec_l1In_eq]
  rfl

theorem impl_Word_ends_eq {b : Int} (w : Bool) (g : goodB b = true) : impl_Word_ends.f b w = some (-(hf b), hf b - 1) := by
  obtain ⟨h1, h2, h3, h4, h5, h6⟩ := half g
  unfold impl_Word_ends.f
  rw [h2, if_pos h3, h4, w64 (n := -(hf b)) (by omega) (by omega), w64 (n := hf b - 1) (by omega) (by omega)]

theorem impl_mod_eq (a n : Int) (hn : 0 < n) (hn2 : n ≤ 1000000000) : impl_mod.f a n = some (a % n) := by
  unfold impl_mod.f
  rw [if_neg (by omega), tmod_fix a n hn hn2]
theorem impl_Word_fit_eq {b : Int} (w : Bool) (x : Int) (g : goodB b = true) (hx : -4611686018427387904 ≤ x ∧ x ≤ 4611686018427387904) : impl_Word_fit.f b w x = some (fitH (hf b) w x) := by
  obtain ⟨h1, h2, h3, h4, h5, h6⟩ := half g
  have m0 := Int.emod_nonneg (x + hf b) (show 2 * hf b ≠ 0 by omega)
  have m1 := Int.emod_lt_of_pos (x + hf b) (show 0 < 2 * hf b by omega)
  have e1 : x - -(hf b) = x + hf b := by omega
  have e2 : hf b - 1 - -(hf b) = 2 * hf b - 1 := by omega
  have e3 : 2 * hf b - 1 + 1 = 2 * hf b := by omega
  unfold impl_Word_fit.f fitH
  rw [impl_Word_ends_eq w g]
  simp only [Option.bind_some]
  by_cases c : w = true
  · rw [if_pos c, if_pos c, e1, w64 (n := x + hf b) (by omega) (by omega), e2, w64 (n := 2 * hf b - 1) (by omega) (by omega), e3, w64 (n := 2 * hf b) (by omega) (by omega), impl_mod_eq _ _ (by omega) (by omega)]
    simp only [Option.bind_some]
    rw [w64 (n := (x + hf b) % (2 * hf b) + -(hf b)) (by omega) (by omega)]
    congr 1
  · rw [if_neg c, if_neg c]
    congr 1
    unfold mn mx
    repeat' split
    all_goals omega

theorem spec_wdHigh_eq {b : Int} (w : Bool) (g : goodB b = true) : spec_wdHigh.f b w = some (hf b - 1) := by
  obtain ⟨h1, h2, h3, h4, h5, h6⟩ := half g
  unfold spec_wdHigh.f
  rw [h2, if_pos h3, h4, w64 (n := hf b - 1) (by omega) (by omega)]

theorem spec_wdLow_eq {b : Int} (w : Bool) (g : goodB b = true) : spec_wdLow.f b w = some (-(hf b)) := by
  obtain ⟨h1, h2, h3, h4, h5, h6⟩ := half g
  unfold spec_wdLow.f
  rw [h2, if_pos h3, h4, w64 (n := -(hf b)) (by omega) (by omega)]

theorem spec_wdFit_eq {b : Int} (w : Bool) (x : Int) (g : goodB b = true) : spec_wdFit.f b w x = some (fitH (hf b) w x) := by
  obtain ⟨h1, h2, h3, h4, h5, h6⟩ := half g
  unfold spec_wdFit.f
  by_cases c : w = true
  · have m0 := Int.emod_nonneg x (show 2 * hf b ≠ 0 by omega)
    have m1 := Int.emod_lt_of_pos x (show 0 < 2 * hf b by omega)
    rw [if_pos c, if_pos h5, h6, if_neg (by omega), spec_wdHigh_eq w g, tmod_fix x _ (by omega) (by omega)]
    simp only [Option.bind_some]
    rw [c, fitH_two _ _ (by omega)]
    by_cases d : x % (2 * hf b) > hf b - 1
    · rw [if_pos d, if_pos d, w64 (n := x % (2 * hf b) - 2 * hf b) (by omega) (by omega)]
    · rw [if_neg d, if_neg d]
  · rw [if_neg c, spec_wdHigh_eq w g, spec_wdLow_eq w g]
    simp only [Option.bind_some, spec_l1Most.f, spec_l1Least.f]
    unfold fitH
    rw [if_neg c]
    by_cases d : -(hf b) > x
    · rw [if_pos d]
      simp only [Option.bind_some]
      rw [if_neg (show ¬ hf b - 1 < -(hf b) by omega), if_pos (show x < -(hf b) by omega)]
      rfl
    · rw [if_neg d]
      simp only [Option.bind_some]
      rw [if_neg (show ¬ x < -(hf b) by omega)]
      by_cases e : hf b - 1 < x
      · rw [if_pos e, if_pos e]
        rfl
      · rw [if_neg e, if_neg e]
        rfl

theorem impl_Word_has_eq {b : Int} (w : Bool) (x : Int) (g : goodB b = true) : impl_Word_has.f b w x = some (inW b x) := by
  unfold impl_Word_has.f
  rw [impl_Word_ends_eq w g]
  simp only [Option.bind_some, impl_in_eq]
  rfl

theorem spec_wdIn_eq (b : Int) (w : Bool) (x : Int) : spec_wdIn.f b w x = some (if goodB b = true then inW b x else false) := by
  unfold spec_wdIn.f
  rw [spec_wdGood_eq]
  simp only [Option.bind_some]
  by_cases g : goodB b = true
  · rw [if_pos g, if_pos g, spec_wdLow_eq w g, spec_wdHigh_eq w g]
    simp only [Option.bind_some, spec_l1In_eq]
    rfl
  · rw [if_neg g, if_neg g]

theorem word_ok {l : List Int} (hl : Bytes l) (a sd : Int) (h0 : 0 ≤ a) (h1 : a ≤ 10000000000000) : ∃ b w a' sd', spec_l1Cur_word.f l a sd = some (b, w, a', sd') ∧ a ≤ a' ∧ a' ≤ a + 10 := by
  unfold spec_l1Cur_word.f
  obtain ⟨v, a1, sd1, e1, ha1, hb1, -⟩ := one_ok hl a sd 12 h0 (by omega) (by omega)
  rw [e1]
  simp only [Option.bind_some]
  by_cases c : v = true
  · rw [if_pos c]
    obtain ⟨u, a2, sd2, e2, ha2, hb2, -⟩ := among_ok hl a1 sd1 [(-1), 1, 2, 16, 17, 4611686018427387904] (by omega) (by omega) (by simp) (by simp)
    rw [e2]
    simp only [Option.bind_some]
    obtain ⟨u3, a3, sd3, e3, ha3, hb3, -⟩ := one_ok hl a2 sd2 2 (by omega) (by omega) (by omega)
    rw [e3]
    simp only [Option.bind_some]
    exact ⟨_, _, _, _, rfl, by omega, by omega⟩
  · rw [if_neg c]
    obtain ⟨u, a2, sd2, e2, ha2, hb2, -⟩ := pick_ok hl a1 sd1 7 (by omega) (by omega) (by omega)
    rw [e2]
    simp only [Option.bind_some]
    obtain ⟨u3, a3, sd3, e3, ha3, hb3, -⟩ := one_ok hl a2 sd2 2 (by omega) (by omega) (by omega)
    rw [e3]
    simp only [Option.bind_some]
    exact ⟨_, _, _, _, rfl, by omega, by omega⟩

theorem inWord_ok {l : List Int} (hl : Bytes l) (a sd : Int) (b : Int) (w : Bool) (h0 : 0 ≤ a) (h1 : a ≤ 1000000000000) : ∃ v a' sd', Ev (fun k => spec_l1Cur_inWord.f k l a sd b w) (v, a', sd') ∧ a ≤ a' ∧ a' ≤ a + 20 ∧ (-4611686018427387904 ≤ v ∧ v ≤ 4611686018427387904) := by
  have plain : ∀ a sd : Int, 0 ≤ a → a ≤ 2000000000000 → ∃ v a' sd', Ev (fun k => spec_l1Cur_inWord.j0 k true l a sd b w) (v, a', sd') ∧ a ≤ a' ∧ a' ≤ a + 10 ∧ (-4611686018427387904 ≤ v ∧ v ≤ 4611686018427387904) := by
    intro a sd h0 h1
    obtain ⟨v, a1, sd1, e1, ha1, hb1, hv⟩ := number_ok hl a sd h0 (by omega)
    refine ⟨v, a1, sd1, ?_, ha1, hb1, hv⟩
    refine Ev.step (f := fun _ => some (v, a1, sd1)) (fun k => ?_) (Ev.now _)
    simp only [spec_l1Cur_inWord.j0, e1, Option.bind_some]
    rfl
  simp only [spec_l1Cur_inWord.f, spec_wdGood_eq, Option.bind_some]
  by_cases g : goodB b = true
  · obtain ⟨g1, g2, g3, g4, g5, g6⟩ := half g
    obtain ⟨v, a1, sd1, e1, ha1, hb1, -⟩ := one_ok hl a sd 12 h0 (by omega) (by omega)
    by_cases c : v = true
    · subst c
      obtain ⟨v, a', sd', h, ha, hb, hv⟩ := plain a1 sd1 (by omega) (by omega)
      exact ⟨v, a', sd', Ev.tt g (by simpa only [e1, Option.bind_some] using h), by omega, by omega, hv⟩
    · obtain ⟨u, a2, sd2, e2, ha2, hb2, hu, hu2⟩ := pick_ok hl a1 sd1 5 (by omega) (by omega) (by omega)
      by_cases d : u = 0
      · refine ⟨-(hf b), a2, sd2, Ev.tt g ?_, by omega, by omega, by omega, by omega⟩
        simp only [e1, Option.bind_some]
        refine Ev.step (f := fun _ => some (-(hf b), a2, sd2)) (fun k => ?_) (Ev.now _)
        simp only [spec_l1Cur_inWord.j0, if_neg c, e2, Option.bind_some, if_pos d, spec_wdLow_eq w g]
      · by_cases d1 : u = 1
        · refine ⟨hf b - 1, a2, sd2, Ev.tt g ?_, by omega, by omega, by omega, by omega⟩
          simp only [e1, Option.bind_some]
          refine Ev.step (f := fun _ => some (hf b - 1, a2, sd2)) (fun k => ?_) (Ev.now _)
          simp only [spec_l1Cur_inWord.j0, if_neg c, e2, Option.bind_some, if_neg d, if_pos d1, spec_wdHigh_eq w g]
        · obtain ⟨z, a3, sd3, e3, ha3, hb3, hz, hz2⟩ := pick_ok hl a2 sd2 256 (by omega) (by omega) (by omega)
          have m0 := Int.emod_nonneg (z * 257) (show 2 * hf b ≠ 0 by omega)
          have m1 := Int.emod_lt_of_pos (z * 257) (show 0 < 2 * hf b by omega)
          refine ⟨-(hf b) + (z * 257) % (2 * hf b), a3, sd3, Ev.tt g ?_, by omega, by omega, by omega, by omega⟩
          simp only [e1, Option.bind_some]
          refine Ev.step (f := fun _ => some (-(hf b) + (z * 257) % (2 * hf b), a3, sd3)) (fun k => ?_) (Ev.now _)
          simp only [spec_l1Cur_inWord.j0, if_neg c, e2, Option.bind_some, if_neg d, if_neg d1, spec_wdLow_eq w g, e3, if_pos g5, g6]
          rw [if_neg (by omega), w64 (n := z * 257) (by omega) (by omega), Int.tmod_eq_emod_of_nonneg (by omega), w64 (n := -(hf b) + z * 257 % (2 * hf b)) (by omega) (by omega)]
  · obtain ⟨v, a', sd', h, ha, hb, hv⟩ := plain a sd h0 (by omega)
    exact ⟨v, a', sd', Ev.ff g h, by omega, by omega, hv⟩

def foOk (a sh m b : Int) : Bool := (((decide (-1024 ≤ a) && decide (a ≤ 1024)) && (decide (0 ≤ sh) && decide (sh ≤ 10))) && (decide (0 ≤ m) && decide (m ≤ 2))) && goodB b
theorem foOk_iff {a sh m b : Int} : foOk a sh m b = true ↔ (-1024 ≤ a ∧ a ≤ 1024) ∧ (0 ≤ sh ∧ sh ≤ 10) ∧ (0 ≤ m ∧ m ≤ 2) ∧ goodB b = true := by
  simp [foOk, and_assoc]
def foRw (a sh m y x : Int) : Int := shM (a * y) (2 ^ sh.toNat) m + x
def foM (a sh m b : Int) (w : Bool) : List Int → Int → List Int
  | [], _ => []
  | x :: t, y => fitH (hf b) w (foRw a sh m y x) :: foM a sh m b w t (fitH (hf b) w (foRw a sh m y x))
theorem foM_length (a sh m b : Int) (w : Bool) : ∀ (l : List Int) (y : Int), (foM a sh m b w l y).length = l.length
  | [], _ => rfl
  | x :: t, y => by simp [foM, foM_length a sh m b w t]
theorem ay_in {a b y : Int} (g : goodB b = true) (ha : -1024 ≤ a ∧ a ≤ 1024) (hy : -(hf b) ≤ y ∧ y ≤ hf b - 1) : -33554432 ≤ a * y ∧ a * y ≤ 33554432 := by
  have h := (half g).1
  have h1 : (a.natAbs * y.natAbs : Nat) ≤ 1024 * 32768 := Nat.mul_le_mul (by omega) (by omega)
  have h2 := Int.natAbs_mul a y
  omega
theorem foRw_in {a sh m b y x : Int} (ok : foOk a sh m b = true) (hy : -(hf b) ≤ y ∧ y ≤ hf b - 1) (hx : -100000 ≤ x ∧ x ≤ 100000) : (-33554432 ≤ shM (a * y) (2 ^ sh.toNat) m ∧ shM (a * y) (2 ^ sh.toNat) m ≤ 33554433) ∧ (-40000000 ≤ foRw a sh m y x ∧ foRw a sh m y x ≤ 40000000) := by
  obtain ⟨h1, h2, h3, h4⟩ := foOk_iff.1 ok
  have := shM_in (M := 33554432) m (pow2_pos sh.toNat) (by omega) (ay_in h4 h1 hy)
  unfold foRw
  omega

theorem spec_foGood_eq (a sh m b : Int) (w : Bool) : spec_foGood.f a sh m b w = some (foOk a sh m b) := by
  unfold spec_foGood.f foOk
  simp only [spec_l1In_eq, spec_wdMode_eq, spec_wdGood_eq, Option.bind_some]
  by_cases c1 : (decide (-1024 ≤ a) && decide (a ≤ 1024)) = true
  · rw [if_pos c1, c1]
    by_cases c2 : (decide (0 ≤ sh) && decide (sh ≤ 10)) = true
    · rw [if_pos c2, c2]
      have c2' : 0 ≤ sh ∧ sh ≤ 10 := by simpa using c2
      by_cases c3 : (decide (0 ≤ m) && decide (m ≤ 2)) = true
      · have c3' : 0 ≤ m ∧ m ≤ 2 := by simpa using c3
        rw [if_pos (modeOk_iff.2 ⟨by omega, c3'⟩), c3]
        rfl
      · rw [if_neg (fun h => c3 (by have := (modeOk_iff.1 h).2; simpa using this)), Bool.eq_false_iff.mpr c3]
        rfl
    · rw [if_neg c2, Bool.eq_false_iff.mpr c2]
      simp
  · rw [if_neg c1, Bool.eq_false_iff.mpr c1]
    simp

theorem impl_isFirst_eq (a sh m b : Int) (w : Bool) : impl_isFirst.f a sh m b w = some (foOk a sh m b) := by
  unfold impl_isFirst.f impl_isFactor.f impl_isScale.f foOk
  simp only [impl_in_eq, impl_isWord_eq, Option.bind_some]
  by_cases c1 : (decide (-1024 ≤ a) && decide (a ≤ 1024)) = true
  · rw [if_pos c1, c1]
    by_cases c2 : (decide (0 ≤ sh) && decide (sh ≤ 10)) = true
    · rw [if_pos c2, c2]
      simp only [Option.bind_some]
      by_cases c3 : (decide (0 ≤ m) && decide (m ≤ 2)) = true
      · rw [if_pos c3, c3]
        rfl
      · rw [if_neg c3, Bool.eq_false_iff.mpr c3]
        rfl
    · rw [if_neg c2, Bool.eq_false_iff.mpr c2]
      simp
  · rw [if_neg c1, Bool.eq_false_iff.mpr c1]
    simp

theorem spec_foAsked_eq (a sh m b : Int) (w : Bool) (y x : Int) : spec_foAsked.f a sh m b w y x = some (foOk a sh m b && inW b y && (decide (-100000 ≤ x) && decide (x ≤ 100000))) := by
  unfold spec_foAsked.f
  simp only [spec_foGood_eq, spec_wdIn_eq, spec_l1In_eq, Option.bind_some]
  by_cases c : foOk a sh m b = true
  · have g := (foOk_iff.1 c).2.2.2
    rw [if_pos c, if_pos g, c, Bool.true_and]
    by_cases d : inW b y = true
    · rw [if_pos d, d, Bool.true_and]
    · rw [if_neg d, Bool.eq_false_iff.mpr d, Bool.false_and]
  · rw [if_neg c, Bool.eq_false_iff.mpr c, Bool.false_and, Bool.false_and]

theorem laws_uSame_l0 (l : List Int) (hl : l.length ≤ 140737488351232) : ∀ (t p : List Int), l = p ++ t → Ev (fun k => laws_uSame.l0 k l l (l.length : Int) (p.length : Int)) true
  | [], p, h => by
    refine Ev.step (f := fun _ => some true) (fun k => ?_) (Ev.now _)
    subst h
    simp [laws_uSame.l0]
  | x :: t, p, h => by
    have e1 : (p.length : Int) < (l.length : Int) := by rw [h]; exact lt_mid p t x
    have e3 : wrap64 ((p.length : Int) + 1) = ((p ++ [x]).length : Int) := nx_mid p t x (h ▸ hl)
    refine Ev.step (fun k => ?_) (laws_uSame_l0 l hl t (p ++ [x]) (by simp [h]))
    simp only [laws_uSame.l0, if_pos e1, if_pos (Int.natCast_nonneg _), e3]
    rw [if_pos trivial]
theorem laws_uSame_ev (l : List Int) (hl : l.length ≤ 140737488351232) : Ev (fun k => laws_uSame.f k l l) true := by
  simp only [laws_uSame.f]
  exact Ev.tt trivial (laws_uSame_l0 l hl l [] rfl)

theorem laws_uAbs_eq (x : Int) (hx : -4611686018427387904 ≤ x) : laws_uAbs.f x = some (x.natAbs : Int) := by
  simp only [laws_uAbs.f]
  by_cases c : x < 0
  · rw [if_pos c, w64 (n := -x) (by omega) (by omega)]
    congr 1
    omega
  · rw [if_neg c]
    congr 1
    omega

theorem first_ok {l : List Int} (hl : Bytes l) (a sd n : Int) (h0 : 0 ≤ a) (h1 : a ≤ 10000000000) (hn : 0 ≤ n ∧ n ≤ 1000) : ∃ A sh m b w a' sd', spec_l1Cur_first.f l a sd n = some (A, sh, m, b, w, a', sd') ∧ a ≤ a' ∧ a' ≤ a + 40 := by
  unfold spec_l1Cur_first.f
  obtain ⟨v, a1, sd1, e1, ha1, hb1, hv, hv2⟩ := pick_ok hl a sd 5 h0 (by omega) (by omega)
  have hs : wrap64 (shl .i64 2 v + 3) ≤ 1000000 := by
    obtain ⟨n, rfl⟩ : ∃ n : Nat, v = (n : Int) := ⟨v.toNat, by omega⟩
    have h1 : (2 : Nat) ^ n ≤ 2 ^ 4 := Nat.pow_le_pow_right (by decide) (by omega)
    have h3 : (2 : Int) ^ n = (((2 : Nat) ^ n : Nat) : Int) := by simp
    have h4 : (2 : Nat) ^ 4 = 16 := by decide
    have h5 : (0 : Int) < 2 ^ n := Int.pow_pos (by decide)
    rw [shl_mul (s := n) (by omega) 2 (by omega) (by omega), w64 (n := 2 * 2 ^ n + 3) (by omega) (by omega)]
    omega
  obtain ⟨v2, a2, sd2, e2, ha2, hb2, -⟩ := pick_ok hl a1 sd1 (wrap64 (shl .i64 2 v + 3)) (by omega) (by omega) hs
  obtain ⟨v3, a3, sd3, e3, ha3, hb3, -⟩ := pick_ok hl a2 sd2 3 (by omega) (by omega) (by omega)
  have hw : wrap64 (n - 1) = n - 1 := w64 (by omega) (by omega)
  obtain ⟨v4, a4, sd4, e4, ha4, hb4, -⟩ := pick_ok hl a3 sd3 (n - 1) (by omega) (by omega) (by omega)
  obtain ⟨v5, a5, sd5, e5, ha5, hb5, -⟩ := one_ok hl a4 sd4 2 (by omega) (by omega) (by omega)
  obtain ⟨v6, a6, sd6, e6, ha6, hb6, -⟩ := pick_ok hl a5 sd5 18 (by omega) (by omega) (by omega)
  rw [e1]
  simp only [Option.bind_some]
  rw [if_pos hv, e2]
  simp only [Option.bind_some, hw, e3, e4, e5, e6]
  by_cases c0 : v6 = 0
  · obtain ⟨v7, a7, sd7, e7, ha7, hb7, -⟩ := among_ok hl a6 sd6 [1024, (-1024), 1025, (-4611686018427387904), 0] (by omega) (by omega) (by simp) (by simp)
    rw [if_pos c0, e7]
    exact ⟨_, _, _, _, _, _, _, rfl, by show a ≤ a7; omega, by show a7 ≤ a + 40; omega⟩
  · rw [if_neg c0]
    by_cases c1 : v6 = 1
    · obtain ⟨v7, a7, sd7, e7, ha7, hb7, -⟩ := among_ok hl a6 sd6 [10, 11, (-1), 64] (by omega) (by omega) (by simp) (by simp)
      rw [if_pos c1, e7]
      exact ⟨_, _, _, _, _, _, _, rfl, by show a ≤ a7; omega, by show a7 ≤ a + 40; omega⟩
    · rw [if_neg c1]
      by_cases c2 : v6 = 2
      · obtain ⟨v7, a7, sd7, e7, ha7, hb7, -⟩ := among_ok hl a6 sd6 [3, (-1)] (by omega) (by omega) (by simp) (by simp)
        rw [if_pos c2, e7]
        exact ⟨_, _, _, _, _, _, _, rfl, by show a ≤ a7; omega, by show a7 ≤ a + 40; omega⟩
      · rw [if_neg c2]
        by_cases c3 : v6 = 3
        · obtain ⟨b, w, a7, sd7, e7, ha7, hb7⟩ := word_ok hl a6 sd6 (by omega) (by omega)
          rw [if_pos c3, e7]
          exact ⟨_, _, _, _, _, _, _, rfl, by show a ≤ a7; omega, by show a7 ≤ a + 40; omega⟩
        · rw [if_neg c3]
          exact ⟨_, _, _, _, _, _, _, rfl, by omega, by omega⟩

theorem sample_ok {l : List Int} (hl : Bytes l) (a sd n : Int) (h0 : 0 ≤ a) (h1 : a ≤ 10000000000) (hn : 0 ≤ n ∧ n ≤ 1000) : ∃ v a' sd', spec_l1Cur_sample.f l a sd n = some (v, a', sd') ∧ a ≤ a' ∧ a' ≤ a + 10 := by
  unfold spec_l1Cur_sample.f
  obtain ⟨v, a1, sd1, e1, ha1, hb1, -⟩ := one_ok hl a sd 14 h0 (by omega) (by omega)
  have hw : wrap64 (wrap64 (2 * n) + 1) = 2 * n + 1 := by
    rw [w64 (n := 2 * n) (by omega) (by omega), w64 (n := 2 * n + 1) (by omega) (by omega)]
  rw [e1]
  simp only [Option.bind_some, hw]
  by_cases c : v = true
  · obtain ⟨v7, a7, sd7, e7, ha7, hb7, -⟩ := among_ok hl a1 sd1 [100000, (-100000), 100001, (-4611686018427387904)] (by omega) (by omega) (by simp) (by simp)
    rw [if_pos c, e7]
    exact ⟨v7, a7, sd7, rfl, by omega, by omega⟩
  · obtain ⟨v7, a7, sd7, e7, ha7, hb7, -⟩ := pick_ok hl a1 sd1 (2 * n + 1) (by omega) (by omega) (by omega)
    rw [if_neg c, e7]
    exact ⟨wrap64 (v7 - n), a7, sd7, rfl, by omega, by omega⟩

theorem drawFirstStep_ok {l : List Int} (hl : Bytes l) : ∃ A sh m b w y x, Ev (fun k => spec_DrawFirstStep.f k l) (A, sh, m, b, w, y, x) := by
  obtain ⟨A, sh, m, b, w, a1, sd1, e1, ha, hb⟩ := first_ok hl 0 0 9 (by omega) (by omega) (by omega)
  obtain ⟨y, a2, sd2, e2, ha2, hb2, -⟩ := inWord_ok hl a1 sd1 b w (by omega) (by omega)
  obtain ⟨x, a3, sd3, e3, -, -⟩ := sample_ok hl a2 sd2 20 (by omega) (by omega) (by omega)
  refine ⟨A, sh, m, b, w, y, x, ?_⟩
  simp only [spec_DrawFirstStep.f, e1, Option.bind_some]
  refine Ev.bind e2 ?_
  simp only [e3, Option.bind_some]
  exact Ev.now _

theorem fr_raw_s (a sh m b : Int) (w : Bool) (ok : foOk a sh m b = true) {y x : Int} (h0 : -(hf b) ≤ y ∧ y ≤ hf b - 1) (hx : -100000 ≤ x ∧ x ≤ 100000) : Ev (fun k => spec_foRaw.f k a sh m b w y x) (foRw a sh m y x) := by
  obtain ⟨k1, k2, k3, g⟩ := foOk_iff.1 ok
  have hr := foRw_in ok h0 hx
  have hay := ay_in g k1 h0
  obtain ⟨n, rfl⟩ : ∃ n : Nat, sh = (n : Int) := ⟨sh.toNat, by omega⟩
  rw [Int.toNat_natCast] at hr
  simp only [spec_foRaw.f]
  rw [w64 (n := a * y) (by omega) (by omega)]
  refine Ev.bind (spec_wdShift_ev (a * y) n m (by omega) (by omega)) (Ev.to (Ev.now _) ?_)
  rw [w64 (n := shM (a * y) (2 ^ n) m + x) (by omega) (by omega), foRw, Int.toNat_natCast]
theorem fr_raw_i (a sh m b : Int) (w : Bool) (ok : foOk a sh m b = true) {y x : Int} (h0 : -(hf b) ≤ y ∧ y ≤ hf b - 1) (hx : -100000 ≤ x ∧ x ≤ 100000) : Ev (fun k => impl_First_raw.f k a sh m b w y x) (foRw a sh m y x) := by
  obtain ⟨k1, k2, k3, g⟩ := foOk_iff.1 ok
  have hr := foRw_in ok h0 hx
  have hay := ay_in g k1 h0
  obtain ⟨n, rfl⟩ : ∃ n : Nat, sh = (n : Int) := ⟨sh.toNat, by omega⟩
  rw [Int.toNat_natCast] at hr
  simp only [impl_First_raw.f]
  rw [w64 (n := a * y) (by omega) (by omega)]
  refine Ev.bind (impl_shifted_ev (a * y) n m (by omega) (by omega)) (Ev.to (Ev.now _) ?_)
  rw [w64 (n := shM (a * y) (2 ^ n) m + x) (by omega) (by omega), foRw, Int.toNat_natCast]
theorem fr_step_s (a sh m b : Int) (w : Bool) (ok : foOk a sh m b = true) {y x : Int} (h0 : -(hf b) ≤ y ∧ y ≤ hf b - 1) (hx : -100000 ≤ x ∧ x ≤ 100000) : Ev (fun k => spec_foStep.f k a sh m b w y x) (fitH (hf b) w (foRw a sh m y x)) := by
  have g := (foOk_iff.1 ok).2.2.2
  simp only [spec_foStep.f]
  exact Ev.bind (fr_raw_s a sh m b w ok h0 hx) (Ev.dbind (spec_wdFit_eq w _ g) (Ev.now _))
theorem fr_step_i (a sh m b : Int) (w : Bool) (ok : foOk a sh m b = true) {y x : Int} (h0 : -(hf b) ≤ y ∧ y ≤ hf b - 1) (hx : -100000 ≤ x ∧ x ≤ 100000) : Ev (fun k => impl_First_step.f k a sh m b w y x) (fitH (hf b) w (foRw a sh m y x)) := by
  have g := (foOk_iff.1 ok).2.2.2
  have hr := foRw_in ok h0 hx
  simp only [impl_First_step.f]
  exact Ev.bind (fr_raw_i a sh m b w ok h0 hx) (Ev.dbind (impl_Word_fit_eq w _ g (by omega)) (Ev.now _))
def frAsk (a sh m b y x : Int) : Bool := foOk a sh m b && inW b y && (decide (-100000 ≤ x) && decide (x ≤ 100000))
theorem frAsk_iff {a sh m b y x : Int} : frAsk a sh m b y x = true ↔ foOk a sh m b = true ∧ (-(hf b) ≤ y ∧ y ≤ hf b - 1) ∧ (-100000 ≤ x ∧ x ≤ 100000) := by
  simp only [frAsk, Bool.and_eq_true, decide_eq_true_eq, inW_iff]
  exact ⟨fun h => ⟨h.1.1, h.1.2, h.2⟩, fun h => ⟨⟨h.1, h.2.1⟩, h.2.2⟩⟩
def firstStepM (a sh m b : Int) (w : Bool) (y x : Int) : Int × Bool := if frAsk a sh m b y x = true then (fitH (hf b) w (foRw a sh m y x), true) else (0, false)

theorem impl_FirstStep_ev (a sh m b : Int) (w : Bool) (y x : Int) : Ev (fun k => impl_FirstStep.f k a sh m b w y x) (firstStepM a sh m b w y x) := by
  simp only [impl_FirstStep.f, firstStepM, impl_First_isAt.f, impl_isFirst_eq, Option.bind_some]
  by_cases c : foOk a sh m b = true
  · have g := (foOk_iff.1 c).2.2.2
    rw [if_pos c, impl_Word_has_eq w y g]
    simp only [Option.bind_some]
    by_cases e : inW b y = true
    · refine Ev.tt e ?_
      simp only [impl_isSample.f, impl_in_eq, Option.bind_some]
      by_cases d : -100000 ≤ x ∧ x ≤ 100000
      · rw [if_pos (frAsk_iff.2 ⟨c, inW_iff.1 e, d⟩)]
        exact Ev.tt (by simpa using d) (Ev.bind (fr_step_i a sh m b w c (inW_iff.1 e) d) (Ev.now _))
      · rw [if_neg (fun h => d (frAsk_iff.1 h).2.2)]
        exact Ev.ff (by simpa using d) (Ev.now _)
    · rw [if_neg (fun h => e (inW_iff.2 (frAsk_iff.1 h).2.1))]
      exact Ev.ff e (Ev.now _)
  · rw [if_neg c, if_neg (fun h => c (frAsk_iff.1 h).1)]
    simp only [Option.bind_some]
    exact Ev.ff (by decide) (Ev.now _)

theorem fr_gcd_stp (a b : Nat) : Nat.gcd a (b + 1) = Nat.gcd (b + 1) (a % (b + 1)) := by
  rw [Nat.gcd_comm a, Nat.gcd_rec (b + 1) a, Nat.gcd_comm]
theorem fr_gcd_l0 : ∀ (n b a : Nat), b ≤ n → Ev (fun k => impl_gcd.l0 k (a : Int) (b : Int)) ((Nat.gcd a b : Nat) : Int)
  | _, 0, a, _ => by
    refine Ev.to (Ev.step (f := fun _ => some (a : Int)) (fun k => ?_) (Ev.now _)) (by simp)
    simp [impl_gcd.l0]
  | 0, b + 1, a, h => by omega
  | n + 1, b + 1, a, h => by
    have hm : a % (b + 1) < b + 1 := Nat.mod_lt _ (by omega)
    have ih := fr_gcd_l0 n (a % (b + 1)) (b + 1) (by omega)
    refine Ev.step (fun k => by simp only [impl_gcd.l0]; rfl) ?_
    rw [tm, fr_gcd_stp]
    exact Ev.ff (by omega) ih
theorem fr_ratio_l0 (p q : Int) : ∀ (n b a : Nat), b ≤ n → 1 ≤ Nat.gcd a b → Ev (fun k => spec_foRatio.l0 k p q (a : Int) (b : Int)) (wrap64 (Int.tdiv p ((Nat.gcd a b : Nat) : Int)), wrap64 (Int.tdiv q ((Nat.gcd a b : Nat) : Int)))
  | _, 0, a, _, hg => by
    rw [Nat.gcd_zero_right] at hg ⊢
    refine Ev.step (fun k => by simp only [spec_foRatio.l0]; rfl) ?_
    exact Ev.ff (by omega) (Ev.ff (by omega) (Ev.now _))
  | 0, b + 1, a, h, hg => by omega
  | n + 1, b + 1, a, h, hg => by
    have hm : a % (b + 1) < b + 1 := Nat.mod_lt _ (by omega)
    rw [fr_gcd_stp] at hg ⊢
    have ih := fr_ratio_l0 p q n (a % (b + 1)) (b + 1) (by omega) hg
    refine Ev.step (fun k => by simp only [spec_foRatio.l0]; rfl) ?_
    rw [tm]
    exact Ev.tt (by omega) (Ev.ff (by omega) ih)
theorem fr_div {p g : Nat} (hp : p ≤ 1000000) (hg : 1 ≤ g) : wrap64 (Int.tdiv (p : Int) (g : Int)) = ((p / g : Nat) : Int) := by
  rw [td]
  exact w64n (Nat.le_trans (Nat.div_le_self p g) (by omega))
/-- a ratio in lowest terms -/
theorem fr_lowest (p q : Nat) (hp : p ≤ 1000000) (hq : q ≤ 1000000) (hq1 : 1 ≤ q) : Ev (fun k => impl_lowest.f k (p : Int) (q : Int)) (((p / Nat.gcd p q : Nat) : Int), ((q / Nat.gcd p q : Nat) : Int)) := by
  have hg : 1 ≤ Nat.gcd p q := Nat.gcd_pos_of_pos_right _ hq1
  have h1 : Ev (fun k => impl_gcd.f k (p : Int) (q : Int)) ((Nat.gcd p q : Nat) : Int) := by
    simp only [impl_gcd.f]
    refine Ev.dbind (impl_size_eq (p : Int) (by omega)) (Ev.dbind (impl_size_eq (q : Int) (by omega)) ?_)
    rw [Int.natAbs_natCast, Int.natAbs_natCast]
    exact fr_gcd_l0 q q p (Nat.le_refl _)
  simp only [impl_lowest.f]
  refine Ev.bind h1 (Ev.ff (by omega) (Ev.ff (by omega) (Ev.to (Ev.now _) ?_)))
  rw [fr_div hp hg, fr_div hq hg]
theorem fr_ratio (p q : Nat) (hp : p ≤ 1000000) (hq : q ≤ 1000000) (hq1 : 1 ≤ q) : Ev (fun k => spec_foRatio.f k (p : Int) (q : Int)) (((p / Nat.gcd p q : Nat) : Int), ((q / Nat.gcd p q : Nat) : Int)) := by
  have hg : 1 ≤ Nat.gcd p q := Nat.gcd_pos_of_pos_right _ hq1
  simp only [spec_foRatio.f]
  refine Ev.ff (by omega) ?_
  refine Ev.step (fun k => by simp only [spec_foRatio.j0]; rfl) ?_
  refine Ev.dbind (spec_l1Abs_eq (p : Int) (by omega)) ?_
  rw [Int.natAbs_natCast]
  refine Ev.to (fr_ratio_l0 (p : Int) (q : Int) q q p (Nat.le_refl _) hg) ?_
  rw [fr_div hp hg, fr_div hq hg]

/-! steps one after the other -/
def itr {α : Type} (g : α → α) : Nat → α → α
  | 0, y => y
  | k + 1, y => itr g k (g y)
def orbL {α : Type} (g : α → α) : Nat → α → List α
  | 0, _ => []
  | p + 1, y => y :: orbL g p (g y)
theorem itr_add {α : Type} (g : α → α) (a : Nat) : ∀ (b : Nat) (y : α), itr g (a + b) y = itr g a (itr g b y)
  | 0, y => rfl
  | b + 1, y => by
    show itr g (a + b) (g y) = itr g a (itr g b (g y))
    exact itr_add g a b (g y)
theorem itr_suc {α : Type} (g : α → α) (k : Nat) (y : α) : itr g (k + 1) y = g (itr g k y) := by
  rw [Nat.add_comm, itr_add]
  rfl
theorem orbL_length {α : Type} (g : α → α) : ∀ (p : Nat) (y : α), (orbL g p y).length = p
  | 0, _ => rfl
  | p + 1, y => by simp [orbL, orbL_length g p]
theorem orbL_get {α : Type} (g : α → α) : ∀ (p : Nat) (y : α) (j : Nat), j < p → (orbL g p y)[j]? = some (itr g j y)
  | 0, _, _, h => by omega
  | p + 1, y, 0, _ => by simp [orbL, itr]
  | p + 1, y, j + 1, h => by
    simp only [orbL, List.getElem?_cons_succ]
    exact orbL_get g p (g y) j (by omega)
theorem orbL_mem {α : Type} (g : α → α) {p : Nat} {y x : α} : x ∈ orbL g p y ↔ ∃ j, j < p ∧ itr g j y = x := by
  rw [List.mem_iff_getElem?]
  constructor
  · rintro ⟨j, h⟩
    have hj : j < p := by
      have := (List.getElem?_eq_some_iff.1 h).1
      rwa [orbL_length] at this
    rw [orbL_get g p y j hj] at h
    exact ⟨j, hj, by simpa using h⟩
  · rintro ⟨j, hj, rfl⟩
    exact ⟨j, orbL_get g p y j hj⟩
theorem orbL_add {α : Type} (g : α → α) (b : Nat) : ∀ (a : Nat) (y : α), orbL g (a + b) y = orbL g a y ++ orbL g b (itr g a y)
  | 0, y => by simp [orbL, itr]
  | a + 1, y => by
    rw [show a + 1 + b = (a + b) + 1 by omega]
    simp only [orbL, itr, List.cons_append]
    rw [orbL_add g b a]
theorem itr_in {α : Type} {g : α → α} {D : α → Prop} (hg : ∀ y, D y → D (g y)) : ∀ (k : Nat) (y : α), D y → D (itr g k y)
  | 0, _, h => h
  | k + 1, y, h => itr_in hg k (g y) (hg y h)
theorem itr_mul {α : Type} {g : α → α} {y : α} {p : Nat} (h : itr g p y = y) : ∀ n, itr g (n * p) y = y
  | 0 => by simp [itr]
  | n + 1 => by rw [Nat.succ_mul, itr_add, h, itr_mul h n]
theorem itr_per {α : Type} {g : α → α} {y : α} {p : Nat} (h : itr g p y = y) (k : Nat) : itr g p (itr g k y) = itr g k y := by
  rw [← itr_add, Nat.add_comm, itr_add, h]
theorem itr_back {α : Type} {g : α → α} {y z : α} {p k : Nat} (hp : 1 ≤ p) (h : itr g p y = y) (hk : itr g k y = z) : ∃ j, itr g j z = y := by
  refine ⟨k * p - k, ?_⟩
  rw [← hk, ← itr_add, Nat.sub_add_cancel (Nat.le_mul_of_pos_right k hp), itr_mul h]
theorem itr_mod {α : Type} {g : α → α} {y : α} {p : Nat} (h : itr g p y = y) (k : Nat) : itr g k y = itr g (k % p) y := by
  have e : k = k % p + (k / p) * p := by rw [Nat.mul_comm]; exact (Nat.mod_add_div k p).symm
  conv => lhs; rw [e]
  rw [itr_add, itr_mul h]
/-- a row without a repetition -/
theorem orb_nodup {α : Type} {g : α → α} {y : α} {p : Nat} (h : itr g p y = y) (hm : ∀ j, 0 < j → j < p → itr g j y ≠ y) : (orbL g p y).Nodup := by
  refine List.pairwise_iff_getElem.2 fun i j hi hj hij e => ?_
  rw [orbL_length] at hi hj
  have e1 := orbL_get g p y i hi
  have e2 := orbL_get g p y j hj
  rw [List.getElem?_eq_getElem (by rw [orbL_length]; omega)] at e1 e2
  have e3 : itr g i y = itr g j y := by
    rw [← Option.some.inj e1, ← Option.some.inj e2]
    exact e
  have e4 : itr g (p - i) (itr g i y) = y := by rw [← itr_add, show p - i + i = p by omega, h]
  have e5 : itr g (p - i) (itr g j y) = itr g (j - i) y := by rw [← itr_add, show p - i + j = (j - i) + p by omega, itr_add, h]
  rw [e3, e5] at e4
  exact hm (j - i) (by omega) (by omega) e4
theorem not_nodup {α : Type} {g : α → α} {y : α} : ∀ {n : Nat}, ¬ (orbL g n y).Nodup → ∃ i j, i < j ∧ j < n ∧ itr g i y = itr g j y := by
  intro n h
  refine Classical.byContradiction fun hc => h ?_
  refine List.pairwise_iff_getElem.2 fun i j hi hj hij e => hc ?_
  rw [orbL_length] at hi hj
  have e1 := orbL_get g n y i hi
  have e2 := orbL_get g n y j hj
  rw [List.getElem?_eq_getElem (by rw [orbL_length]; omega)] at e1 e2
  refine ⟨i, j, hij, hj, ?_⟩
  rw [← Option.some.inj e1, ← Option.some.inj e2]
  exact e
theorem orb_meet {α : Type} {g : α → α} {D : α → Prop} {dom : List α} (hg : ∀ y, D y → D (g y)) (hd : ∀ y, D y → y ∈ dom) {y : α} (hy : D y) : ∃ i j, i < j ∧ j ≤ dom.length ∧ itr g i y = itr g j y := by
  have h : ¬ (orbL g (dom.length + 1) y).Nodup := fun h => by
    have := h.length_le_of_subset (l₂ := dom) (fun x hx => by obtain ⟨j, -, rfl⟩ := (orbL_mem g).1 hx; exact hd _ (itr_in hg j y hy))
    rw [orbL_length] at this
    omega
  obtain ⟨i, j, h1, h2, h3⟩ := not_nodup h
  exact ⟨i, j, h1, by omega, h3⟩
theorem least_of {P : Nat → Prop} {n : Nat} (h : P n) : ∃ m, P m ∧ ∀ j, j < m → ¬ P j := by
  induction n using Nat.strongRecOn with
  | _ n ih =>
    by_cases c : ∃ j, j < n ∧ P j
    · obtain ⟨j, hj, hp⟩ := c
      exact ih j hj hp
    · exact ⟨n, h, fun j hj hp => c ⟨j, hj, hp⟩⟩
/-- the least period -/
theorem per_least {α : Type} {g : α → α} {y : α} {q : Nat} (hq : 1 ≤ q) (h : itr g q y = y) : ∃ p, 1 ≤ p ∧ itr g p y = y ∧ ∀ j, 0 < j → j < p → itr g j y ≠ y := by
  obtain ⟨p, ⟨h1, h2⟩, h3⟩ := least_of (P := fun n => 1 ≤ n ∧ itr g n y = y) ⟨hq, h⟩
  exact ⟨p, h1, h2, fun j h4 h5 h6 => h3 j h5 ⟨h4, h6⟩⟩
/-- walks that mark: what is marked, and one number of each cycle -/
structure WkInv {α : Type} (g : α → α) (V H : List α) : Prop where
  closed : ∀ y, y ∈ V → g y ∈ V
  heads : ∀ h, h ∈ H → h ∈ V ∧ ∃ p, 1 ≤ p ∧ itr g p h = h
  cover : ∀ y, y ∈ V → (∃ p, 1 ≤ p ∧ itr g p y = y) → ∃ h, h ∈ H ∧ ∃ k, itr g k y = h
  apart : H.Pairwise fun a b => ∀ k, itr g k a ≠ b
theorem WkInv.start {α : Type} (g : α → α) : WkInv g [] [] := ⟨by simp, by simp, by simp, by simp⟩
theorem WkInv.stay {α : Type} {g : α → α} {V H : List α} (I : WkInv g V H) : ∀ (k : Nat) (y : α), y ∈ V → itr g k y ∈ V
  | 0, _, h => h
  | k + 1, y, h => I.stay k (g y) (I.closed y h)
/-- a walk of n new numbers from y that ends at a marked one of elder walks -/
theorem WkInv.old {α : Type} {g : α → α} {V H : List α} (I : WkInv g V H) {y : α} {n : Nat} (hn : ∀ j, j < n → itr g j y ∉ V) (he : itr g n y ∈ V) : WkInv g (orbL g n y ++ V) H := by
  have hin : ∀ j, j ≤ n → itr g j y ∈ orbL g n y ++ V := fun j hj => by
    by_cases c : j < n
    · exact List.mem_append_left _ ((orbL_mem g).2 ⟨j, c, rfl⟩)
    · obtain rfl : j = n := by omega
      exact List.mem_append_right _ he
  refine ⟨fun z hz => ?_, fun h hh => ⟨List.mem_append_right _ (I.heads h hh).1, (I.heads h hh).2⟩, fun z hz hp => ?_, I.apart⟩
  · rcases List.mem_append.1 hz with hz | hz
    · obtain ⟨j, hj, rfl⟩ := (orbL_mem g).1 hz
      rw [← itr_suc g]
      exact hin (j + 1) hj
    · exact List.mem_append_right _ (I.closed z hz)
  · rcases List.mem_append.1 hz with hz | hz
    · obtain ⟨j, hj, rfl⟩ := (orbL_mem g).1 hz
      obtain ⟨p, h1, h2⟩ := hp
      have e : itr g (n - j) (itr g j y) ∈ V := by rw [← itr_add, show n - j + j = n by omega]; exact he
      obtain ⟨k, hk⟩ := itr_back h1 h2 (rfl : itr g (n - j) (itr g j y) = _)
      exact absurd (hk ▸ I.stay k _ e) (hn j hj)
    · exact I.cover z hz hp
/-- a walk of n new numbers that ends at one of its own -/
theorem WkInv.new {α : Type} {g : α → α} {V H : List α} (I : WkInv g V H) {y : α} {n m : Nat} (hn : ∀ j, j < n → itr g j y ∉ V) (hm : m < n) (he : itr g n y = itr g m y) : WkInv g (orbL g n y ++ V) (H ++ [itr g n y]) := by
  have hin : ∀ j, j ≤ n → itr g j y ∈ orbL g n y ++ V := fun j hj => by
    by_cases c : j < n
    · exact List.mem_append_left _ ((orbL_mem g).2 ⟨j, c, rfl⟩)
    · obtain rfl : j = n := by omega
      exact List.mem_append_left _ ((orbL_mem g).2 ⟨m, hm, he.symm⟩)
  refine ⟨fun z hz => ?_, fun h hh => ?_, fun z hz hp => ?_, ?_⟩
  · rcases List.mem_append.1 hz with hz | hz
    · obtain ⟨j, hj, rfl⟩ := (orbL_mem g).1 hz
      rw [← itr_suc g]
      exact hin (j + 1) hj
    · exact List.mem_append_right _ (I.closed z hz)
  · rcases List.mem_append.1 hh with hh | hh
    · exact ⟨List.mem_append_right _ (I.heads h hh).1, (I.heads h hh).2⟩
    · obtain rfl : h = itr g n y := by simpa using hh
      refine ⟨hin n (Nat.le_refl _), n - m, by omega, ?_⟩
      conv => lhs; rw [he]
      rw [← itr_add, show n - m + m = n by omega]
  · rcases List.mem_append.1 hz with hz | hz
    · obtain ⟨j, hj, rfl⟩ := (orbL_mem g).1 hz
      refine ⟨itr g n y, by simp, n - j, ?_⟩
      rw [← itr_add, show n - j + j = n by omega]
    · obtain ⟨h, h1, h2⟩ := I.cover z hz hp
      exact ⟨h, by simp [h1], h2⟩
  · refine List.pairwise_append.2 ⟨I.apart, by simp, fun a ha b hb k e => ?_⟩
    obtain rfl : b = itr g n y := by simpa using hb
    have h1 := I.stay k a (I.heads a ha).1
    rw [e, he] at h1
    exact hn m hm h1
/-- y is the least of its cycle of p numbers -/
def IsCy (g : Int → Int) (y : Int) (p : Nat) : Prop := 1 ≤ p ∧ itr g p y = y ∧ ∀ j, 0 < j → j < p → y < itr g j y
theorem IsCy.uniq {g : Int → Int} {y : Int} {p q : Nat} (h : IsCy g y p) (k : IsCy g y q) : p = q := by
  rcases Nat.lt_trichotomy p q with c | c | c
  · have := k.2.2 p h.1 c
    rw [h.2.1] at this
    omega
  · exact c
  · have := h.2.2 q k.1 c
    rw [k.2.1] at this
    omega
theorem IsCy.nodup {g : Int → Int} {y : Int} {p : Nat} (h : IsCy g y p) : (orbL g p y).Nodup := orb_nodup h.2.1 fun j h1 h2 e => by
  have := h.2.2 j h1 h2
  omega
theorem IsCy.le {g : Int → Int} {y : Int} {p : Nat} (h : IsCy g y p) {D : Int → Prop} {dom : List Int} (hg : ∀ y, D y → D (g y)) (hd : ∀ y, D y → y ∈ dom) (hy : D y) : p ≤ dom.length := by
  have := h.nodup.length_le_of_subset (l₂ := dom) (fun x hx => by obtain ⟨j, -, rfl⟩ := (orbL_mem g).1 hx; exact hd _ (itr_in hg j y hy))
  rwa [orbL_length] at this
/-- numbers above y, at most r of them, and where the walk stands behind them -/
def cyT (g : Int → Int) (y : Int) : Nat → Int → List Int × Int
  | 0, now => ([], now)
  | r + 1, now => if y < now then (now :: (cyT g y r (g now)).1, (cyT g y r (g now)).2) else ([], now)
theorem cyT_said (g : Int → Int) (y : Int) : ∀ (r : Nat) (now : Int), ∃ q, q ≤ r ∧ cyT g y r now = (orbL g q now, itr g q now) ∧ (∀ j, j < q → y < itr g j now) ∧ (q < r → ¬ y < itr g q now)
  | 0, now => ⟨0, by omega, rfl, by omega, by omega⟩
  | r + 1, now => by
    by_cases c : y < now
    · obtain ⟨q, h1, h2, h3, h4⟩ := cyT_said g y r (g now)
      refine ⟨q + 1, by omega, by simp [cyT, c, h2, orbL, itr], fun j hj => ?_, fun hq => h4 (by omega)⟩
      cases j with
      | zero => exact c
      | succ j => exact h3 j (by omega)
    · exact ⟨0, by omega, by simp [cyT, c, orbL, itr], by omega, fun _ => c⟩
def cyO (g : Int → Int) (N : Nat) (y : Int) : Option (List Int) := if (cyT g y N (g y)).2 = y then some (y :: (cyT g y N (g y)).1) else none
theorem cyO_of {g : Int → Int} {N : Nat} {y : Int} {c : List Int} (h : cyO g N y = some c) : ∃ p, IsCy g y p ∧ c = orbL g p y := by
  obtain ⟨q, h1, h2, h3, h4⟩ := cyT_said g y N (g y)
  rw [cyO, h2] at h
  simp only at h
  split at h
  · rename_i e
    refine ⟨q + 1, ⟨by omega, e, fun j hj hq => ?_⟩, by rw [← Option.some.inj h]; rfl⟩
    have := h3 (j - 1) (by omega)
    rwa [show itr g (j - 1) (g y) = itr g ((j - 1) + 1) y from rfl, Nat.sub_add_cancel hj] at this
  · simp at h
theorem cyO_is {g : Int → Int} {N : Nat} {y : Int} {p : Nat} (h : IsCy g y p) (hp : p ≤ N) : cyO g N y = some (orbL g p y) := by
  obtain ⟨q, h1, h2, h3, h4⟩ := cyT_said g y N (g y)
  obtain ⟨h5, h6, h7⟩ := h
  have e : q + 1 = p := by
    rcases Nat.lt_trichotomy (q + 1) p with c | c | c
    · exact absurd (h7 (q + 1) (by omega) c) (h4 (by omega))
    · exact c
    · have := h3 (p - 1) (by omega)
      rw [show itr g (p - 1) (g y) = itr g ((p - 1) + 1) y from rfl, Nat.sub_add_cancel h5, h6] at this
      omega
  subst e
  rw [cyO, h2]
  simp only
  rw [if_pos (show itr g q (g y) = y from h6)]
  rfl
def rngI (lo : Int) : Nat → List Int
  | 0 => []
  | n + 1 => lo :: rngI (lo + 1) n
theorem rngI_length (n : Nat) : ∀ lo : Int, (rngI lo n).length = n := by
  induction n with
  | zero => intro _; rfl
  | succ n ih => intro lo; simp [rngI, ih]
theorem rngI_mem (x : Int) : ∀ (n : Nat) (lo : Int), x ∈ rngI lo n ↔ lo ≤ x ∧ x < lo + n
  | 0, lo => by
    simp only [rngI, List.not_mem_nil, false_iff]
    omega
  | n + 1, lo => by
    simp only [rngI, List.mem_cons, rngI_mem x n]
    omega
theorem rngI_lt : ∀ (n : Nat) (lo : Int), (rngI lo n).Pairwise (· < ·)
  | 0, _ => List.Pairwise.nil
  | n + 1, lo => List.Pairwise.cons (fun x hx => by have := (rngI_mem x n (lo + 1)).1 hx; omega) (rngI_lt n (lo + 1))
def cyM (g : Int → Int) (lo : Int) (N : Nat) : List (List Int) := (rngI lo N).filterMap (cyO g N)
def hd0 (c : List Int) : Int := c.headD 0
theorem hd0_orb {g : Int → Int} {y : Int} {p : Nat} (h : IsCy g y p) : hd0 (orbL g p y) = y := by
  obtain ⟨p, rfl⟩ : ∃ m, p = m + 1 := ⟨p - 1, by have := h.1; omega⟩
  rfl
theorem cyM_up (g : Int → Int) (lo : Int) (N : Nat) : (cyM g lo N).Pairwise fun a b => hd0 a < hd0 b := by
  unfold cyM
  refine List.pairwise_filterMap.2 ((rngI_lt N lo).imp ?_)
  intro a b hab c hc d hd
  obtain ⟨p, h1, rfl⟩ := cyO_of hc
  obtain ⟨q, h2, rfl⟩ := cyO_of hd
  rw [hd0_orb h1, hd0_orb h2]
  exact hab
theorem cyM_mem {g : Int → Int} {lo : Int} {N : Nat} (hg : ∀ y, lo ≤ y ∧ y < lo + N → lo ≤ g y ∧ g y < lo + N) {c : List Int} : c ∈ cyM g lo N ↔ ∃ y p, (lo ≤ y ∧ y < lo + N) ∧ IsCy g y p ∧ c = orbL g p y := by
  unfold cyM
  rw [List.mem_filterMap]
  constructor
  · rintro ⟨y, hy, h⟩
    obtain ⟨p, h1, h2⟩ := cyO_of h
    exact ⟨y, p, (rngI_mem y N lo).1 hy, h1, h2⟩
  · rintro ⟨y, p, hy, h, rfl⟩
    refine ⟨y, (rngI_mem y N lo).2 hy, cyO_is h ?_⟩
    have := h.le (D := fun y => lo ≤ y ∧ y < lo + N) (dom := rngI lo N) hg (fun x hx => (rngI_mem x N lo).2 hx) hy
    rwa [rngI_length] at this
theorem up_nodup {l : List (List Int)} (h : l.Pairwise fun a b => hd0 a < hd0 b) : l.Nodup := h.imp fun hab e => by rw [e] at hab; omega
theorem up_same {l m : List (List Int)} (h : l.Pairwise fun a b => hd0 a < hd0 b) (k : m.Pairwise fun a b => hd0 a < hd0 b) (e : ∀ c, c ∈ l ↔ c ∈ m) : l = m := by
  refine List.Perm.eq_of_pairwise (le := fun a b => hd0 a < hd0 b) (fun a b _ _ h1 h2 => absurd h1 (by omega)) h k (List.perm_iff_count.2 fun c => ?_)
  rw [(up_nodup h).count, (up_nodup k).count]
  by_cases q : c ∈ l
  · rw [if_pos q, if_pos ((e c).1 q)]
  · rw [if_neg q, if_neg (fun x => q ((e c).2 x))]
/-- a list is put in where it belongs -/
theorem up_put {q r : List (List Int)} {c : List Int} (h : (q ++ r).Pairwise fun a b => hd0 a < hd0 b) (hr : ∀ x, r.head? = some x → hd0 c < hd0 x) (hq : ∀ x, q.getLast? = some x → hd0 x < hd0 c) : (q ++ c :: r).Pairwise fun a b => hd0 a < hd0 b := by
  obtain ⟨h1, h2, h3⟩ := List.pairwise_append.1 h
  have hr' : ∀ x, x ∈ r → hd0 c < hd0 x := by
    cases r with
    | nil => simp
    | cons z t =>
      intro x hx
      rcases List.mem_cons.1 hx with rfl | hx
      · exact hr _ rfl
      · exact Int.lt_trans (hr z rfl) (List.rel_of_pairwise_cons h2 hx)
  have hq' : ∀ x, x ∈ q → hd0 x < hd0 c := by
    rcases List.eq_nil_or_concat q with rfl | ⟨t, z, rfl⟩
    · simp
    · intro x hx
      have hz : hd0 z < hd0 c := hq z (by simp)
      rw [List.concat_eq_append] at hx h1
      rcases List.mem_append.1 hx with hx | hx
      · exact Int.lt_trans ((List.pairwise_append.1 h1).2.2 x hx z (by simp)) hz
      · obtain rfl : x = z := by simpa using hx
        exact hz
  refine List.pairwise_append.2 ⟨h1, List.Pairwise.cons hr' h2, fun x hx y hy => ?_⟩
  rcases List.mem_cons.1 hy with rfl | hy
  · exact hq' x hx
  · exact h3 x hx y hy
/-- the least of a cycle -/
theorem least_at {g : Int → Int} {h : Int} : ∀ {p : Nat}, 1 ≤ p → ∃ m, m < p ∧ ∀ j, j < p → itr g m h ≤ itr g j h
  | 0, hp => by omega
  | 1, _ => ⟨0, by omega, fun j hj => by obtain rfl : j = 0 := by omega
                                         exact Int.le_refl _⟩
  | p + 2, _ => by
    obtain ⟨m, h1, h2⟩ := least_at (g := g) (h := h) (p := p + 1) (by omega)
    by_cases c : itr g (p + 1) h < itr g m h
    · refine ⟨p + 1, by omega, fun j hj => ?_⟩
      by_cases e : j = p + 1
      · rw [e]; exact Int.le_refl _
      · have := h2 j (by omega)
        omega
    · refine ⟨m, by omega, fun j hj => ?_⟩
      by_cases e : j = p + 1
      · rw [e]; omega
      · exact h2 j (by omega)
theorem cy_turn {g : Int → Int} {h : Int} {p m : Nat} (hp : 1 ≤ p) (e : itr g p h = h) (hl : ∀ j, 0 < j → j < p → itr g j h ≠ h) (hm : ∀ j, j < p → itr g m h ≤ itr g j h) : IsCy g (itr g m h) p := by
  refine ⟨hp, itr_per e m, fun j h1 h2 => ?_⟩
  have h3 : itr g j (itr g m h) = itr g ((j + m) % p) h := by rw [← itr_add, itr_mod e]
  have h4 := hm ((j + m) % p) (Nat.mod_lt _ hp)
  rw [h3]
  rcases Int.lt_or_eq_of_le h4 with c | c
  · exact c
  · exfalso
    rw [← h3] at c
    obtain ⟨b, hb⟩ := itr_back hp e (rfl : itr g m h = _)
    refine hl j h1 h2 ?_
    have h5 : itr g b (itr g j (itr g m h)) = h := by rw [← c, hb]
    rw [← itr_add, Nat.add_comm, itr_add, hb] at h5
    exact h5
theorem orb_turn {g : Int → Int} {h : Int} {p m : Nat} (e : itr g p h = h) (hm : m ≤ p) : orbL g (p - m) (itr g m h) ++ orbL g m h = orbL g p (itr g m h) := by
  have h1 : itr g (p - m) (itr g m h) = h := by rw [← itr_add, Nat.sub_add_cancel hm, e]
  conv => rhs; rw [show p = (p - m) + m by omega, orbL_add, h1]
/-- the row of all cycles out of one number of each -/
theorem cyM_heads {g : Int → Int} {lo : Int} {N : Nat} (hg : ∀ y, lo ≤ y ∧ y < lo + N → lo ≤ g y ∧ g y < lo + N) {V H : List Int} (I : WkInv g V H) (hV : ∀ y, lo ≤ y ∧ y < lo + N → y ∈ V) (hD : ∀ h ∈ H, lo ≤ h ∧ h < lo + N) {out : List (List Int)} (hs : out.Pairwise fun a b => hd0 a < hd0 b) (h1 : ∀ c ∈ out, ∃ h p m, h ∈ H ∧ 1 ≤ p ∧ itr g p h = h ∧ (∀ j, 0 < j → j < p → itr g j h ≠ h) ∧ m < p ∧ (∀ j, j < p → itr g m h ≤ itr g j h) ∧ c = orbL g p (itr g m h))
    (h2 : ∀ h ∈ H, ∃ p m, orbL g p (itr g m h) ∈ out ∧ 1 ≤ p ∧ itr g p h = h ∧ (∀ j, 0 < j → j < p → itr g j h ≠ h) ∧ m < p ∧ (∀ j, j < p → itr g m h ≤ itr g j h)) : out = cyM g lo N := by
  refine up_same hs (cyM_up g lo N) fun c => ?_
  rw [cyM_mem hg]
  constructor
  · intro hc
    obtain ⟨h, p, m, a1, a2, a3, a4, a5, a6, rfl⟩ := h1 c hc
    exact ⟨itr g m h, p, itr_in (D := fun y => lo ≤ y ∧ y < lo + N) hg m h (hD h a1), cy_turn a2 a3 a4 a6, rfl⟩
  · rintro ⟨y, p, hy, hc, rfl⟩
    obtain ⟨h, b1, k, b2⟩ := I.cover y (hV y hy) ⟨p, hc.1, hc.2.1⟩
    obtain ⟨q, m, c1, c2, c3, c4, c5, c6⟩ := h2 h b1
    obtain ⟨i, hi⟩ := itr_back hc.1 hc.2.1 b2
    have e1 := cy_turn c2 c3 c4 c6
    have e2 : itr g m h ≤ y := by
      have := c6 (i % q) (Nat.mod_lt _ c2)
      rwa [← itr_mod c3, hi] at this
    have e3 : itr g m h = itr g ((m + k) % p) y := by rw [← b2, ← itr_add, itr_mod hc.2.1]
    have e4 : (m + k) % p < p := Nat.mod_lt _ hc.1
    have e5 : itr g m h = y := by
      by_cases z : (m + k) % p = 0
      · rw [e3, z]; rfl
      · have := hc.2.2 _ (by omega) e4
        rw [← e3] at this
        omega
    rw [e5] at e1 c1
    rw [hc.uniq e1]
    exact c1
/-- numbers that come to a cycle: a of them ahead, p on it -/
def Rho {α : Type} (g : α → α) (y : α) (a p : Nat) : Prop := 1 ≤ p ∧ itr g (a + p) y = itr g a y ∧ (orbL g (a + p) y).Nodup
theorem orb_ne {α : Type} {g : α → α} {y : α} {n i j : Nat} (h : (orbL g n y).Nodup) (hi : i < n) (hj : j < n) (hij : i ≠ j) : itr g i y ≠ itr g j y := by
  intro e
  have e1 := orbL_get g n y i hi
  have e2 := orbL_get g n y j hj
  rw [List.getElem?_eq_getElem (by rw [orbL_length]; omega)] at e1 e2
  have e3 : (orbL g n y)[i]'(by rw [orbL_length]; omega) = (orbL g n y)[j]'(by rw [orbL_length]; omega) := by
    rw [Option.some.inj e1, Option.some.inj e2, e]
  have h' := List.pairwise_iff_getElem.1 h
  rcases Nat.lt_or_gt_of_ne hij with c | c
  · exact h' i j _ _ c e3
  · exact h' j i _ _ c e3.symm
theorem Rho.uniq {α : Type} {g : α → α} {y : α} {a p b q : Nat} (h : Rho g y a p) (k : Rho g y b q) : a = b ∧ p = q := by
  have e : a + p = b + q := by
    rcases Nat.lt_trichotomy (a + p) (b + q) with c | c | c
    · exact absurd h.2.1 (orb_ne k.2.2 c (by have := h.1; omega) (by have := h.1; omega))
    · exact c
    · exact absurd k.2.1 (orb_ne h.2.2 c (by have := k.1; omega) (by have := k.1; omega))
  have e2 : a = b := by
    refine Classical.byContradiction fun c => ?_
    refine orb_ne h.2.2 (i := a) (j := b) (by have := h.1; omega) (by have := k.1; omega) c ?_
    rw [← h.2.1, ← k.2.1, e]
  exact ⟨e2, by omega⟩
theorem IsCy.rho {g : Int → Int} {y : Int} {p : Nat} (h : IsCy g y p) : Rho g y 0 p := ⟨h.1, by simpa [itr] using h.2.1, by simpa using h.nodup⟩
theorem rho_ex {α : Type} {g : α → α} {D : α → Prop} {dom : List α} (hg : ∀ y, D y → D (g y)) (hd : ∀ y, D y → y ∈ dom) {y : α} (hy : D y) : ∃ a p, Rho g y a p ∧ a + p ≤ dom.length := by
  obtain ⟨i, j, h1, h2, h3⟩ := orb_meet hg hd hy
  obtain ⟨n, ⟨i, h4, h5, h6⟩, h7⟩ := least_of (P := fun n => ∃ i, i < n ∧ n ≤ dom.length ∧ itr g i y = itr g n y) ⟨i, h1, h2, h3⟩
  refine ⟨i, n - i, ⟨by omega, by rw [show i + (n - i) = n by omega]; exact h6.symm, ?_⟩, by omega⟩
  rw [show i + (n - i) = n by omega]
  refine Classical.byContradiction fun c => ?_
  obtain ⟨u, v, a1, a2, a3⟩ := not_nodup c
  exact h7 v a2 ⟨u, a1, by omega, a3⟩
/-- there is a cycle -/
theorem cyM_some {g : Int → Int} {lo : Int} {N : Nat} (hg : ∀ y, lo ≤ y ∧ y < lo + N → lo ≤ g y ∧ g y < lo + N) (hN : 1 ≤ N) : cyM g lo N ≠ [] := by
  have hlo : lo ≤ lo ∧ lo < lo + (N : Int) := by omega
  obtain ⟨a, p, ⟨h1, h2, h3⟩, -⟩ := rho_ex (D := fun y => lo ≤ y ∧ y < lo + N) (dom := rngI lo N) hg (fun x hx => (rngI_mem x N lo).2 hx) hlo
  have e : itr g p (itr g a lo) = itr g a lo := by rw [← itr_add, Nat.add_comm, h2]
  obtain ⟨q, b1, b2, b3⟩ := per_least h1 e
  obtain ⟨m, c1, c2⟩ := least_at (g := g) (h := itr g a lo) b1
  have hc := cy_turn b1 b2 b3 c2
  intro e0
  have := (cyM_mem hg (c := orbL g q (itr g m (itr g a lo)))).2 ⟨_, q, itr_in (D := fun y => lo ≤ y ∧ y < lo + N) hg m _ (itr_in (D := fun y => lo ≤ y ∧ y < lo + N) hg a _ hlo), hc, rfl⟩
  rw [e0] at this
  simp at this
/-- cycles of one number are numbers that stay -/
def restM (g : Int → Int) (lo : Int) (N : Nat) : List Int := (rngI lo N).filter fun y => decide (g y = y)
theorem cyO_one (g : Int → Int) {N : Nat} (hN : 1 ≤ N) (y : Int) : (∃ c, cyO g N y = some c ∧ c.length = 1) ↔ g y = y := by
  constructor
  · rintro ⟨c, h, hl⟩
    obtain ⟨p, h1, rfl⟩ := cyO_of h
    rw [orbL_length] at hl
    subst hl
    exact h1.2.1
  · intro h
    exact ⟨[y], cyO_is (p := 1) ⟨by omega, h, by omega⟩ hN, rfl⟩
theorem cyM_ones (g : Int → Int) {N : Nat} (hN : 1 ≤ N) : ∀ (n : Nat) (lo : Int), (((rngI lo n).filterMap (cyO g N)).filter fun c => decide (c.length = 1)).length = ((rngI lo n).filter fun y => decide (g y = y)).length
  | 0, _ => rfl
  | n + 1, lo => by
    have ih := cyM_ones g hN n (lo + 1)
    have k := cyO_one g hN lo
    simp only [rngI, List.filterMap_cons, List.filter_cons]
    by_cases c : g lo = lo
    · obtain ⟨d, h1, h2⟩ := k.2 c
      simp [h1, h2, c, ih]
    · cases h1 : cyO g N lo with
      | none => simp [c, ih]
      | some d =>
        have h2 : d.length ≠ 1 := fun e => c (k.1 ⟨d, h1, e⟩)
        simp [h2, c, ih]

/-- a step of a filter with one sample -/
def stG (a sh m b : Int) (w : Bool) (x y : Int) : Int := fitH (hf b) w (foRw a sh m y x)
def wN (b : Int) : Nat := (2 * hf b).toNat
def scanM (a sh m b x : Int) : Bool := (foOk a sh m b && (decide (-100000 ≤ x) && decide (x ≤ 100000))) && decide (b ≤ 10)
theorem scanM_iff {a sh m b x : Int} : scanM a sh m b x = true ↔ foOk a sh m b = true ∧ (-100000 ≤ x ∧ x ≤ 100000) ∧ b ≤ 10 := by
  simp [scanM, and_assoc]
theorem sc_num {b : Int} (g : goodB b = true) : 2 ≤ hf b ∧ hf b ≤ 32768 ∧ ((wN b : Nat) : Int) = 2 * hf b ∧ 4 ≤ wN b ∧ wN b ≤ 65536 := by
  have h := (half g).1
  unfold wN
  omega
theorem stG_bd {a sh m b : Int} (w : Bool) (x y : Int) (g : goodB b = true) : -(hf b) ≤ stG a sh m b w x y ∧ stG a sh m b w x y ≤ hf b - 1 := by
  have h := (half g).1
  exact fitH_bd _ _ _ (by omega)
theorem stG_in {a sh m b : Int} (w : Bool) (x : Int) (g : goodB b = true) : ∀ y, -(hf b) ≤ y ∧ y < -(hf b) + ((wN b : Nat) : Int) → -(hf b) ≤ stG a sh m b w x y ∧ stG a sh m b w x y < -(hf b) + ((wN b : Nat) : Int) := fun y _ => by
  have h := stG_bd (a := a) (sh := sh) (m := m) w x y g
  have := (sc_num g).2.2.1
  omega
theorem impl_isScanned_eq (a sh m b : Int) (w : Bool) (x : Int) : impl_First_isScanned.f a sh m b w x = some (scanM a sh m b x) := by
  have e2 : impl_isSample.f x = some (decide (-100000 ≤ x) && decide (x ≤ 100000)) := by
    simp only [impl_isSample.f, impl_in.f]
    split <;> simp [*]
  unfold impl_First_isScanned.f
  rw [impl_isFirst_eq]
  simp only [Option.bind_some, e2, scanM]
  by_cases c : foOk a sh m b = true
  · rw [if_pos c]
    by_cases d : b ≤ 10
    · rw [if_pos d]; simp [c, d]
    · rw [if_neg d]; simp [d]
  · rw [if_neg c]; simp [c]
theorem inW_mid {b : Int} (g : goodB b = true) : inW b 0 = true := by
  have h := (half g).1
  exact inW_iff.2 ⟨by omega, by omega⟩
theorem spec_foScan_eq (a sh m b : Int) (w : Bool) (x : Int) : spec_foScan.f a sh m b w x = some (scanM a sh m b x) := by
  unfold spec_foScan.f
  rw [spec_foAsked_eq]
  simp only [Option.bind_some, scanM]
  by_cases g : foOk a sh m b = true
  · have e := inW_mid (foOk_iff.1 g).2.2.2
    by_cases c : (decide (-100000 ≤ x) && decide (x ≤ 100000)) = true
    · rw [if_pos (by rw [g, e, c]; rfl)]; rw [g, c]; simp
    · rw [if_neg (fun h => c (by simp only [Bool.and_eq_true] at h ⊢; exact h.2))]
      simp only [Bool.not_eq_true] at c
      rw [c]; simp
  · rw [if_neg (fun h => g (by simp only [Bool.and_eq_true] at h; exact h.1.1))]
    simp only [Bool.not_eq_true] at g
    rw [g]; simp

def pickM (G : Int → Int) (c : Int → Int → Bool) (y : Int) (n : Nat) : List Int := (rngI y n).filter fun v => c (G v) v
theorem pickM_suc (G : Int → Int) (c : Int → Int → Bool) (y : Int) (n : Nat) (xs : List Int) : (if c (G y) y = true then xs ++ [y] else xs) ++ pickM G c (y + 1) n = xs ++ pickM G c y (n + 1) := by
  simp only [pickM, rngI, List.filter_cons]
  split <;> simp
theorem impl_RestsOf_lp_ev (a sh m b : Int) (w : Bool) (ok : foOk a sh m b = true) {x : Int} (hx : -100000 ≤ x ∧ x ≤ 100000) : ∀ (n : Nat) (y : Int) (xs : List Int), -(hf b) ≤ y → y + n ≤ hf b → xs.length + n ≤ 1000000 → Ev (fun k => impl_RestsOf.lp k a sh m b w x n y xs) (xs ++ pickM (stG a sh m b w x) (fun t v => decide (t = v)) y n)
  | 0, y, xs, _, _, _ => by simpa [impl_RestsOf.lp, pickM, rngI] using Ev.now xs
  | n + 1, y, xs, h0, h1, h2 => by
    have ih := impl_RestsOf_lp_ev a sh m b w ok hx n (y + 1) (if stG a sh m b w x y = y then xs ++ [y] else xs) (by omega) (by omega) (by split <;> first | omega | (simp; omega))
    have hl : xs.length < 17592186044416 := by omega
    refine Ev.to (Ev.tt hl (Ev.bind (fr_step_i a sh m b w ok ⟨h0, by omega⟩ hx) ih)) ?_
    have := pickM_suc (stG a sh m b w x) (fun t v => decide (t = v)) y n xs
    simpa using this
theorem impl_NumbersBefore_lp_ev (a sh m b : Int) (w : Bool) (ok : foOk a sh m b = true) {x : Int} (z : Int) (hx : -100000 ≤ x ∧ x ≤ 100000) : ∀ (n : Nat) (y : Int) (xs : List Int), -(hf b) ≤ y → y + n ≤ hf b → xs.length + n ≤ 1000000 → Ev (fun k => impl_NumbersBefore.lp k a sh m b w x z n y xs) (xs ++ pickM (stG a sh m b w x) (fun t v => decide (t = z)) y n)
  | 0, y, xs, _, _, _ => by simpa [impl_NumbersBefore.lp, pickM, rngI] using Ev.now xs
  | n + 1, y, xs, h0, h1, h2 => by
    have ih := impl_NumbersBefore_lp_ev a sh m b w ok z hx n (y + 1) (if stG a sh m b w x y = z then xs ++ [y] else xs) (by omega) (by omega) (by split <;> first | omega | (simp; omega))
    have hl : xs.length < 17592186044416 := by omega
    refine Ev.to (Ev.tt hl (Ev.bind (fr_step_i a sh m b w ok ⟨h0, by omega⟩ hx) ih)) ?_
    have := pickM_suc (stG a sh m b w x) (fun t v => decide (t = z)) y n xs
    simpa using this
theorem spec_foBefore_l0 (a sh m b : Int) (w : Bool) (ok : foOk a sh m b = true) {x : Int} (rest : Bool) (z : Int) (hx : -100000 ≤ x ∧ x ≤ 100000) : ∀ (n : Nat) (y : Int) (xs : List Int), -(hf b) ≤ y → y + n = hf b → xs.length + n ≤ 1000000 → Ev (fun k => spec_foBefore.l0 k x xs y a sh m b w rest z) (xs ++ pickM (stG a sh m b w x) (fun t v => if rest = true then decide (t = v) else decide (t = z)) y n)
  | 0, y, xs, _, h1, _ => by
    have g := (foOk_iff.1 ok).2.2.2
    refine Ev.step (fun k => by simp only [spec_foBefore.l0, spec_wdHigh_eq w g, Option.bind_some]; rfl) ?_
    exact Ev.ff (by omega) (Ev.to (Ev.now xs) (by simp [pickM, rngI]))
  | n + 1, y, xs, h0, h1, h2 => by
    have g := (foOk_iff.1 ok).2.2.2
    have hn := sc_num g
    have hl : xs.length < 17592186044416 := by omega
    have hy : y ≤ hf b - 1 := by omega
    have e : wrap64 (y + 1) = y + 1 := w64 (by omega) (by omega)
    refine Ev.step (fun k => by simp only [spec_foBefore.l0, spec_wdHigh_eq w g, Option.bind_some, e]; rfl) ?_
    refine Ev.tt hy (Ev.bind (fr_step_s a sh m b w ok ⟨h0, hy⟩ hx) ?_)
    have ps := pickM_suc (stG a sh m b w x) (fun t v => if rest = true then decide (t = v) else decide (t = z)) y n xs
    have ih1 := spec_foBefore_l0 a sh m b w ok rest z hx n (y + 1) (xs ++ [y]) (by omega) (by omega) (by simp; omega)
    have ih2 := spec_foBefore_l0 a sh m b w ok rest z hx n (y + 1) xs (by omega) (by omega) (by omega)
    rw [← ps]
    by_cases r : rest = true
    · refine Ev.tt r ?_
      by_cases c : stG a sh m b w x y = y
      · rw [if_pos (by rw [if_pos r]; exact decide_eq_true c)]
        exact Ev.tt c (Ev.tt hl ih1)
      · rw [if_neg (by rw [if_pos r]; simpa using c)]
        exact Ev.ff c ih2
    · refine Ev.ff r ?_
      by_cases c : stG a sh m b w x y = z
      · rw [if_pos (by rw [if_neg r]; exact decide_eq_true c)]
        exact Ev.tt c (Ev.tt hl ih1)
      · rw [if_neg (by rw [if_neg r]; simpa using c)]
        exact Ev.ff c ih2
def restsM (a sh m b : Int) (w : Bool) (x : Int) : List Int × Bool := if scanM a sh m b x = true then (pickM (stG a sh m b w x) (fun t v => decide (t = v)) (-(hf b)) (wN b), true) else ([], false)
def beforeM (a sh m b : Int) (w : Bool) (z x : Int) : List Int × Bool := if scanM a sh m b x = true ∧ inW b z = true then (pickM (stG a sh m b w x) (fun t v => decide (t = z)) (-(hf b)) (wN b), true) else ([], false)
theorem impl_RestsOf_ev (a sh m b : Int) (w : Bool) (x : Int) : Ev (fun k => impl_RestsOf.f k a sh m b w x) (restsM a sh m b w x) := by
  simp only [impl_RestsOf.f, impl_isScanned_eq, Option.bind_some, restsM]
  by_cases c : scanM a sh m b x = true
  · rw [if_pos c]
    obtain ⟨ok, hx, hb⟩ := scanM_iff.1 c
    have g := (foOk_iff.1 ok).2.2.2
    have hn := sc_num g
    refine Ev.tt c ?_
    simp only [impl_RestsOf.g, impl_Word_ends_eq w g, Option.bind_some]
    have e : (hf b - 1 + 1 - -(hf b)).toNat = wN b := by unfold wN; omega
    rw [e]
    refine Ev.tt (by omega) (Ev.bind (Ev.to (impl_RestsOf_lp_ev a sh m b w ok hx (wN b) (-(hf b)) [] (by omega) (by omega) (by simp; omega)) (List.nil_append _)) (Ev.now _))
  · rw [if_neg c]
    exact Ev.ff c (Ev.now _)
theorem impl_NumbersBefore_ev (a sh m b : Int) (w : Bool) (z x : Int) : Ev (fun k => impl_NumbersBefore.f k a sh m b w z x) (beforeM a sh m b w z x) := by
  simp only [impl_NumbersBefore.f, impl_isScanned_eq, Option.bind_some, beforeM]
  by_cases c : scanM a sh m b x = true
  · obtain ⟨ok, hx, hb⟩ := scanM_iff.1 c
    have g := (foOk_iff.1 ok).2.2.2
    have hn := sc_num g
    refine Ev.tt c ?_
    rw [impl_Word_has_eq w z g]
    simp only [Option.bind_some]
    by_cases d : inW b z = true
    · rw [if_pos ⟨c, d⟩]
      refine Ev.tt d ?_
      simp only [impl_NumbersBefore.g, impl_Word_ends_eq w g, Option.bind_some]
      have e : (hf b - 1 + 1 - -(hf b)).toNat = wN b := by unfold wN; omega
      rw [e]
      refine Ev.tt (by omega) (Ev.bind (Ev.to (impl_NumbersBefore_lp_ev a sh m b w ok z hx (wN b) (-(hf b)) [] (by omega) (by omega) (by simp; omega)) (List.nil_append _)) (Ev.now _))
    · rw [if_neg (fun h => d h.2)]
      exact Ev.ff d (Ev.now _)
  · rw [if_neg (fun h => c h.1)]
    exact Ev.ff c (Ev.now _)
theorem spec_RestsOf_ev (a sh m b : Int) (w : Bool) (x : Int) : Ev (fun k => spec_RestsOf.f k a sh m b w x) (restsM a sh m b w x) := by
  simp only [spec_RestsOf.f, spec_foScan_eq, Option.bind_some, restsM]
  by_cases c : scanM a sh m b x = true
  · rw [if_pos c]
    obtain ⟨ok, hx, hb⟩ := scanM_iff.1 c
    have g := (foOk_iff.1 ok).2.2.2
    have hn := sc_num g
    refine Ev.tt c ?_
    simp only [spec_foBefore.f, spec_wdLow_eq w g, Option.bind_some]
    refine Ev.bind (Ev.to (spec_foBefore_l0 a sh m b w ok true 0 hx (wN b) (-(hf b)) [] (by omega) (by omega) (by simp; omega)) ?_) (Ev.now _)
    simp
  · rw [if_neg c]
    exact Ev.ff c (Ev.now _)
theorem spec_NumbersBefore_ev (a sh m b : Int) (w : Bool) (z x : Int) : Ev (fun k => spec_NumbersBefore.f k a sh m b w z x) (beforeM a sh m b w z x) := by
  simp only [spec_NumbersBefore.f, spec_foScan_eq, Option.bind_some, beforeM]
  by_cases c : scanM a sh m b x = true
  · obtain ⟨ok, hx, hb⟩ := scanM_iff.1 c
    have g := (foOk_iff.1 ok).2.2.2
    have hn := sc_num g
    refine Ev.tt c ?_
    have e : spec_wdIn.f b w z = some (inW b z) := by
      have := spec_wdIn_eq b w z
      rw [this, if_pos g]
    rw [e]
    simp only [Option.bind_some]
    by_cases d : inW b z = true
    · rw [if_pos ⟨c, d⟩]
      refine Ev.tt d ?_
      simp only [spec_foBefore.f, spec_wdLow_eq w g, Option.bind_some]
      refine Ev.bind (Ev.to (spec_foBefore_l0 a sh m b w ok false z hx (wN b) (-(hf b)) [] (by omega) (by omega) (by simp; omega)) ?_) (Ev.now _)
      simp
    · rw [if_neg (fun h => d h.2)]
      exact Ev.ff d (Ev.now _)
  · rw [if_neg (fun h => c h.1)]
    exact Ev.ff c (Ev.now _)


theorem impl_cycles_l0 (a sh m b : Int) (w : Bool) (ok : foOk a sh m b = true) {x : Int} (y : Int) (hx : -100000 ≤ x ∧ x ≤ 100000) : ∀ (r : Nat) (ys : List Int) (now : Int), -(hf b) ≤ now ∧ now ≤ hf b - 1 → ys.length + r = wN b + 1 → Ev (fun k => impl_First_cycles.l0 k ys now y x (2 * hf b) a sh m b w) (ys ++ (cyT (stG a sh m b w x) y r now).1, (cyT (stG a sh m b w x) y r now).2)
  | 0, ys, now, hn, h => by
    have g := (foOk_iff.1 ok).2.2.2
    have sn := sc_num g
    refine Ev.to (Ev.step (fun k => by simp only [impl_First_cycles.l0]; rfl) ?_) (show (ys, now) = _ by simp [cyT])
    by_cases c : y < now
    · exact Ev.tt c (Ev.ff (by omega) (Ev.now _))
    · exact Ev.ff c (Ev.now _)
  | r + 1, ys, now, hn, h => by
    have g := (foOk_iff.1 ok).2.2.2
    have sn := sc_num g
    refine Ev.step (fun k => by simp only [impl_First_cycles.l0]; rfl) ?_
    by_cases c : y < now
    · have ih := impl_cycles_l0 a sh m b w ok y hx r (ys ++ [now]) (stG a sh m b w x now) (stG_bd w x now g) (by simp; omega)
      refine Ev.tt c (Ev.tt (by omega) (Ev.tt (by omega) (Ev.bind (fr_step_i a sh m b w ok hn hx) (Ev.to ih ?_))))
      simp [cyT, c]
    · refine Ev.ff c (Ev.to (Ev.now _) ?_)
      simp [cyT, c]
theorem impl_cycles_cl (a sh m b : Int) (w : Bool) (ok : foOk a sh m b = true) {x y : Int} (hx : -100000 ≤ x ∧ x ≤ 100000) (hy : -(hf b) ≤ y ∧ y ≤ hf b - 1) : Ev (fun k => impl_First_cycles.cl k a sh m b w x (2 * hf b) y) (y :: (cyT (stG a sh m b w x) y (wN b) (stG a sh m b w x y)).1, (cyT (stG a sh m b w x) y (wN b) (stG a sh m b w x y)).2) := by
  have g := (foOk_iff.1 ok).2.2.2
  have h := impl_cycles_l0 a sh m b w ok y hx (wN b) [y] (stG a sh m b w x y) (stG_bd w x y g) (by simp; omega)
  exact Ev.bind (fr_step_i a sh m b w ok hy hx) h
theorem impl_cycles_lp (a sh m b : Int) (w : Bool) (ok : foOk a sh m b = true) {x : Int} (hx : -100000 ≤ x ∧ x ≤ 100000) : ∀ (n : Nat) (y : Int) (xs : List (List Int)), -(hf b) ≤ y → y + n ≤ hf b → xs.length + n ≤ 1000000 → Ev (fun k => impl_First_cycles.lp k a sh m b w x (2 * hf b) n y xs) (xs ++ (rngI y n).filterMap (cyO (stG a sh m b w x) (wN b)))
  | 0, y, xs, _, _, _ => by simpa [impl_First_cycles.lp, rngI] using Ev.now xs
  | n + 1, y, xs, h0, h1, h2 => by
    have hl : xs.length < 1000000000 := by omega
    have e : (if (cyT (stG a sh m b w x) y (wN b) (stG a sh m b w x y)).2 = y then xs ++ [y :: (cyT (stG a sh m b w x) y (wN b) (stG a sh m b w x y)).1] else xs) ++ (rngI (y + 1) n).filterMap (cyO (stG a sh m b w x) (wN b)) = xs ++ (rngI y (n + 1)).filterMap (cyO (stG a sh m b w x) (wN b)) := by
      simp only [rngI, List.filterMap_cons, cyO]
      split <;> simp
    have ih := impl_cycles_lp a sh m b w ok hx n (y + 1) (if (cyT (stG a sh m b w x) y (wN b) (stG a sh m b w x y)).2 = y then xs ++ [y :: (cyT (stG a sh m b w x) y (wN b) (stG a sh m b w x y)).1] else xs) (by omega) (by omega) (by split <;> first | omega | (simp; omega))
    rw [← e]
    exact Ev.tt hl (Ev.bind (impl_cycles_cl a sh m b w ok hx ⟨h0, by omega⟩) ih)
theorem impl_cycles_ev (a sh m b : Int) (w : Bool) (ok : foOk a sh m b = true) {x : Int} (hx : -100000 ≤ x ∧ x ≤ 100000) : Ev (fun k => impl_First_cycles.f k a sh m b w x) (cyM (stG a sh m b w x) (-(hf b)) (wN b)) := by
  have g := (foOk_iff.1 ok).2.2.2
  have hn := sc_num g
  have hb := goodB_iff.1 g
  simp only [impl_First_cycles.f, impl_Word_ends_eq w g, Option.bind_some, (half g).2.2.2.2.2]
  have e : (hf b - 1 + 1 - -(hf b)).toNat = wN b := by unfold wN; omega
  rw [e]
  exact Ev.tt (by omega) (Ev.to (impl_cycles_lp a sh m b w ok hx (wN b) (-(hf b)) [] (by omega) (by omega) (by simp; omega)) (List.nil_append _))
def cyclesM (a sh m b : Int) (w : Bool) (x : Int) : List (List Int) × Bool := if scanM a sh m b x = true then (cyM (stG a sh m b w x) (-(hf b)) (wN b), true) else ([], false)
theorem impl_CyclesOfFirst_ev (a sh m b : Int) (w : Bool) (x : Int) : Ev (fun k => impl_CyclesOfFirst.f k a sh m b w x) (cyclesM a sh m b w x) := by
  simp only [impl_CyclesOfFirst.f, impl_isScanned_eq, Option.bind_some, cyclesM]
  by_cases c : scanM a sh m b x = true
  · rw [if_pos c]
    obtain ⟨ok, hx, hb⟩ := scanM_iff.1 c
    exact Ev.tt c (Ev.bind (impl_cycles_ev a sh m b w ok hx) (Ev.now _))
  · rw [if_neg c]
    exact Ev.ff c (Ev.now _)

theorem fc_rd_set (W : List Int) (i j : Int) (v : Int) (hi : 0 ≤ i) (hi2 : i < W.length) (hj : 0 ≤ j) : rd (W.set i.toNat v) j = if i = j then v else rd W j := by
  obtain ⟨i, rfl⟩ : ∃ n : Nat, i = n := ⟨i.toNat, by omega⟩
  obtain ⟨j, rfl⟩ : ∃ n : Nat, j = n := ⟨j.toNat, by omega⟩
  have hi3 : i < W.length := by omega
  by_cases c : i = j
  · subst c
    simp [rd, hi3]
  · have c' : ¬ ((i : Int) = (j : Int)) := by omega
    rw [if_neg c']
    simp only [rd, Int.toNat_natCast, List.getD_eq_getElem?_getD, List.getElem?_set_ne c]
/-- the walks so far: which numbers have been met -/
structure fcInv (G : Int → Int) (lo : Int) (N : Nat) (W V H : List Int) (s : Int) : Prop where
  len : W.length = N
  old : ∀ v, v ∈ V → (lo ≤ v ∧ v < lo + N) ∧ 1 ≤ rd W (v - lo) ∧ rd W (v - lo) ≤ s - lo
  new : ∀ v, lo ≤ v ∧ v < lo + N → v ∉ V → rd W (v - lo) = 0
  wk : WkInv G V H
  all : ∀ v, lo ≤ v → v < s → v ∈ V
  hl : (H.length : Int) ≤ s - lo
/-- one walk -/
structure fcWalk (G : Int → Int) (lo : Int) (N : Nat) (W V : List Int) (s : Int) (n : Nat) : Prop where
  len : W.length = N
  old : ∀ v, v ∈ V → (lo ≤ v ∧ v < lo + N) ∧ 1 ≤ rd W (v - lo) ∧ rd W (v - lo) ≤ s - lo
  path : ∀ j, j < n → itr G j s ∉ V ∧ rd W (itr G j s - lo) = s - lo + 1
  new : ∀ v, lo ≤ v ∧ v < lo + N → v ∉ V → (∀ j, j < n → itr G j s ≠ v) → rd W (v - lo) = 0
  nd : (orbL G n s).Nodup
theorem orbL_suc {α : Type} (g : α → α) (n : Nat) (y : α) : orbL g (n + 1) y = orbL g n y ++ [itr g n y] := orbL_add g 1 n y
theorem fc_l1_step (a sh m b : Int) (w : Bool) (ok : foOk a sh m b = true) {x : Int} (hx : -100000 ≤ x ∧ x ≤ 100000) {R : List (List Int)} (V H : List Int) (s : Int) (hs : -(hf b) ≤ s ∧ s ≤ hf b - 1) (I : WkInv (stG a sh m b w x) V H) (hall : ∀ v, -(hf b) ≤ v → v < s → v ∈ V) (hH : (H.length : Int) ≤ s - -(hf b))
    (hk : ∀ W' V' H', fcInv (stG a sh m b w x) (-(hf b)) (wN b) W' V' H' (s + 1) → Ev (fun k => spec_foCycles.l0 k x (-(hf b)) W' H' (s + 1) a sh m b w) R)
    (n : Nat) (W : List Int) (K : fcWalk (stG a sh m b w x) (-(hf b)) (wN b) W V s n) (hr : n + 1 ≤ wN b → ∀ W', fcWalk (stG a sh m b w x) (-(hf b)) (wN b) W' V s (n + 1) → Ev (fun k => spec_foCycles.l1 k x (-(hf b)) W' H s (itr (stG a sh m b w x) (n + 1) s) a sh m b w) R) :
    Ev (fun k => spec_foCycles.l1 k x (-(hf b)) W H s (itr (stG a sh m b w x) n s) a sh m b w) R := by
  have g := (foOk_iff.1 ok).2.2.2
  have sn := sc_num g
  have hD := stG_in (a := a) (sh := sh) (m := m) w x g
  have hsD : -(hf b) ≤ s ∧ s < -(hf b) + ((wN b : Nat) : Int) := by omega
  have hy := itr_in (D := fun y => -(hf b) ≤ y ∧ y < -(hf b) + ((wN b : Nat) : Int)) hD n s hsD
  obtain ⟨y, ey⟩ : ∃ y, itr (stG a sh m b w x) n s = y := ⟨_, rfl⟩
  rw [ey] at hy ⊢
  have e1 : wrap64 (y - -(hf b)) = y - -(hf b) := w64 (by omega) (by omega)
  have e2 : wrap64 (s - -(hf b)) = s - -(hf b) := w64 (by omega) (by omega)
  have e3 : wrap64 (s - -(hf b) + 1) = s - -(hf b) + 1 := w64 (by omega) (by omega)
  have e4 : wrap64 (s + 1) = s + 1 := w64 (by omega) (by omega)
  have hHl : H.length < 17592186044416 := by omega
  refine Ev.step (fun k => by simp only [spec_foCycles.l1, e1, e2, e3, e4]; rfl) ?_
  refine Ev.tt (by omega) (Ev.tt (by rw [K.len]; omega) ?_)
  have hid : ∀ v, v ∈ V → ¬ rd W (v - -(hf b)) = s - -(hf b) + 1 := fun v hv e => by
    have := (K.old v hv).2.2
    omega
  by_cases c : rd W (y - -(hf b)) = 0
  · refine Ev.tt c ?_
    have nV : y ∉ V := fun h => by have := (K.old y h).2.1; omega
    have nP : ∀ j, j < n → itr (stG a sh m b w x) j s ≠ y := fun j hj e => by
      have := (K.path j hj).2
      rw [e, c] at this
      omega
    have nd : (orbL (stG a sh m b w x) (n + 1) s).Nodup := by
      rw [orbL_suc, List.nodup_append]
      refine ⟨K.nd, by simp, fun u hu v hv e => ?_⟩
      obtain ⟨j, hj, rfl⟩ := (orbL_mem _).1 hu
      rw [ey] at hv
      obtain rfl : v = y := by simpa using hv
      exact nP j hj e
    have hn : n + 1 ≤ wN b := by
      have := nd.length_le_of_subset (l₂ := rngI (-(hf b)) (wN b)) (fun u hu => by
        obtain ⟨j, -, rfl⟩ := (orbL_mem _).1 hu
        exact (rngI_mem _ _ _).2 (itr_in (D := fun y => -(hf b) ≤ y ∧ y < -(hf b) + ((wN b : Nat) : Int)) hD j s hsD))
      rwa [orbL_length, rngI_length] at this
    have e5 : itr (stG a sh m b w x) (n + 1) s = stG a sh m b w x y := by rw [itr_suc, ey]
    have hyW : y - -(hf b) < (W.length : Int) := by rw [K.len]; omega
    have K' : fcWalk (stG a sh m b w x) (-(hf b)) (wN b) (W.set (y - -(hf b)).toNat (s - -(hf b) + 1)) V s (n + 1) := by
      refine ⟨by simp [K.len], fun v hv => ?_, fun j hj => ?_, fun v hv hvV hvP => ?_, nd⟩
      · obtain ⟨h1, h2, h3⟩ := K.old v hv
        rw [fc_rd_set _ _ _ _ (by omega) hyW (by omega), if_neg (fun (e : y - -(hf b) = v - -(hf b)) => nV ((show v = y by omega) ▸ hv))]
        exact ⟨h1, h2, h3⟩
      · have hjD := itr_in (D := fun y => -(hf b) ≤ y ∧ y < -(hf b) + ((wN b : Nat) : Int)) hD j s hsD
        by_cases q : j = n
        · subst q
          rw [ey]
          refine ⟨nV, ?_⟩
          rw [fc_rd_set _ _ _ _ (by omega) hyW (by omega), if_pos rfl]
        · obtain ⟨h1, h2⟩ := K.path j (by omega)
          refine ⟨h1, ?_⟩
          rw [fc_rd_set _ _ _ _ (by omega) hyW (by omega)]
          split
          · rfl
          · exact h2
      · have hne : y ≠ v := by
          have := hvP n (by omega)
          rwa [ey] at this
        rw [fc_rd_set _ _ _ _ (by omega) hyW (by omega), if_neg (by omega)]
        exact K.new v hv hvV (fun j hj => hvP j (by omega))
    have h := hr hn _ K'
    rw [e5] at h
    exact Ev.bind (fr_step_s a sh m b w ok ⟨by omega, by omega⟩ hx) h
  · refine Ev.ff c ?_
    have hend : ∀ v, v ∈ orbL (stG a sh m b w x) n s ++ V → ((-(hf b) ≤ v ∧ v < -(hf b) + ((wN b : Nat) : Int)) ∧ 1 ≤ rd W (v - -(hf b)) ∧ rd W (v - -(hf b)) ≤ s + 1 - -(hf b)) := fun v hv => by
      rcases List.mem_append.1 hv with hv | hv
      · obtain ⟨j, hj, rfl⟩ := (orbL_mem _).1 hv
        have h2 := (K.path j hj).2
        exact ⟨itr_in (D := fun y => -(hf b) ≤ y ∧ y < -(hf b) + ((wN b : Nat) : Int)) hD j s hsD, by omega, by omega⟩
      · obtain ⟨h1, h2, h3⟩ := K.old v hv
        exact ⟨h1, h2, by omega⟩
    have hnew : ∀ v, -(hf b) ≤ v ∧ v < -(hf b) + ((wN b : Nat) : Int) → v ∉ orbL (stG a sh m b w x) n s ++ V → rd W (v - -(hf b)) = 0 := fun v hv hn => by
      refine K.new v hv (fun h => hn (List.mem_append_right _ h)) (fun j hj e => hn (List.mem_append_left _ ((orbL_mem _).2 ⟨j, hj, e⟩)))
    have hin : s ∈ orbL (stG a sh m b w x) n s ++ V := by
      cases n with
      | zero =>
        have : s = y := ey
        refine List.mem_append_right _ (Classical.byContradiction fun h => c ?_)
        rw [← this]
        exact K.new s hsD h (fun j hj => by omega)
      | succ n => exact List.mem_append_left _ (by simp [orbL])
    have hall' : ∀ v, -(hf b) ≤ v → v < s + 1 → v ∈ orbL (stG a sh m b w x) n s ++ V := fun v h1 h2 => by
      by_cases q : v = s
      · rw [q]; exact hin
      · exact List.mem_append_right _ (hall v h1 (by omega))
    have hpath : ∀ j, j < n → itr (stG a sh m b w x) j s ∉ V := fun j hj => (K.path j hj).1
    by_cases q : rd W (y - -(hf b)) = s - -(hf b) + 1
    · refine Ev.tt q (Ev.tt hHl (hk _ (orbL (stG a sh m b w x) n s ++ V) _ ⟨K.len, hend, hnew, ?_, hall', by simp; omega⟩))
      have : ∃ j, j < n ∧ itr (stG a sh m b w x) j s = y := Classical.byContradiction fun h => c (K.new y hy (fun hv => hid y hv q) (fun j hj e => h ⟨j, hj, e⟩))
      obtain ⟨j, hj, ej⟩ := this
      have := I.new hpath hj (by rw [ey, ej])
      rwa [ey] at this
    · refine Ev.ff q (hk _ (orbL (stG a sh m b w x) n s ++ V) _ ⟨K.len, hend, hnew, ?_, hall', by omega⟩)
      have hyV : y ∈ V := Classical.byContradiction fun h => c (K.new y hy h (fun j hj e => q (by rw [← e]; exact (K.path j hj).2)))
      exact I.old hpath (by rw [ey]; exact hyV)
theorem spec_foCycles_l1 (a sh m b : Int) (w : Bool) (ok : foOk a sh m b = true) {x : Int} (hx : -100000 ≤ x ∧ x ≤ 100000) {R : List (List Int)} (V H : List Int) (s : Int) (hs : -(hf b) ≤ s ∧ s ≤ hf b - 1) (I : WkInv (stG a sh m b w x) V H) (hall : ∀ v, -(hf b) ≤ v → v < s → v ∈ V) (hH : (H.length : Int) ≤ s - -(hf b))
    (hk : ∀ W' V' H', fcInv (stG a sh m b w x) (-(hf b)) (wN b) W' V' H' (s + 1) → Ev (fun k => spec_foCycles.l0 k x (-(hf b)) W' H' (s + 1) a sh m b w) R) :
    ∀ (d n : Nat) (W : List Int), wN b ≤ n + d → fcWalk (stG a sh m b w x) (-(hf b)) (wN b) W V s n → Ev (fun k => spec_foCycles.l1 k x (-(hf b)) W H s (itr (stG a sh m b w x) n s) a sh m b w) R := by
  have g := (foOk_iff.1 ok).2.2.2
  have sn := sc_num g
  have hD := stG_in (a := a) (sh := sh) (m := m) w x g
  intro d
  induction d with
  | zero =>
    intro n W hd K
    exact fc_l1_step a sh m b w ok hx V H s hs I hall hH hk n W K (fun h => by omega)
  | succ d ih =>
    intro n W hd K
    exact fc_l1_step a sh m b w ok hx V H s hs I hall hH hk n W K (fun h W' K' => ih (n + 1) W' (by omega) K')
theorem fc_take {G : Int → Int} {h : Int} {p m : Nat} (hm : m ≤ p) : (orbL G p h).take m = orbL G m h ∧ (orbL G p h).drop m = orbL G (p - m) (itr G m h) := by
  have e : orbL G p h = orbL G m h ++ orbL G (p - m) (itr G m h) := by rw [← orbL_add, Nat.add_sub_of_le hm]
  have hl : (orbL G m h).length = m := orbL_length G m h
  rw [e]
  exact ⟨List.take_left' hl, List.drop_left' hl⟩
theorem fc_ne {G : Int → Int} {h : Int} {p : Nat} (hp : 1 ≤ p) : orbL G p h ≠ [] := fun e => by
  have := orbL_length G p h
  rw [e] at this
  simp at this
  omega
theorem spec_foCycles_l3 (a sh m b : Int) (w : Bool) (ok : foOk a sh m b = true) {x : Int} (hx : -100000 ≤ x ∧ x ≤ 100000) {R : List (List Int)} (out : List (List Int)) (H : List Int) (Hl i : Int) (h : Int) (hh : -(hf b) ≤ h ∧ h ≤ hf b - 1) {p : Nat} (hp : 1 ≤ p ∧ p ≤ 1000000) (e : itr (stG a sh m b w x) p h = h) (hl : ∀ j, 0 < j → j < p → itr (stG a sh m b w x) j h ≠ h)
    (hk : ∀ u, u < p → (∀ j, j < p → itr (stG a sh m b w x) u h ≤ itr (stG a sh m b w x) j h) → Ev (fun k => spec_foCycles.l4 k x out (orbL (stG a sh m b w x) p (itr (stG a sh m b w x) u h)) (out.length : Int) H Hl i a sh m b w) R) :
    ∀ (d n u : Nat), n + d = p → u < n → (∀ j, j < n → itr (stG a sh m b w x) u h ≤ itr (stG a sh m b w x) j h) → Ev (fun k => spec_foCycles.l3 k x out h (orbL (stG a sh m b w x) n h) (u : Int) (itr (stG a sh m b w x) n h) H Hl i a sh m b w) R
  | 0, n, u, hd, hu, hm => by
    obtain rfl : n = p := by omega
    have hlen := orbL_length (stG a sh m b w x) n h
    obtain ⟨t1, t2⟩ := fc_take (G := stG a sh m b w x) (h := h) (show u ≤ n by omega)
    have l1 : (orbL (stG a sh m b w x) (n - u) (itr (stG a sh m b w x) u h)).length = n - u := orbL_length _ _ _
    have l2 : (orbL (stG a sh m b w x) u h).length = u := orbL_length _ _ _
    refine Ev.step (fun k => by simp only [spec_foCycles.l3, Option.bind_some, List.nil_append, Int.toNat_natCast, t1, t2]; rfl) ?_
    refine Ev.tt e (Ev.tt (by omega) (Ev.tt (by rw [hlen]; omega) (Ev.tt (by rw [l1]; simp; omega) (Ev.tt (by rw [l1, l2]; omega) ?_))))
    rw [orb_turn e (by omega)]
    exact hk u hu hm
  | d + 1, n, u, hd, hu, hm => by
    have g := (foOk_iff.1 ok).2.2.2
    have sn := sc_num g
    have hne : ¬ itr (stG a sh m b w x) n h = h := hl n (by omega) (by omega)
    have hlen := orbL_length (stG a sh m b w x) n h
    have hD := itr_in (D := fun y => -(hf b) ≤ y ∧ y < -(hf b) + ((wN b : Nat) : Int)) (stG_in (a := a) (sh := sh) (m := m) w x g) n h ⟨hh.1, by omega⟩
    have hr : rd (orbL (stG a sh m b w x) n h) (u : Int) = itr (stG a sh m b w x) u h := by simp [rd, List.getD_eq_getElem?_getD, orbL_get (stG a sh m b w x) n h u hu]
    have e2 : itr (stG a sh m b w x) (n + 1) h = stG a sh m b w x (itr (stG a sh m b w x) n h) := itr_suc _ _ _
    refine Ev.step (fun k => by simp only [spec_foCycles.l3, hr, hlen]; rfl) ?_
    refine Ev.ff hne (Ev.tt (by omega) (Ev.tt (by omega) ?_))
    by_cases c : itr (stG a sh m b w x) n h < itr (stG a sh m b w x) u h
    · have ih := spec_foCycles_l3 a sh m b w ok hx out H Hl i h hh hp e hl hk d (n + 1) n (by omega) (by omega) (fun j hj => by
        by_cases q : j = n
        · rw [q]; exact Int.le_refl _
        · have := hm j (by omega)
          omega)
      rw [orbL_suc, e2] at ih
      exact Ev.tt c (Ev.tt (by omega) (Ev.bind (fr_step_s a sh m b w ok ⟨hD.1, by omega⟩ hx) ih))
    · have ih := spec_foCycles_l3 a sh m b w ok hx out H Hl i h hh hp e hl hk d (n + 1) u (by omega) (by omega) (fun j hj => by
        by_cases q : j = n
        · rw [q]; omega
        · exact hm j (by omega))
      rw [orbL_suc, e2] at ih
      exact Ev.ff c (Ev.tt (by omega) (Ev.bind (fr_step_s a sh m b w ok ⟨hD.1, by omega⟩ hx) ih))
theorem fc_hd0 (l : List Int) : rd l 0 = hd0 l := by cases l <;> simp [rd, hd0]
theorem fc_rdL {out : List (List Int)} {n : Nat} (h : n < out.length) : rd_L5 out (n : Int) = out[n] := by
  simp [rd_L5, List.getD_eq_getElem?_getD, List.getElem?_eq_getElem h]
theorem fc_pos {l : List Int} (h : l ≠ []) : 0 < (l.length : Int) := by
  have := List.length_pos_iff.2 h
  omega
theorem spec_foCycles_l4 (a sh m b : Int) (w : Bool) {x : Int} {R : List (List Int)} (out : List (List Int)) (H : List Int) (Hl i : Int) (hi : wrap64 (i + 1) = i + 1) (c : List Int) (hc : c ≠ []) (ho : out.length ≤ 1000000) (hne : ∀ z ∈ out, z ≠ [] ∧ hd0 z ≠ hd0 c)
    (hk : ∀ q r, out = q ++ r → (∀ z, r.head? = some z → hd0 c < hd0 z) → (∀ z, q.getLast? = some z → hd0 z < hd0 c) → Ev (fun k => spec_foCycles.l2 k x (q ++ c :: r) H Hl (i + 1) a sh m b w) R) :
    ∀ (n : Nat), n ≤ out.length → (∀ z, (out.drop n).head? = some z → hd0 c < hd0 z) → Ev (fun k => spec_foCycles.l4 k x out c (n : Int) H Hl i a sh m b w) R
  | 0, hn, hr => by
    have h := hk (out.take 0) (out.drop 0) (List.take_append_drop _ _).symm hr (by simp)
    have l1 : (out.take 0).length + 1 + (out.drop 0).length = out.length + 1 := by simp; omega
    rw [List.append_cons] at h
    refine Ev.step (fun k => by simp only [spec_foCycles.l4, Option.bind_some, List.nil_append, Int.toNat_natCast, hi]; rfl) ?_
    refine Ev.ff (by omega) (Ev.tt (by omega) (Ev.tt (by omega) (Ev.tt (by simp) (Ev.tt (by simp) (Ev.tt (by simp; omega) h)))))
  | n + 1, hn, hr => by
    have hlt : n < out.length := by omega
    have e1 : wrap64 (((n + 1 : Nat) : Int) - 1) = (n : Int) := by rw [w64 (n := ((n + 1 : Nat) : Int) - 1) (by omega) (by omega)]; omega
    have e2 := fc_rdL hlt
    have hz' := hne out[n] (List.getElem_mem hlt)
    have l1 : (out.take (n + 1)).length = n + 1 := by rw [List.length_take]; omega
    have l2 : (out.drop (n + 1)).length = out.length - (n + 1) := List.length_drop
    refine Ev.step (fun k => by simp only [spec_foCycles.l4, e1, e2, fc_hd0, Option.bind_some, List.nil_append, Int.toNat_natCast, hi]; rfl) ?_
    refine Ev.tt (by omega) (Ev.tt (by omega) (Ev.tt (by omega) (Ev.tt (fc_pos hz'.1) (Ev.tt (fc_pos hc) ?_))))
    by_cases q : hd0 out[n] > hd0 c
    · refine Ev.tt q (spec_foCycles_l4 a sh m b w out H Hl i hi c hc ho hne hk n (by omega) (fun z hz => ?_))
      rw [List.head?_drop, List.getElem?_eq_getElem hlt] at hz
      obtain rfl := Option.some.inj hz
      exact q
    · have h := hk (out.take (n + 1)) (out.drop (n + 1)) (List.take_append_drop _ _).symm hr (fun z hz => by
        have e : some out[n] = some z := by rw [← hz, List.take_succ_eq_append_getElem hlt, List.getLast?_concat]
        obtain rfl := Option.some.inj e
        have := hz'.2
        omega)
      rw [List.append_cons] at h
      exact Ev.ff q (Ev.tt (by omega) (Ev.tt (by omega) (Ev.tt (by rw [l1]; simp; omega) (Ev.tt (by rw [l1]; omega) (Ev.tt (by rw [List.length_append, l1, l2]; simp; omega) h)))))
theorem spec_foCycles_l2 (a sh m b : Int) (w : Bool) (ok : foOk a sh m b = true) {x : Int} (hx : -100000 ≤ x ∧ x ≤ 100000) (V H : List Int) (I : WkInv (stG a sh m b w x) V H) (hV : ∀ y, -(hf b) ≤ y ∧ y < -(hf b) + ((wN b : Nat) : Int) → y ∈ V) (hD : ∀ h ∈ H, -(hf b) ≤ h ∧ h < -(hf b) + ((wN b : Nat) : Int)) (hH : H.length ≤ 1000000) :
    ∀ (t pre : List Int) (out : List (List Int)), H = pre ++ t → out.length = pre.length → (out.Pairwise fun a b => hd0 a < hd0 b) → (∀ c ∈ out, ∃ h p u, h ∈ pre ∧ 1 ≤ p ∧ itr (stG a sh m b w x) p h = h ∧ (∀ j, 0 < j → j < p → itr (stG a sh m b w x) j h ≠ h) ∧ u < p ∧ (∀ j, j < p → itr (stG a sh m b w x) u h ≤ itr (stG a sh m b w x) j h) ∧ c = orbL (stG a sh m b w x) p (itr (stG a sh m b w x) u h)) →
    (∀ h ∈ pre, ∃ p u, orbL (stG a sh m b w x) p (itr (stG a sh m b w x) u h) ∈ out ∧ 1 ≤ p ∧ itr (stG a sh m b w x) p h = h ∧ (∀ j, 0 < j → j < p → itr (stG a sh m b w x) j h ≠ h) ∧ u < p ∧ (∀ j, j < p → itr (stG a sh m b w x) u h ≤ itr (stG a sh m b w x) j h)) →
    Ev (fun k => spec_foCycles.l2 k x out H (H.length : Int) (pre.length : Int) a sh m b w) (cyM (stG a sh m b w x) (-(hf b)) (wN b))
  | [], pre, out, e, hl, hs, h1, h2 => by
    have g := (foOk_iff.1 ok).2.2.2
    have e' : pre = H := by rw [e, List.append_nil]
    subst e'
    refine Ev.step (fun k => by simp only [spec_foCycles.l2]; rfl) ?_
    exact Ev.ff (by omega) (Ev.to (Ev.now _) (cyM_heads (stG_in w x g) I hV hD hs h1 h2))
  | h :: t, pre, out, e, hl, hs, h1, h2 => by
    have g := (foOk_iff.1 ok).2.2.2
    have sn := sc_num g
    have hm : h ∈ H := by rw [e]; simp
    have hr : rd H (pre.length : Int) = h := by rw [e]; exact rd_mid pre t h
    have hpre : pre.length ≤ 1000000 := by rw [e] at hH; simp at hH; omega
    obtain ⟨-, q, q1, q2⟩ := I.heads h hm
    obtain ⟨p, p1, p2, p3⟩ := per_least q1 q2
    have hh := hD h hm
    have hpN : p ≤ 1000000 := by
      have := (orb_nodup p2 p3).length_le_of_subset (l₂ := rngI (-(hf b)) (wN b)) (fun u hu => by
        obtain ⟨j, -, rfl⟩ := (orbL_mem _).1 hu
        exact (rngI_mem _ _ _).2 (itr_in (D := fun y => -(hf b) ≤ y ∧ y < -(hf b) + ((wN b : Nat) : Int)) (stG_in (a := a) (sh := sh) (m := m) w x g) j h hh))
      rw [orbL_length, rngI_length] at this
      omega
    have hlt : (pre.length : Int) < (H.length : Int) := by rw [e]; exact lt_mid pre t h
    refine Ev.step (fun k => by simp only [spec_foCycles.l2, hr]; rfl) ?_
    refine Ev.tt hlt (Ev.tt (by omega) (Ev.tt hlt (Ev.bind (fr_step_s a sh m b w ok ⟨hh.1, by omega⟩ hx) ?_)))
    refine spec_foCycles_l3 a sh m b w ok hx out H (H.length : Int) (pre.length : Int) h ⟨hh.1, by omega⟩ ⟨p1, hpN⟩ p2 p3 (fun u hu hle => ?_) (p - 1) 1 0 (by omega) (by omega) (fun j hj => by
      obtain rfl : j = 0 := by omega
      exact Int.le_refl _)
    have hcy : IsCy (stG a sh m b w x) (itr (stG a sh m b w x) u h) p := cy_turn p1 p2 p3 hle
    have hd := hd0_orb hcy
    have hne : orbL (stG a sh m b w x) p (itr (stG a sh m b w x) u h) ≠ [] := fc_ne p1
    refine spec_foCycles_l4 a sh m b w out H (H.length : Int) (pre.length : Int) (w64 (by omega) (by omega)) _ hne (by omega) ?_ ?_ out.length (Nat.le_refl _) (by simp)
    · intro z hz
      obtain ⟨h', p', u', a1, a2, a3, a4, a5, a6, rfl⟩ := h1 z hz
      refine ⟨fc_ne a2, ?_⟩
      rw [hd0_orb (cy_turn a2 a3 a4 a6), hd]
      intro ee
      obtain ⟨j, hj⟩ := itr_back p1 p2 (rfl : itr (stG a sh m b w x) u h = _)
      have ap := I.apart
      rw [e] at ap
      exact (List.pairwise_append.1 ap).2.2 h' a1 h (by simp) (j + u') (by rw [itr_add, ee, hj])
    · intro qq r er hr' hq'
      have ih := spec_foCycles_l2 a sh m b w ok hx V H I hV hD hH t (pre ++ [h]) (qq ++ orbL (stG a sh m b w x) p (itr (stG a sh m b w x) u h) :: r) (by simp [e]) (by rw [er] at hl; simp at hl ⊢; omega) (up_put (er ▸ hs) hr' hq')
        (fun c hc => by
          have hc' : c ∈ out ∨ c = orbL (stG a sh m b w x) p (itr (stG a sh m b w x) u h) := by
            rw [er]
            simp at hc ⊢
            rcases hc with hc | hc | hc
            · exact Or.inl (Or.inl hc)
            · exact Or.inr hc
            · exact Or.inl (Or.inr hc)
          rcases hc' with hc' | rfl
          · obtain ⟨h', p', u', a1, a2⟩ := h1 c hc'
            exact ⟨h', p', u', List.mem_append_left _ a1, a2⟩
          · exact ⟨h, p, u, by simp, p1, p2, p3, hu, hle, rfl⟩)
        (fun h' hh' => by
          rcases List.mem_append.1 hh' with hh' | hh'
          · obtain ⟨p', u', a1, a2⟩ := h2 h' hh'
            refine ⟨p', u', ?_, a2⟩
            rw [er] at a1
            rcases List.mem_append.1 a1 with a1 | a1
            · exact List.mem_append_left _ a1
            · exact List.mem_append_right _ (List.mem_cons_of_mem _ a1)
          · obtain rfl : h' = h := by simpa using hh'
            exact ⟨p, u, by simp, p1, p2, p3, hu, hle⟩)
      have e3 : ((pre ++ [h]).length : Int) = (pre.length : Int) + 1 := by simp
      rw [e3] at ih
      exact ih
theorem spec_foCycles_l0 (a sh m b : Int) (w : Bool) (ok : foOk a sh m b = true) {x : Int} (hx : -100000 ≤ x ∧ x ≤ 100000) : ∀ (d : Nat) (s : Int) (W V H : List Int), s + d = hf b → -(hf b) ≤ s → fcInv (stG a sh m b w x) (-(hf b)) (wN b) W V H s → Ev (fun k => spec_foCycles.l0 k x (-(hf b)) W H s a sh m b w) (cyM (stG a sh m b w x) (-(hf b)) (wN b))
  | 0, s, W, V, H, hd, hs, I => by
    have g := (foOk_iff.1 ok).2.2.2
    have sn := sc_num g
    refine Ev.step (fun k => by simp only [spec_foCycles.l0, spec_wdHigh_eq w g, Option.bind_some]; rfl) ?_
    refine Ev.ff (by omega) ?_
    have hl := I.hl
    exact spec_foCycles_l2 a sh m b w ok hx V H I.wk (fun y hy => I.all y hy.1 (by omega)) (fun h hh => (I.old h (I.wk.heads h hh).1).1) (by omega) H [] [] rfl rfl List.Pairwise.nil (by simp) (by simp)
  | d + 1, s, W, V, H, hd, hs, I => by
    have g := (foOk_iff.1 ok).2.2.2
    have sn := sc_num g
    refine Ev.step (fun k => by simp only [spec_foCycles.l0, spec_wdHigh_eq w g, Option.bind_some]; rfl) ?_
    exact Ev.tt (by omega) (spec_foCycles_l1 a sh m b w ok hx V H s ⟨hs, by omega⟩ I.wk I.all (by have := I.hl; omega) (fun W' V' H' K => spec_foCycles_l0 a sh m b w ok hx d (s + 1) W' V' H' (by omega) (by omega) K) (wN b) 0 W (by omega) ⟨I.len, I.old, fun j hj => by omega, fun v hv hn _ => I.new v hv hn, List.nodup_nil⟩)
theorem spec_foCycles_ev (a sh m b : Int) (w : Bool) (ok : foOk a sh m b = true) {x : Int} (hx : -100000 ≤ x ∧ x ≤ 100000) : Ev (fun k => spec_foCycles.f k a sh m b w x) (cyM (stG a sh m b w x) (-(hf b)) (wN b)) := by
  have g := (foOk_iff.1 ok).2.2.2
  have sn := sc_num g
  have hb := goodB_iff.1 g
  simp only [spec_foCycles.f, spec_wdLow_eq w g, Option.bind_some, (half g).2.2.2.2.2]
  refine Ev.tt (by omega) (Ev.tt (by omega) (Ev.tt (by omega) ?_))
  refine spec_foCycles_l0 a sh m b w ok hx (wN b) (-(hf b)) _ [] [] (by omega) (by omega) ⟨by simp [wN], by simp, fun v hv _ => ?_, WkInv.start _, fun v h1 h2 => by omega, by simp⟩
  simp only [rd, List.getD_eq_getElem?_getD, List.getElem?_replicate]
  split <;> rfl
theorem spec_CyclesOfFirst_ev (a sh m b : Int) (w : Bool) (x : Int) : Ev (fun k => spec_CyclesOfFirst.f k a sh m b w x) (cyclesM a sh m b w x) := by
  simp only [spec_CyclesOfFirst.f, spec_foScan_eq, Option.bind_some, cyclesM]
  by_cases c : scanM a sh m b x = true
  · rw [if_pos c]
    obtain ⟨ok, hx, hb⟩ := scanM_iff.1 c
    exact Ev.tt c (Ev.bind (spec_foCycles_ev a sh m b w ok hx) (Ev.now _))
  · rw [if_neg c]
    exact Ev.ff c (Ev.now _)

theorem ix_orb (G : Int → Int) (s y : Int) : ∀ n, (∀ j, j < n → itr G j s ≠ y) → impl_FirstPeriod_ix y (orbL G n s).reverse = none
  | 0, _ => rfl
  | n + 1, h => by
    rw [orbL_suc, List.reverse_append, List.reverse_singleton, List.singleton_append]
    simp only [impl_FirstPeriod_ix]
    rw [if_neg (fun e => h n (by omega) e.symm)]
    exact ix_orb G s y n (fun j hj => h j (by omega))
theorem ix_orb_at (G : Int → Int) (s y : Int) (i : Nat) (hi : itr G i s = y) : ∀ n, i < n → (∀ j, i < j → j < n → itr G j s ≠ y) → impl_FirstPeriod_ix y (orbL G n s).reverse = some i
  | 0, h, _ => by omega
  | n + 1, h1, h2 => by
    rw [orbL_suc, List.reverse_append, List.reverse_singleton, List.singleton_append]
    simp only [impl_FirstPeriod_ix]
    by_cases c : i = n
    · rw [if_pos (by rw [← hi, c])]
      simp [orbL_length, c]
    · rw [if_neg (fun e => h2 n (by omega) (by omega) e.symm)]
      exact ix_orb_at G s y i hi n (by omega) (fun j a1 a2 => h2 j a1 (by omega))
theorem fc_wf {y : Int} (h : -40000 ≤ y ∧ y ≤ 40000) : (Lit.int .i64 y).wf = true := WalkArith.wf_i64 ⟨by omega, by omega⟩
theorem impl_FirstPeriod_l0 (a sh m b : Int) (w : Bool) (ok : foOk a sh m b = true) {x : Int} (hx : -100000 ≤ x ∧ x ≤ 100000) {s : Int} (hs : -(hf b) ≤ s ∧ s ≤ hf b - 1) {u p : Nat} (K : Rho (stG a sh m b w x) s u p) (hN : u + p ≤ 65536) : ∀ (d n : Nat), n + d = u + p → Ev (fun k => impl_FirstPeriod.l0 k (orbL (stG a sh m b w x) n s).reverse (itr (stG a sh m b w x) n s) x a sh m b w) ((u : Int), (p : Int), true)
  | 0, n, hd => by
    have g := (foOk_iff.1 ok).2.2.2
    have sn := sc_num g
    have hD := itr_in (D := fun y => -(hf b) ≤ y ∧ y < -(hf b) + ((wN b : Nat) : Int)) (stG_in (a := a) (sh := sh) (m := m) w x g) n s ⟨hs.1, by omega⟩
    have hp := K.1
    have hn : n = u + p := by omega
    have hlen : (orbL (stG a sh m b w x) n s).reverse.length = n := by rw [List.length_reverse, orbL_length]
    have ey : itr (stG a sh m b w x) u s = itr (stG a sh m b w x) n s := by rw [hn, K.2.1]
    have e := ix_orb_at (stG a sh m b w x) s (itr (stG a sh m b w x) n s) u ey n (by omega) (fun j h1 h2 ee => orb_ne K.2.2 (i := j) (j := u) (by omega) (by omega) (by omega) (by rw [ee, ey]))
    refine Ev.step (fun k => by simp only [impl_FirstPeriod.l0, e]; rfl) ?_
    refine Ev.tt (fc_wf (by omega)) (Ev.tt (by omega) (Ev.to (Ev.now _) ?_))
    rw [hlen, w64 (n := (n : Int) - (u : Int)) (by omega) (by omega)]
    have : (n : Int) - (u : Int) = (p : Int) := by omega
    rw [this]
  | d + 1, n, hd => by
    have g := (foOk_iff.1 ok).2.2.2
    have sn := sc_num g
    have hD := itr_in (D := fun y => -(hf b) ≤ y ∧ y < -(hf b) + ((wN b : Nat) : Int)) (stG_in (a := a) (sh := sh) (m := m) w x g) n s ⟨hs.1, by omega⟩
    have hlen : (orbL (stG a sh m b w x) n s).reverse.length = n := by rw [List.length_reverse, orbL_length]
    have e := ix_orb (stG a sh m b w x) s (itr (stG a sh m b w x) n s) n (fun j hj => orb_ne K.2.2 (by omega) (by omega) (by omega))
    have ih := impl_FirstPeriod_l0 a sh m b w ok hx hs K hN d (n + 1) (by omega)
    rw [orbL_suc, List.reverse_append, List.reverse_singleton, List.singleton_append, itr_suc] at ih
    refine Ev.step (fun k => by simp only [impl_FirstPeriod.l0, e]; rfl) ?_
    exact Ev.tt (fc_wf (by omega)) (Ev.tt (by omega) (Ev.bind (fr_step_i a sh m b w ok ⟨hD.1, by omega⟩ hx) ih))
theorem fc_seen_step {G : Int → Int} {lo : Int} {N : Nat} (hg : ∀ y, lo ≤ y ∧ y < lo + N → lo ≤ G y ∧ G y < lo + N) {s : Int} (hs : lo ≤ s ∧ s < lo + N) {n : Nat} {W : List Int} (hW : W.length = N) (hne : ∀ j, j < n → itr G j s ≠ itr G n s) (h1 : ∀ j, j < n → rd W (itr G j s - lo) = (j : Int) + 1) (h2 : ∀ v, lo ≤ v ∧ v < lo + N → (∀ j, j < n → itr G j s ≠ v) → rd W (v - lo) = 0) : (∀ j, j < n + 1 → rd (W.set (itr G n s - lo).toNat ((n : Int) + 1)) (itr G j s - lo) = (j : Int) + 1) ∧ (∀ v, lo ≤ v ∧ v < lo + N → (∀ j, j < n + 1 → itr G j s ≠ v) → rd (W.set (itr G n s - lo).toNat ((n : Int) + 1)) (v - lo) = 0) := by
  have hD : ∀ j, lo ≤ itr G j s ∧ itr G j s < lo + N := fun j => itr_in (D := fun y => lo ≤ y ∧ y < lo + N) hg j s hs
  have hn := hD n
  have a1 : 0 ≤ itr G n s - lo := by omega
  have a2 : itr G n s - lo < (W.length : Int) := by rw [hW]; omega
  refine ⟨fun j hj => ?_, fun v hv hn' => ?_⟩
  · have hjD := hD j
    have a3 : 0 ≤ itr G j s - lo := by omega
    rw [fc_rd_set _ _ _ _ a1 a2 a3]
    by_cases q : j = n
    · subst q
      rw [if_pos rfl]
    · have a4 := hne j (by omega)
      rw [if_neg (fun ee => a4 (by omega))]
      exact h1 j (by omega)
  · have a4 := hn' n (by omega)
    have a3 : 0 ≤ v - lo := by omega
    rw [fc_rd_set _ _ _ _ a1 a2 a3, if_neg (fun ee => a4 (by omega))]
    exact h2 v hv (fun j hj => hn' j (by omega))
theorem spec_FirstPeriod_l0 (a sh m b : Int) (w : Bool) (ok : foOk a sh m b = true) {x : Int} (hx : -100000 ≤ x ∧ x ≤ 100000) {s : Int} (hs : -(hf b) ≤ s ∧ s ≤ hf b - 1) {u p : Nat} (K : Rho (stG a sh m b w x) s u p) (hN : u + p ≤ 65536) : ∀ (d n : Nat) (W : List Int), n + d = u + p → W.length = wN b → (∀ j, j < n → rd W (itr (stG a sh m b w x) j s - -(hf b)) = (j : Int) + 1) → (∀ v, -(hf b) ≤ v ∧ v < -(hf b) + ((wN b : Nat) : Int) → (∀ j, j < n → itr (stG a sh m b w x) j s ≠ v) → rd W (v - -(hf b)) = 0) → Ev (fun k => spec_FirstPeriod.l0 k (itr (stG a sh m b w x) n s) x (-(hf b)) W ((n : Int) + 1) a sh m b w) ((u : Int), (p : Int), true)
  | 0, n, W, hd, hW, h1, h2 => by
    have g := (foOk_iff.1 ok).2.2.2
    have sn := sc_num g
    have hD := itr_in (D := fun y => -(hf b) ≤ y ∧ y < -(hf b) + ((wN b : Nat) : Int)) (stG_in (a := a) (sh := sh) (m := m) w x g) n s ⟨hs.1, by omega⟩
    have hp := K.1
    have hn : n = u + p := by omega
    have ey : itr (stG a sh m b w x) n s = itr (stG a sh m b w x) u s := by rw [hn, K.2.1]
    have hr := h1 u (by omega)
    rw [ey] at hD ⊢
    have e1 : wrap64 (itr (stG a sh m b w x) u s - -(hf b)) = itr (stG a sh m b w x) u s - -(hf b) := w64 (by omega) (by omega)
    have e2 : wrap64 ((u : Int) + 1 - 1) = (u : Int) := by rw [w64 (n := (u : Int) + 1 - 1) (by omega) (by omega)]; omega
    have e3 : wrap64 ((n : Int) + 1 - ((u : Int) + 1)) = (p : Int) := by rw [w64 (n := (n : Int) + 1 - ((u : Int) + 1)) (by omega) (by omega)]; omega
    refine Ev.step (fun k => by simp only [spec_FirstPeriod.l0, e1, hr, e2, e3]; rfl) ?_
    exact Ev.tt (by omega) (Ev.tt (by omega) (Ev.tt (by omega) (Ev.now _)))
  | d + 1, n, W, hd, hW, h1, h2 => by
    have g := (foOk_iff.1 ok).2.2.2
    have sn := sc_num g
    have hg := stG_in (a := a) (sh := sh) (m := m) w x g
    have hD := itr_in (D := fun y => -(hf b) ≤ y ∧ y < -(hf b) + ((wN b : Nat) : Int)) hg n s ⟨hs.1, by omega⟩
    have hne : ∀ j, j < n → itr (stG a sh m b w x) j s ≠ itr (stG a sh m b w x) n s := fun j hj => orb_ne K.2.2 (by omega) (by omega) (by omega)
    have hr := h2 _ hD hne
    have e1 : wrap64 (itr (stG a sh m b w x) n s - -(hf b)) = itr (stG a sh m b w x) n s - -(hf b) := w64 (by omega) (by omega)
    have e2 : wrap64 ((n : Int) + 1 + 1) = ((n + 1 : Nat) : Int) + 1 := by rw [w64 (n := (n : Int) + 1 + 1) (by omega) (by omega)]; omega
    have hyW : itr (stG a sh m b w x) n s - -(hf b) < (W.length : Int) := by rw [hW]; omega
    have f1 : 0 ≤ itr (stG a sh m b w x) n s - -(hf b) := by omega
    have f2 : -(hf b) ≤ itr (stG a sh m b w x) n s ∧ itr (stG a sh m b w x) n s ≤ hf b - 1 := ⟨hD.1, by omega⟩
    obtain ⟨g1, g2⟩ := fc_seen_step hg ⟨hs.1, by omega⟩ hW hne h1 h2
    have ih := spec_FirstPeriod_l0 a sh m b w ok hx hs K hN d (n + 1) (W.set (itr (stG a sh m b w x) n s - -(hf b)).toNat ((n : Int) + 1)) (by omega) (by simp [hW]) g1 g2
    rw [itr_suc] at ih
    refine Ev.step (fun k => by simp only [spec_FirstPeriod.l0, e1, hr, e2]; rfl) ?_
    refine Ev.tt f1 (Ev.tt hyW (Ev.ff (by decide) (Ev.bind (fr_step_s a sh m b w ok f2 hx) ?_)))
    exact ih
theorem fc_rho (a sh m b : Int) (w : Bool) (ok : foOk a sh m b = true) (x : Int) {s : Int} (hs : -(hf b) ≤ s ∧ s ≤ hf b - 1) : ∃ u p, Rho (stG a sh m b w x) s u p ∧ u + p ≤ 65536 := by
  have g := (foOk_iff.1 ok).2.2.2
  have sn := sc_num g
  obtain ⟨u, p, K, h⟩ := rho_ex (D := fun y => -(hf b) ≤ y ∧ y < -(hf b) + ((wN b : Nat) : Int)) (dom := rngI (-(hf b)) (wN b)) (stG_in (a := a) (sh := sh) (m := m) w x g) (fun x hx => (rngI_mem x _ _).2 hx) (y := s) ⟨hs.1, by omega⟩
  rw [rngI_length] at h
  exact ⟨u, p, K, by omega⟩
theorem impl_FirstPeriod_ev (a sh m b : Int) (w : Bool) (ok : foOk a sh m b = true) {x : Int} (hx : -100000 ≤ x ∧ x ≤ 100000) {s : Int} (hs : -(hf b) ≤ s ∧ s ≤ hf b - 1) {u p : Nat} (K : Rho (stG a sh m b w x) s u p) : Ev (fun k => impl_FirstPeriod.f k a sh m b w s x) ((u : Int), (p : Int), true) := by
  have g := (foOk_iff.1 ok).2.2.2
  obtain ⟨u', p', K', hN⟩ := fc_rho a sh m b w ok x hs
  obtain ⟨r1, r2⟩ := K.uniq K'
  simp only [impl_FirstPeriod.f, impl_First_isAt.f, impl_isFirst_eq, Option.bind_some]
  rw [if_pos ok, impl_Word_has_eq w s g]
  simp only [Option.bind_some]
  refine Ev.tt (inW_iff.2 hs) ?_
  simp only [impl_isSample.f, impl_in_eq, Option.bind_some]
  exact Ev.tt (by simpa using hx) (impl_FirstPeriod_l0 a sh m b w ok hx hs K (by omega) (u + p) 0 (by omega))
theorem spec_FirstPeriod_ev (a sh m b : Int) (w : Bool) (ok : foOk a sh m b = true) {x : Int} (hx : -100000 ≤ x ∧ x ≤ 100000) {s : Int} (hs : -(hf b) ≤ s ∧ s ≤ hf b - 1) {u p : Nat} (K : Rho (stG a sh m b w x) s u p) : Ev (fun k => spec_FirstPeriod.f k a sh m b w s x) ((u : Int), (p : Int), true) := by
  have g := (foOk_iff.1 ok).2.2.2
  have sn := sc_num g
  have hb := goodB_iff.1 g
  obtain ⟨u', p', K', hN⟩ := fc_rho a sh m b w ok x hs
  obtain ⟨r1, r2⟩ := K.uniq K'
  simp only [spec_FirstPeriod.f, spec_foAsked_eq, Option.bind_some, spec_wdLow_eq w g, (half g).2.2.2.2.2]
  refine Ev.tt (frAsk_iff.2 ⟨ok, hs, hx⟩) (Ev.tt (by omega) (Ev.tt (by omega) (Ev.tt (by omega) ?_)))
  refine spec_FirstPeriod_l0 a sh m b w ok hx hs K (by omega) (u + p) 0 _ (by omega) (by simp [wN]) (fun j hj => by omega) (fun v hv _ => ?_)
  simp only [rd, List.getD_eq_getElem?_getD, List.getElem?_replicate]
  split <;> rfl
theorem impl_FirstPeriod_no (a sh m b : Int) (w : Bool) (x s : Int) (h : ¬ frAsk a sh m b s x = true) : Ev (fun k => impl_FirstPeriod.f k a sh m b w s x) (0, 0, false) := by
  simp only [impl_FirstPeriod.f, impl_First_isAt.f, impl_isFirst_eq, Option.bind_some]
  by_cases c : foOk a sh m b = true
  · have g := (foOk_iff.1 c).2.2.2
    rw [if_pos c, impl_Word_has_eq w s g]
    simp only [Option.bind_some]
    by_cases e : inW b s = true
    · refine Ev.tt e ?_
      simp only [impl_isSample.f, impl_in_eq, Option.bind_some]
      by_cases d : -100000 ≤ x ∧ x ≤ 100000
      · exact absurd (frAsk_iff.2 ⟨c, inW_iff.1 e, d⟩) h
      · exact Ev.ff (by simpa using d) (Ev.now _)
    · exact Ev.ff e (Ev.now _)
  · rw [if_neg c]
    simp only [Option.bind_some]
    exact Ev.ff (by decide) (Ev.now _)
theorem spec_FirstPeriod_no (a sh m b : Int) (w : Bool) (x s : Int) (h : ¬ frAsk a sh m b s x = true) : Ev (fun k => spec_FirstPeriod.f k a sh m b w s x) (0, 0, false) := by
  simp only [spec_FirstPeriod.f, spec_foAsked_eq, Option.bind_some]
  exact Ev.ff h (Ev.now _)

theorem fc_rdm (p t : List (List Int)) (z : List Int) : rd_L5 (p ++ z :: t) (p.length : Int) = z := by simp [rd_L5]
theorem uRows_l0 (l : List (List Int)) (hl : l.length ≤ 1000000) (hz : ∀ z ∈ l, z.length ≤ 1000000) : ∀ (t p : List (List Int)), l = p ++ t → Ev (fun k => laws_uRows.l0 k l l (l.length : Int) (p.length : Int)) true
  | [], p, h => by
    refine Ev.step (fun k => by simp only [laws_uRows.l0]; rfl) ?_
    exact Ev.ff (by rw [h]; simp) (Ev.now _)
  | z :: t, p, h => by
    have e1 : (p.length : Int) < (l.length : Int) := by rw [h]; exact lt_mid p t z
    have e2 : rd_L5 l (p.length : Int) = z := by rw [h]; exact fc_rdm p t z
    have e3 : wrap64 ((p.length : Int) + 1) = ((p ++ [z]).length : Int) := nx_mid p t z (by rw [← h]; omega)
    have hz1 := hz z (by rw [h]; simp)
    refine Ev.step (fun k => by simp only [laws_uRows.l0, e2, e3]; rfl) ?_
    exact Ev.tt e1 (Ev.tt (by omega) (Ev.tt e1 (Ev.tt e1 (Ev.bind (laws_uSame_ev z (by omega)) (Ev.tt rfl (uRows_l0 l hl hz t (p ++ [z]) (by rw [h]; simp)))))))
theorem uRows_ev (l : List (List Int)) (hl : l.length ≤ 1000000) (hz : ∀ z ∈ l, z.length ≤ 1000000) : Ev (fun k => laws_uRows.f k l l) true := by
  simp only [laws_uRows.f]
  exact Ev.tt trivial (uRows_l0 l hl hz l [] rfl)

theorem uHas_l0 (l : List Int) (hl : l.length ≤ 1000000) (y : Int) : ∀ (t p : List Int), l = p ++ t → y ∈ t → Ev (fun k => laws_uHas.l0 k y l (l.length : Int) (p.length : Int)) true
  | [], p, h, hy => by simp at hy
  | z :: t, p, h, hy => by
    have e1 : (p.length : Int) < (l.length : Int) := by rw [h]; exact lt_mid p t z
    have e2 : rd l (p.length : Int) = z := by rw [h]; exact rd_mid p t z
    have e3 : wrap64 ((p.length : Int) + 1) = ((p ++ [z]).length : Int) := nx_mid p t z (by rw [← h]; omega)
    refine Ev.step (fun k => by simp only [laws_uHas.l0, e2, e3]; rfl) ?_
    refine Ev.tt e1 (Ev.tt (by omega) (Ev.tt e1 ?_))
    by_cases c : z = y
    · exact Ev.tt c (Ev.now _)
    · refine Ev.ff c (uHas_l0 l hl y t (p ++ [z]) (by rw [h]; simp) ?_)
      rcases List.mem_cons.1 hy with hy | hy
      · exact absurd hy.symm c
      · exact hy
theorem uHas_ev (l : List Int) (hl : l.length ≤ 1000000) (y : Int) (hy : y ∈ l) : Ev (fun k => laws_uHas.f k l y) true := by
  simp only [laws_uHas.f]
  exact uHas_l0 l hl y l [] rfl hy

theorem fc_rdn (p t : List (List Int)) (z : List Int) : rd_L5 (p ++ z :: t) (p.length : Int) = z := by simp [rd_L5]
theorem fc_cat_l1 (l : List (List Int)) (hl : l.length ≤ 1000000) : ∀ (t p : List (List Int)) (acc : List Int), l = p ++ t → acc.length + t.flatten.length < 17592186044416 → Ev (fun k => slices_Concat_int_int.l1 k acc l (l.length : Int) (p.length : Int)) (acc ++ t.flatten)
  | [], p, acc, h, hs => by
    refine Ev.step (fun k => by simp only [slices_Concat_int_int.l1]; rfl) ?_
    exact Ev.ff (by rw [h]; simp) (Ev.to (Ev.now _) (by simp))
  | z :: t, p, acc, h, hs => by
    have e1 : (p.length : Int) < (l.length : Int) := by rw [h]; exact lt_mid p t z
    have e2 : rd_L5 l (p.length : Int) = z := by rw [h]; exact fc_rdn p t z
    have e3 : wrap64 ((p.length : Int) + 1) = ((p ++ [z]).length : Int) := nx_mid p t z (by rw [← h]; omega)
    rw [List.flatten_cons, List.length_append] at hs
    have ih := fc_cat_l1 l hl t (p ++ [z]) (acc ++ z) (by rw [h]; simp) (by rw [List.length_append]; omega)
    rw [List.flatten_cons, ← List.append_assoc]
    refine Ev.step (fun k => by simp only [slices_Concat_int_int.l1, e2, e3]; rfl) ?_
    exact Ev.tt e1 (Ev.tt (by omega) (Ev.tt e1 (Ev.tt (by omega) ih)))
theorem fc_cat_l0 (l : List (List Int)) (hl : l.length ≤ 1000000) (hF : l.flatten.length < 10000000000) : ∀ (t p : List (List Int)) (n : Nat), l = p ++ t → n + t.flatten.length < 10000000000 → Ev (fun k => slices_Concat_int_int.l0 k l (n : Int) l (l.length : Int) (p.length : Int)) l.flatten
  | [], p, n, h, hs => by
    have hn : n < 10000000000 := by omega
    have eg : slices_Grow_int_int.f (n : Int) = some [] := by
      unfold slices_Grow_int_int.f
      rw [if_pos (by omega), if_pos (by omega)]
    refine Ev.step (fun k => by simp only [slices_Concat_int_int.l0, eg, Option.bind_some]; rfl) ?_
    exact Ev.ff (by rw [h]; simp) (Ev.to (fc_cat_l1 l hl l [] [] rfl (by simp only [List.length_nil]; omega)) (by simp))
  | z :: t, p, n, h, hs => by
    have e1 : (p.length : Int) < (l.length : Int) := by rw [h]; exact lt_mid p t z
    have e2 : rd_L5 l (p.length : Int) = z := by rw [h]; exact fc_rdn p t z
    have e3 : wrap64 ((p.length : Int) + 1) = ((p ++ [z]).length : Int) := nx_mid p t z (by rw [← h]; omega)
    rw [List.flatten_cons, List.length_append] at hs
    have e4 : wrap64 ((n : Int) + (z.length : Int)) = ((n + z.length : Nat) : Int) := by
      rw [w64 (n := (n : Int) + (z.length : Int)) (by omega) (by omega)]
      omega
    have ih := fc_cat_l0 l hl hF t (p ++ [z]) (n + z.length) (by rw [h]; simp) (by omega)
    refine Ev.step (fun k => by simp only [slices_Concat_int_int.l0, e2, e3, e4]; rfl) ?_
    exact Ev.tt e1 (Ev.tt (by omega) (Ev.tt e1 (Ev.ff (by omega) ih)))
theorem fc_cat (l : List (List Int)) (hl : l.length ≤ 1000000) (hF : l.flatten.length < 10000000000) : Ev (fun k => slices_Concat_int_int.f k l) l.flatten := by
  simp only [slices_Concat_int_int.f]
  exact fc_cat_l0 l hl hF l [] 0 rfl (by omega)
theorem fc_flat (m : Nat) : ∀ (L : List (List Int)), (∀ z ∈ L, z.length ≤ m) → L.flatten.length ≤ L.length * m
  | [], _ => by simp
  | z :: t, h => by
    have ih := fc_flat m t (fun y hy => h y (by simp [hy]))
    have := h z (by simp)
    rw [List.flatten_cons, List.length_append, List.length_cons, Nat.add_mul]
    omega

theorem peak_app : ∀ (a c : List Int) (m : Nat), peakM (a ++ c) m = peakM c (peakM a m)
  | [], _, _ => rfl
  | x :: t, c, m => peak_app t c (max m x.natAbs)
theorem peak_max : ∀ (l : List Int) (m : Nat), peakM l m = max m (peakM l 0)
  | [], m => by simp [peakM]
  | x :: t, m => by
    have h1 := peak_max t (max m x.natAbs)
    have h2 := peak_max t (max 0 x.natAbs)
    simp only [peakM]
    omega
/-- how many cycles, and how long they are -/
theorem cyM_sz (a sh m b : Int) (w : Bool) (x : Int) (g : goodB b = true) : (cyM (stG a sh m b w x) (-(hf b)) (wN b)).length ≤ 65536 ∧ (∀ z ∈ cyM (stG a sh m b w x) (-(hf b)) (wN b), z.length ≤ 65536) ∧ (∀ z ∈ cyM (stG a sh m b w x) (-(hf b)) (wN b), ∀ v ∈ z, -(hf b) ≤ v ∧ v < -(hf b) + ((wN b : Nat) : Int)) := by
  have sn := sc_num g
  have hg := stG_in (a := a) (sh := sh) (m := m) w x g
  refine ⟨?_, fun z hz => ?_, fun z hz v hv => ?_⟩
  · have h := List.length_filterMap_le (cyO (stG a sh m b w x) (wN b)) (rngI (-(hf b)) (wN b))
    rw [rngI_length] at h
    unfold cyM
    omega
  · obtain ⟨y, p, hy, hc, rfl⟩ := (cyM_mem hg).1 hz
    have := hc.le (D := fun y => -(hf b) ≤ y ∧ y < -(hf b) + ((wN b : Nat) : Int)) (dom := rngI (-(hf b)) (wN b)) hg (fun x hx => (rngI_mem x _ _).2 hx) hy
    rw [rngI_length] at this
    rw [orbL_length]
    omega
  · obtain ⟨y, p, hy, hc, rfl⟩ := (cyM_mem hg).1 hz
    obtain ⟨j, -, rfl⟩ := (orbL_mem _).1 hv
    exact itr_in (D := fun y => -(hf b) ≤ y ∧ y < -(hf b) + ((wN b : Nat) : Int)) hg j y hy
def deadM (a sh m b : Int) (w : Bool) : Int × Bool := if scanM a sh m b 0 = true then (((peakM (cyM (stG a sh m b w 0) (-(hf b)) (wN b)).flatten 0 : Nat) : Int), true) else (0, false)
theorem cyM_flat (a sh m b : Int) (w : Bool) (x : Int) (g : goodB b = true) : (cyM (stG a sh m b w x) (-(hf b)) (wN b)).flatten.length < 10000000000 ∧ (∀ v ∈ (cyM (stG a sh m b w x) (-(hf b)) (wN b)).flatten, -1000000000000000000 ≤ v ∧ v ≤ 1000000000000000000) := by
  have sn := sc_num g
  obtain ⟨h1, h2, h3⟩ := cyM_sz a sh m b w x g
  have h4 := fc_flat 65536 _ h2
  refine ⟨by omega, fun v hv => ?_⟩
  obtain ⟨z, hz, hv⟩ := List.mem_flatten.1 hv
  have := h3 z hz v hv
  omega
theorem impl_DeadBand_ev (a sh m b : Int) (w : Bool) : Ev (fun k => impl_DeadBand.f k a sh m b w) (deadM a sh m b w) := by
  simp only [impl_DeadBand.f, impl_isScanned_eq, Option.bind_some, deadM]
  by_cases c : scanM a sh m b 0 = true
  · rw [if_pos c]
    obtain ⟨ok, hx, hb⟩ := scanM_iff.1 c
    have g := (foOk_iff.1 ok).2.2.2
    obtain ⟨h1, h2⟩ := cyM_flat a sh m b w 0 g
    have h3 := (cyM_sz a sh m b w 0 g).1
    exact Ev.tt c (Ev.bind (impl_cycles_ev a sh m b w ok hx) (Ev.bind (fc_cat _ (by omega) h1) (Ev.bind (impl_peak_ev _ (by omega) h2) (Ev.now _))))
  · rw [if_neg c]
    exact Ev.ff c (Ev.now _)
theorem fc_dead_l0 (L : List (List Int)) (hL : L.length ≤ 1000000) (h1 : ∀ z ∈ L, z.length ≤ 1000000) (h2 : ∀ z ∈ L, ∀ v ∈ z, -1000000000000000000 ≤ v ∧ v ≤ 1000000000000000000) : ∀ (t p : List (List Int)) (m : Nat), L = p ++ t → Ev (fun k => spec_DeadBand.l0 k (m : Int) L (L.length : Int) (p.length : Int)) (((peakM t.flatten m : Nat) : Int), true)
  | [], p, m, h => by
    refine Ev.step (fun k => by simp only [spec_DeadBand.l0]; rfl) ?_
    exact Ev.ff (by rw [h]; simp) (Ev.now _)
  | z :: t, p, m, h => by
    have e1 : (p.length : Int) < (L.length : Int) := by rw [h]; exact lt_mid p t z
    have e2 : rd_L5 L (p.length : Int) = z := by rw [h]; exact fc_rdn p t z
    have e3 : wrap64 ((p.length : Int) + 1) = ((p ++ [z]).length : Int) := nx_mid p t z (by rw [← h]; omega)
    have hz : z ∈ L := by rw [h]; simp
    have hz1 := h1 z hz
    have e4 : spec_l1Most.f (m : Int) ((peakM z 0 : Nat) : Int) = some ((peakM z m : Nat) : Int) := by
      rw [peak_max z m]
      unfold spec_l1Most.f
      by_cases c : (m : Int) > ((peakM z 0 : Nat) : Int)
      · rw [if_pos c, Nat.max_eq_left (by omega)]
      · rw [if_neg c, Nat.max_eq_right (by omega)]
    have ih := fc_dead_l0 L hL h1 h2 t (p ++ [z]) (peakM z m) (by rw [h]; simp)
    rw [List.flatten_cons, peak_app]
    refine Ev.step (fun k => by simp only [spec_DeadBand.l0, e2, e3]; rfl) ?_
    exact Ev.tt e1 (Ev.tt (by omega) (Ev.tt e1 (Ev.bind (spec_wdPeak_ev z (by omega) (h2 z hz)) (Ev.dbind e4 ih))))
theorem spec_DeadBand_ev (a sh m b : Int) (w : Bool) : Ev (fun k => spec_DeadBand.f k a sh m b w) (deadM a sh m b w) := by
  simp only [spec_DeadBand.f, spec_foScan_eq, Option.bind_some, deadM]
  by_cases c : scanM a sh m b 0 = true
  · rw [if_pos c]
    obtain ⟨ok, hx, hb⟩ := scanM_iff.1 c
    have g := (foOk_iff.1 ok).2.2.2
    have sn := sc_num g
    obtain ⟨h1, h2, h3⟩ := cyM_sz a sh m b w 0 g
    exact Ev.tt c (Ev.bind (spec_foCycles_ev a sh m b w ok hx) (fc_dead_l0 _ (by omega) (fun z hz => by have := h2 z hz; omega) (fun z hz v hv => by have := h3 z hz v hv; omega) _ [] 0 rfl))
  · rw [if_neg c]
    exact Ev.ff c (Ev.now _)

theorem fc_low_neg (p q : Nat) (hp : p ≤ 1000000) (hq : q ≤ 1000000) (hq1 : 1 ≤ q) : Ev (fun k => impl_lowest.f k (p : Int) (-(q : Int))) (-((p / Nat.gcd p q : Nat) : Int), ((q / Nat.gcd p q : Nat) : Int)) := by
  have hg : 1 ≤ Nat.gcd p q := Nat.gcd_pos_of_pos_right _ hq1
  have hgq : Nat.gcd p q ≤ q := Nat.gcd_le_right _ hq1
  have h1 : Ev (fun k => impl_gcd.f k (p : Int) (-(q : Int))) ((Nat.gcd p q : Nat) : Int) := by
    simp only [impl_gcd.f]
    refine Ev.dbind (impl_size_eq (p : Int) (by omega)) (Ev.dbind (impl_size_eq (-(q : Int)) (by omega)) ?_)
    rw [Int.natAbs_natCast, Int.natAbs_neg, Int.natAbs_natCast]
    exact fr_gcd_l0 q q p (Nat.le_refl _)
  have d1 : p / Nat.gcd p q ≤ p := Nat.div_le_self _ _
  have d2 : q / Nat.gcd p q ≤ q := Nat.div_le_self _ _
  have e1 : wrap64 (-((Nat.gcd p q : Nat) : Int)) = -((Nat.gcd p q : Nat) : Int) := w64 (by omega) (by omega)
  simp only [impl_lowest.f]
  refine Ev.bind h1 (Ev.tt (by omega) ?_)
  rw [e1]
  refine Ev.ff (by omega) (Ev.to (Ev.now _) ?_)
  rw [Int.tdiv_neg, Int.tdiv_neg, Int.neg_tdiv, Int.neg_neg, td, td]
  generalize p / Nat.gcd p q = P at *
  generalize q / Nat.gcd p q = Q at *
  rw [w64 (n := -(P : Int)) (by omega) (by omega), w64 (n := (Q : Int)) (by omega) (by omega)]
theorem fc_rat_neg (p q : Nat) (hp : p ≤ 1000000) (hq : q ≤ 1000000) (hq1 : 1 ≤ q) : Ev (fun k => spec_foRatio.f k (p : Int) (-(q : Int))) (-((p / Nat.gcd p q : Nat) : Int), ((q / Nat.gcd p q : Nat) : Int)) := by
  have hg : 1 ≤ Nat.gcd p q := Nat.gcd_pos_of_pos_right _ hq1
  have d1 : p / Nat.gcd p q ≤ p := Nat.div_le_self _ _
  have e1 : wrap64 (-(p : Int)) = -(p : Int) := w64 (by omega) (by omega)
  have e2 : wrap64 (-(-(q : Int))) = (q : Int) := by rw [Int.neg_neg, w64 (by omega) (by omega)]
  simp only [spec_foRatio.f, e1, e2]
  refine Ev.tt (by omega) ?_
  refine Ev.step (fun k => by simp only [spec_foRatio.j0]; rfl) ?_
  refine Ev.dbind (spec_l1Abs_eq (-(p : Int)) (by omega)) ?_
  rw [Int.natAbs_neg, Int.natAbs_natCast]
  refine Ev.to (fr_ratio_l0 (-(p : Int)) (q : Int) q q p (Nat.le_refl _) hg) ?_
  rw [fr_div hq hg, Int.neg_tdiv, td]
  generalize p / Nat.gcd p q = P at *
  rw [w64 (n := -(P : Int)) (by omega) (by omega)]
def gainN (a sh : Int) : Int × Int := if ((2 ^ sh.toNat : Nat) : Int) - a < 0 then (-((2 ^ sh.toNat / Nat.gcd (2 ^ sh.toNat) (((2 ^ sh.toNat : Nat) : Int) - a).natAbs : Nat) : Int), (((((2 ^ sh.toNat : Nat) : Int) - a).natAbs / Nat.gcd (2 ^ sh.toNat) (((2 ^ sh.toNat : Nat) : Int) - a).natAbs : Nat) : Int)) else (((2 ^ sh.toNat / Nat.gcd (2 ^ sh.toNat) (((2 ^ sh.toNat : Nat) : Int) - a).natAbs : Nat) : Int), (((((2 ^ sh.toNat : Nat) : Int) - a).natAbs / Nat.gcd (2 ^ sh.toNat) (((2 ^ sh.toNat : Nat) : Int) - a).natAbs : Nat) : Int))
def gainM (a sh m b : Int) : Int × Int × Bool := if foOk a sh m b = true ∧ a ≠ ((2 ^ sh.toNat : Nat) : Int) then ((gainN a sh).1, (gainN a sh).2, true) else (0, 0, false)
theorem fc_pow {n : Nat} (h : n ≤ 10) : 1 ≤ 2 ^ n ∧ 2 ^ n ≤ 1024 := by
  have h1 : (2 : Nat) ^ n ≤ 2 ^ 10 := Nat.pow_le_pow_right (by decide) h
  have h2 : 1 ≤ (2 : Nat) ^ n := Nat.pow_pos (by decide)
  exact ⟨h2, by omega⟩
theorem fc_low {a : Int} {n : Nat} (hn : n ≤ 10) (ha : -1024 ≤ a ∧ a ≤ 1024) (hd : ¬ a = ((2 ^ n : Nat) : Int)) : Ev (fun k => impl_lowest.f k ((2 ^ n : Nat) : Int) (((2 ^ n : Nat) : Int) - a)) (gainN a (n : Int)) ∧ Ev (fun k => spec_foRatio.f k ((2 ^ n : Nat) : Int) (((2 ^ n : Nat) : Int) - a)) (gainN a (n : Int)) := by
  have hp := fc_pow hn
  simp only [gainN, Int.toNat_natCast]
  generalize (2 : Nat) ^ n = S at *
  by_cases c : (S : Int) - a < 0
  · rw [if_pos c]
    obtain ⟨q, hq⟩ : ∃ q : Nat, (S : Int) - a = -(q : Int) := ⟨((S : Int) - a).natAbs, by omega⟩
    rw [hq, Int.natAbs_neg, Int.natAbs_natCast]
    exact ⟨fc_low_neg S q (by omega) (by omega) (by omega), fc_rat_neg S q (by omega) (by omega) (by omega)⟩
  · rw [if_neg c]
    obtain ⟨q, hq⟩ : ∃ q : Nat, (S : Int) - a = (q : Int) := ⟨((S : Int) - a).natAbs, by omega⟩
    rw [hq, Int.natAbs_natCast]
    exact ⟨fr_lowest S q (by omega) (by omega) (by omega), fr_ratio S q (by omega) (by omega) (by omega)⟩
theorem fc_gain_pos {a sh m b : Int} (h : (gainM a sh m b).2.2 = true) : ¬ (gainM a sh m b).2.1 < 1 := by
  rw [gainM] at h ⊢
  by_cases c : foOk a sh m b = true ∧ a ≠ ((2 ^ sh.toNat : Nat) : Int)
  · rw [if_pos c]
    show ¬ (gainN a sh).2 < 1
    have key : ∀ (S : Nat), a ≠ (S : Int) → 1 ≤ ((S : Int) - a).natAbs / Nat.gcd S ((S : Int) - a).natAbs := fun S hS => by
      have hq : 1 ≤ ((S : Int) - a).natAbs := by omega
      exact Nat.div_pos (Nat.gcd_le_right _ hq) (Nat.gcd_pos_of_pos_right _ hq)
    have := key _ c.2
    unfold gainN
    split <;> (dsimp only; omega)
  · rw [if_neg c] at h
    exact absurd h (by decide)
theorem impl_GainOfFirst_ev (a sh m b : Int) (w : Bool) : Ev (fun k => impl_GainOfFirst.f k a sh m b w) (gainM a sh m b) := by
  simp only [impl_GainOfFirst.f, impl_isFirst_eq, Option.bind_some, gainM]
  by_cases c : foOk a sh m b = true
  · obtain ⟨k1, k2, k3, g⟩ := foOk_iff.1 c
    obtain ⟨n, rfl⟩ : ∃ n : Nat, sh = (n : Int) := ⟨sh.toNat, by omega⟩
    have hp := fc_pow (n := n) (by omega)
    have e0 : (mn (mx (n : Int) 0) 10).toNat = n := by
      unfold mn mx
      split <;> split <;> omega
    have e1 : wrap64 (2 ^ n) = ((2 ^ n : Nat) : Int) := by
      have : (2 : Int) ^ n = ((2 ^ n : Nat) : Int) := by simp
      rw [this, w64 (n := ((2 ^ n : Nat) : Int)) (by omega) (by omega)]
    have e2 : wrap64 (((2 ^ n : Nat) : Int) - a) = ((2 ^ n : Nat) : Int) - a := w64 (by omega) (by omega)
    simp only [e0, e1, e2, Int.toNat_natCast]
    refine Ev.tt c ?_
    by_cases d : a = ((2 ^ n : Nat) : Int)
    · rw [if_neg (fun h => h.2 d)]
      exact Ev.tt d (Ev.now _)
    · rw [if_pos ⟨c, d⟩]
      exact Ev.ff d (Ev.bind (fc_low (by omega) k1 d).1 (Ev.now _))
  · rw [if_neg (fun h => c h.1)]
    exact Ev.ff c (Ev.now _)
theorem spec_GainOfFirst_ev (a sh m b : Int) (w : Bool) : Ev (fun k => spec_GainOfFirst.f k a sh m b w) (gainM a sh m b) := by
  simp only [spec_GainOfFirst.f, spec_foGood_eq, Option.bind_some, gainM]
  by_cases c : foOk a sh m b = true
  · obtain ⟨k1, k2, k3, g⟩ := foOk_iff.1 c
    obtain ⟨n, rfl⟩ : ∃ n : Nat, sh = (n : Int) := ⟨sh.toNat, by omega⟩
    have hp := fc_pow (n := n) (by omega)
    have e1 : shl .i64 1 (n : Int) = ((2 ^ n : Nat) : Int) := by rw [shl_one (s := n) (by omega)]; simp
    have e2 : wrap64 (((2 ^ n : Nat) : Int) - a) = ((2 ^ n : Nat) : Int) - a := w64 (by omega) (by omega)
    simp only [e1, e2, Int.toNat_natCast]
    refine Ev.tt c (Ev.tt (by omega) ?_)
    by_cases d : a = ((2 ^ n : Nat) : Int)
    · rw [if_neg (fun h => h.2 d)]
      exact Ev.tt d (Ev.now _)
    · rw [if_pos ⟨c, d⟩]
      exact Ev.ff d (Ev.bind (fc_low (by omega) k1 d).2 (Ev.now _))
  · rw [if_neg (fun h => c h.1)]
    exact Ev.ff c (Ev.now _)

theorem drawCycles_ok {l : List Int} (hl : Bytes l) : ∃ A sh m b w x, spec_DrawCyclesOfFirst.f l = some (A, sh, m, b, w, x) := by
  obtain ⟨A, sh, m, b, w, a1, sd1, e1, ha, hb⟩ := first_ok hl 0 0 8 (by omega) (by omega) (by omega)
  obtain ⟨x, a3, sd3, e3, -, -⟩ := sample_ok hl a1 sd1 9 (by omega) (by omega) (by omega)
  refine ⟨A, sh, m, b, w, x, ?_⟩
  simp only [spec_DrawCyclesOfFirst.f, spec_DrawRestsOf.f, e1, e3, Option.bind_some]

theorem drawDeadBand_ok {l : List Int} (hl : Bytes l) : ∃ A sh m b w, spec_DrawDeadBand.f l = some (A, sh, m, b, w) := by
  obtain ⟨A, sh, m, b, w, a1, sd1, e1, ha, hb⟩ := first_ok hl 0 0 8 (by omega) (by omega) (by omega)
  refine ⟨A, sh, m, b, w, ?_⟩
  simp only [spec_DrawDeadBand.f, spec_DrawIsFirst.f, e1, Option.bind_some]

theorem drawFirstPeriod_ok {l : List Int} (hl : Bytes l) : ∃ A sh m b w y x, Ev (fun k => spec_DrawFirstPeriod.f k l) (A, sh, m, b, w, y, x) := by
  obtain ⟨A, sh, m, b, w, y, x, d⟩ := drawFirstStep_ok hl
  refine ⟨A, sh, m, b, w, y, x, ?_⟩
  simp only [spec_DrawFirstPeriod.f]
  exact Ev.bind d (Ev.now _)

theorem drawBefore_ok {l : List Int} (hl : Bytes l) : ∃ A sh m b w y x, Ev (fun k => spec_DrawNumbersBefore.f k l) (A, sh, m, b, w, y, x) := by
  obtain ⟨A, sh, m, b, w, a1, sd1, e1, ha, hb⟩ := first_ok hl 0 0 8 (by omega) (by omega) (by omega)
  obtain ⟨y, a2, sd2, e2, ha2, hb2, -⟩ := inWord_ok hl a1 sd1 b w (by omega) (by omega)
  obtain ⟨x, a3, sd3, e3, -, -⟩ := sample_ok hl a2 sd2 9 (by omega) (by omega) (by omega)
  refine ⟨A, sh, m, b, w, y, x, ?_⟩
  simp only [spec_DrawNumbersBefore.f, e1, Option.bind_some]
  refine Ev.bind e2 ?_
  simp only [e3, Option.bind_some]
  exact Ev.now _

theorem fc_bool_ne (x : Bool) : ¬ (x != x) = true := by simp
theorem fc_step {a sh m b : Int} (w : Bool) (ok : foOk a sh m b = true) {x : Int} (hx : -100000 ≤ x ∧ x ≤ 100000) {y : Int} (hy : -(hf b) ≤ y ∧ y ≤ hf b - 1) : Ev (fun k => impl_FirstStep.f k a sh m b w y x) (stG a sh m b w x y, true) := by
  have h := impl_FirstStep_ev a sh m b w y x
  rw [firstStepM, if_pos (frAsk_iff.2 ⟨ok, hy, hx⟩)] at h
  exact h
theorem fc_uabs {v : Int} (h : -1000000 ≤ v ∧ v ≤ 1000000) : laws_uAbs.f v = some ((v.natAbs : Nat) : Int) := by
  unfold laws_uAbs.f
  by_cases c : v < 0
  · rw [if_pos c, w64 (n := -v) (by omega) (by omega)]
    congr 1
    omega
  · rw [if_neg c]
    congr 1
    omega
/-- the greatest number of all cycles -/
theorem fc_law_l6 (x43 : Int) (L : List (List Int)) (Ll i : Int) (c : List Int) (hc : c.length ≤ 1000000) (hb : ∀ v ∈ c, -1000000 ≤ v ∧ v ≤ 1000000) : ∀ (t p : List Int) (m : Nat), c = p ++ t → Ev (fun k => laws_FnFirstCycles.l5 k x43 true ((peakM t m : Nat) : Int) L Ll (wrap64 (i + 1))) true → Ev (fun k => laws_FnFirstCycles.l6 k x43 true (m : Int) L Ll i c (c.length : Int) (p.length : Int)) true
  | [], p, m, h, hk => by
    refine Ev.step (fun k => by simp only [laws_FnFirstCycles.l6]; rfl) ?_
    exact Ev.ff (by rw [h]; simp) hk
  | v :: t, p, m, h, hk => by
    have e1 : (p.length : Int) < (c.length : Int) := by rw [h]; exact lt_mid p t v
    have e2 : rd c (p.length : Int) = v := by rw [h]; exact rd_mid p t v
    have e3 : wrap64 ((p.length : Int) + 1) = ((p ++ [v]).length : Int) := nx_mid p t v (by rw [← h]; omega)
    have ih := fc_law_l6 x43 L Ll i c hc hb t (p ++ [v]) (max m v.natAbs) (by rw [h]; simp) hk
    refine Ev.step (fun k => by simp only [laws_FnFirstCycles.l6, e2, e3, fc_uabs (hb v (by rw [h]; simp)), Option.bind_some]; rfl) ?_
    refine Ev.tt e1 (Ev.tt (by omega) (Ev.tt e1 ?_))
    by_cases q : ((v.natAbs : Nat) : Int) > (m : Int)
    · rw [Nat.max_eq_right (by omega)] at ih
      exact Ev.tt q ih
    · rw [Nat.max_eq_left (by omega)] at ih
      exact Ev.ff q ih
theorem fc_law_l5 (x43 : Int) (L : List (List Int)) (hL : L.length ≤ 1000000) (h1 : ∀ z ∈ L, z.length ≤ 1000000) (h2 : ∀ z ∈ L, ∀ v ∈ z, -1000000 ≤ v ∧ v ≤ 1000000) : ∀ (t p : List (List Int)) (m : Nat), L = p ++ t → x43 = ((peakM t.flatten m : Nat) : Int) → Ev (fun k => laws_FnFirstCycles.l5 k x43 true (m : Int) L (L.length : Int) (p.length : Int)) true
  | [], p, m, h, hm => by
    refine Ev.step (fun k => by simp only [laws_FnFirstCycles.l5]; rfl) ?_
    refine Ev.ff (by rw [h]; simp) (Ev.tt (by first | exact rfl | trivial) (Ev.to (Ev.now _) ?_))
    rw [hm]
    simp [peakM]
  | z :: t, p, m, h, hm => by
    have e1 : (p.length : Int) < (L.length : Int) := by rw [h]; exact lt_mid p t z
    have e2 : rd_L5 L (p.length : Int) = z := by rw [h]; exact fc_rdn p t z
    have e3 : wrap64 ((p.length : Int) + 1) = ((p ++ [z]).length : Int) := nx_mid p t z (by rw [← h]; omega)
    have hz : z ∈ L := by rw [h]; simp
    rw [List.flatten_cons, peak_app] at hm
    have ih := fc_law_l5 x43 L hL h1 h2 t (p ++ [z]) (peakM z m) (by rw [h]; simp) hm
    rw [← e3] at ih
    refine Ev.step (fun k => by simp only [laws_FnFirstCycles.l5, e2]; rfl) ?_
    exact Ev.tt e1 (Ev.tt (by omega) (Ev.tt e1 (fc_law_l6 x43 L (L.length : Int) (p.length : Int) z (h1 z hz) (h2 z hz) z [] m rfl ih)))
theorem fc_dead_end (a sh m b : Int) (w : Bool) : Ev (fun k => if (deadM a sh m b w).2 = true then ((impl_CyclesOfFirst.f k a sh m b w 0).bind fun bt646 => (laws_FnFirstCycles.l5 k (deadM a sh m b w).1 bt646.2 0 bt646.1 (bt646.1.length : Int) 0)) else (some true)) true := by
  by_cases c : scanM a sh m b 0 = true
  · obtain ⟨ok, hx, hb⟩ := scanM_iff.1 c
    have g := (foOk_iff.1 ok).2.2.2
    have sn := sc_num g
    obtain ⟨h1, h2, h3⟩ := cyM_sz a sh m b w 0 g
    have hi := impl_CyclesOfFirst_ev a sh m b w 0
    rw [cyclesM, if_pos c] at hi
    rw [deadM, if_pos c]
    refine Ev.tt rfl (Ev.bind hi ?_)
    dsimp only
    exact fc_law_l5 _ _ (by omega) (fun z hz => by have := h2 z hz; omega) (fun z hz v hv => by have := h3 z hz v hv; omega) _ [] 0 rfl rfl
  · rw [deadM, if_neg c]
    exact Ev.ff (by decide) (Ev.now _)
/-- the numbers ahead: each steps to the told one, and they grow -/
theorem fc_law_l4 (a sh m b : Int) (w : Bool) (a' sh' m' b' : Int) (w' : Bool) (z x' : Int) (xs : List Int) (hl : xs.length ≤ 1000000) (hs : xs.Pairwise (· < ·)) (hv : ∀ v ∈ xs, Ev (fun k => impl_FirstStep.f k a' sh' m' b' w' v x') (z, true)) : ∀ (t p : List Int), xs = p ++ t → Ev (fun k => laws_FnFirstCycles.l4 k (deadM a sh m b w).1 (deadM a sh m b w).2 z x' xs xs (xs.length : Int) (p.length : Int) a sh m b w a' sh' m' b' w') true
  | [], p, h => by
    refine Ev.step (fun k => by simp only [laws_FnFirstCycles.l4]; rfl) ?_
    exact Ev.ff (by rw [h]; simp) (fc_dead_end a sh m b w)
  | v :: t, p, h => by
    have e1 : (p.length : Int) < (xs.length : Int) := by rw [h]; exact lt_mid p t v
    have e2 : rd xs (p.length : Int) = v := by rw [h]; exact rd_mid p t v
    have e3 : wrap64 ((p.length : Int) + 1) = ((p ++ [v]).length : Int) := nx_mid p t v (by rw [← h]; omega)
    have ih := fc_law_l4 a sh m b w a' sh' m' b' w' z x' xs hl hs hv t (p ++ [v]) (by rw [h]; simp)
    refine Ev.step (fun k => by simp only [laws_FnFirstCycles.l4, e2, e3]; rfl) ?_
    refine Ev.tt e1 (Ev.tt (by omega) (Ev.tt e1 (Ev.bind (hv v (by rw [h]; simp)) (Ev.tt rfl (Ev.tt rfl ?_)))))
    rcases List.eq_nil_or_concat p with rfl | ⟨q, u, rfl⟩
    · exact Ev.ff (by simp) ih
    · rw [List.concat_eq_append] at h ih e1 ⊢
      have hq : q.length ≤ 1000000 := by rw [h] at hl; simp at hl; omega
      have e4 : wrap64 (((q ++ [u]).length : Int) - 1) = (q.length : Int) := by
        rw [List.length_append, List.length_singleton, w64 (by omega) (by omega)]
        omega
      have e5 : rd xs (q.length : Int) = u := by
        have h' : xs = q ++ u :: (v :: t) := by rw [h]; simp
        rw [h']
        exact rd_mid q (v :: t) u
      have hlt : u < v := by
        rw [h] at hs
        exact (List.pairwise_append.1 hs).2.2 u (by simp) v (by simp)
      rw [e4, e5]
      rw [List.length_append, List.length_singleton] at e1
      refine Ev.tt (by first | (simp; done) | (simp; omega)) (Ev.tt (by omega) (Ev.tt (by omega) (Ev.ff (by omega) ih)))
theorem fc_pick_up (G : Int → Int) (c : Int → Int → Bool) (y : Int) (n : Nat) : (pickM G c y n).Pairwise (· < ·) := List.Pairwise.filter _ (rngI_lt n y)
theorem fc_before (a sh m b : Int) (w : Bool) (z x : Int) : (beforeM a sh m b w z x).1.length ≤ 1000000 ∧ (beforeM a sh m b w z x).1.Pairwise (· < ·) ∧ (∀ v ∈ (beforeM a sh m b w z x).1, Ev (fun k => impl_FirstStep.f k a sh m b w v x) (z, true)) := by
  rw [beforeM]
  by_cases c : scanM a sh m b x = true ∧ inW b z = true
  · rw [if_pos c]
    obtain ⟨ok, hx, hb⟩ := scanM_iff.1 c.1
    have g := (foOk_iff.1 ok).2.2.2
    have sn := sc_num g
    dsimp only
    refine ⟨?_, fc_pick_up _ _ _ _, fun v hv => ?_⟩
    · have h : (pickM (stG a sh m b w x) (fun t v => decide (t = z)) (-(hf b)) (wN b)).length ≤ (rngI (-(hf b)) (wN b)).length := List.length_filter_le _ _
      rw [rngI_length] at h
      omega
    · obtain ⟨h1, h2⟩ := List.mem_filter.1 hv
      have h3 := (rngI_mem _ _ _).1 h1
      have h4 : stG a sh m b w x v = z := by simpa using h2
      have h := fc_step w ok hx (y := v) ⟨h3.1, by omega⟩
      rw [h4] at h
      exact h
  · rw [if_neg c]
    exact ⟨by simp, by simp, by simp⟩
theorem fc_law_j10 (a sh m b : Int) (w : Bool) (a' sh' m' b' : Int) (w' : Bool) (z x' : Int) : Ev (fun k => laws_FnFirstCycles.j10 k (deadM a sh m b w).1 (deadM a sh m b w).2 z x' (beforeM a' sh' m' b' w' z x').1 false a sh m b w a' sh' m' b' w') true := by
  obtain ⟨h1, h2, h3⟩ := fc_before a' sh' m' b' w' z x'
  refine Ev.step (fun k => by simp only [laws_FnFirstCycles.j10]; rfl) (Ev.ff (by decide) ?_)
  exact fc_law_l4 a sh m b w a' sh' m' b' w' z x' _ h1 h2 h3 _ [] rfl
theorem fc_law_j9 {l1 : List Int} (hb1 : Bytes l1) : Ev (fun k => laws_FnFirstCycles.j9 k l1) true := by
  obtain ⟨a, sh, m, b, w, d⟩ := drawDeadBand_ok hb1
  obtain ⟨a', sh', m', b', w', z, x', d'⟩ := drawBefore_ok hb1
  have hl := (fc_before a' sh' m' b' w' z x').1
  have j10 := fc_law_j10 a sh m b w a' sh' m' b' w' z x'
  refine Ev.step (fun k => by simp only [laws_FnFirstCycles.j9]; rfl) ?_
  refine Ev.dbind d (Ev.bind (impl_DeadBand_ev a sh m b w) (Ev.bind (spec_DeadBand_ev a sh m b w) (Ev.bind (impl_GainOfFirst_ev a sh m b w) (Ev.bind (spec_GainOfFirst_ev a sh m b w) (Ev.bind d' (Ev.bind (impl_NumbersBefore_ev a' sh' m' b' w' z x') (Ev.bind (spec_NumbersBefore_ev a' sh' m' b' w' z x') ?_)))))))
  refine Ev.ff (fc_bool_ne _) (Ev.tt rfl (Ev.ff (fc_bool_ne _) (Ev.tt rfl (Ev.tt rfl (Ev.ff (fc_bool_ne _) (Ev.bind (laws_uSame_ev _ (by omega)) (Ev.tt rfl ?_)))))))
  by_cases c : (gainM a sh m b).2.2 = true
  · refine Ev.tt c ?_
    rw [decide_eq_false (fc_gain_pos c)]
    exact j10
  · exact Ev.ff c j10
theorem fc_law_l3 {l1 : List Int} (hb1 : Bytes l1) (a sh m b : Int) (w : Bool) (ok : foOk a sh m b = true) {x : Int} (hx : -100000 ≤ x ∧ x ≤ 100000) {s : Int} (hs : -(hf b) ≤ s ∧ s ≤ hf b - 1) {u p : Nat} (K : Rho (stG a sh m b w x) s u p) (hN : u + p ≤ 65536) : ∀ (d n : Nat), n + d = p → Ev (fun k => laws_FnFirstCycles.l3 k l1 x (p : Int) (itr (stG a sh m b w x) (u + n) s) (itr (stG a sh m b w x) u s) (n : Int) a sh m b w) true
  | 0, n, hd => by
    have hp := K.1
    obtain rfl : n = p := by omega
    refine Ev.step (fun k => by simp only [laws_FnFirstCycles.l3]; rfl) ?_
    exact Ev.ff (by omega) (Ev.tt K.2.1 (Ev.ff (by omega) (fc_law_j9 hb1)))
  | d + 1, n, hd => by
    have g := (foOk_iff.1 ok).2.2.2
    have sn := sc_num g
    have hD := itr_in (D := fun y => -(hf b) ≤ y ∧ y < -(hf b) + ((wN b : Nat) : Int)) (stG_in (a := a) (sh := sh) (m := m) w x g) (u + n) s ⟨hs.1, by omega⟩
    have e1 : wrap64 ((n : Int) + 1) = ((n + 1 : Nat) : Int) := by rw [w64 (n := (n : Int) + 1) (by omega) (by omega)]; omega
    have e2 : wrap64 ((p : Int) - 1) = (p : Int) - 1 := w64 (by omega) (by omega)
    have ih := fc_law_l3 hb1 a sh m b w ok hx hs K hN d (n + 1) (by omega)
    rw [← Nat.add_assoc, itr_suc] at ih
    refine Ev.step (fun k => by simp only [laws_FnFirstCycles.l3, e1, e2]; rfl) ?_
    refine Ev.tt (by omega) (Ev.bind (fc_step w ok hx ⟨hD.1, by omega⟩) (Ev.tt rfl ?_))
    by_cases c : stG a sh m b w x (itr (stG a sh m b w x) (u + n) s) = itr (stG a sh m b w x) u s
    · refine Ev.tt c (Ev.ff (fun h => ?_) ih)
      exact orb_ne K.2.2 (i := u + n + 1) (j := u) (by omega) (by omega) (by omega) ((itr_suc _ _ _).trans c)
    · exact Ev.ff c ih
theorem fc_law_l2 {l1 : List Int} (hb1 : Bytes l1) (a sh m b : Int) (w : Bool) (ok : foOk a sh m b = true) {x : Int} (hx : -100000 ≤ x ∧ x ≤ 100000) {s : Int} (hs : -(hf b) ≤ s ∧ s ≤ hf b - 1) {u p : Nat} (K : Rho (stG a sh m b w x) s u p) (hN : u + p ≤ 65536) : ∀ (d n : Nat), n + d = u → Ev (fun k => laws_FnFirstCycles.l2 k l1 x (u : Int) (p : Int) (itr (stG a sh m b w x) n s) (n : Int) a sh m b w) true
  | 0, n, hd => by
    obtain rfl : n = u := by omega
    refine Ev.step (fun k => by simp only [laws_FnFirstCycles.l2]; rfl) ?_
    exact Ev.ff (by omega) (fc_law_l3 hb1 a sh m b w ok hx hs K hN p 0 (by omega))
  | d + 1, n, hd => by
    have g := (foOk_iff.1 ok).2.2.2
    have sn := sc_num g
    have hD := itr_in (D := fun y => -(hf b) ≤ y ∧ y < -(hf b) + ((wN b : Nat) : Int)) (stG_in (a := a) (sh := sh) (m := m) w x g) n s ⟨hs.1, by omega⟩
    have e1 : wrap64 ((n : Int) + 1) = ((n + 1 : Nat) : Int) := by rw [w64 (n := (n : Int) + 1) (by omega) (by omega)]; omega
    have ih := fc_law_l2 hb1 a sh m b w ok hx hs K hN d (n + 1) (by omega)
    rw [itr_suc] at ih
    refine Ev.step (fun k => by simp only [laws_FnFirstCycles.l2, e1]; rfl) ?_
    exact Ev.tt (by omega) (Ev.bind (fc_step w ok hx ⟨hD.1, by omega⟩) (Ev.tt rfl ih))
theorem fc_law_j5 {l1 : List Int} (hb1 : Bytes l1) : Ev (fun k => laws_FnFirstCycles.j5 k l1) true := by
  obtain ⟨a, sh, m, b, w, s, x, d⟩ := drawFirstPeriod_ok hb1
  refine Ev.step (fun k => by simp only [laws_FnFirstCycles.j5]; rfl) ?_
  by_cases c : frAsk a sh m b s x = true
  · obtain ⟨ok, hs, hx⟩ := frAsk_iff.1 c
    obtain ⟨u, p, K, hN⟩ := fc_rho a sh m b w ok x hs
    refine Ev.bind d (Ev.bind (impl_FirstPeriod_ev a sh m b w ok hx hs K) (Ev.bind (spec_FirstPeriod_ev a sh m b w ok hx hs K) ?_))
    refine Ev.ff (fc_bool_ne _) (Ev.tt rfl ?_)
    refine Ev.step (fun k => by simp only [laws_FnFirstCycles.j6]; rfl) ?_
    exact Ev.ff (by simp) (Ev.tt (by first | exact rfl | trivial) (fc_law_l2 hb1 a sh m b w ok hx hs K hN u 0 (by omega)))
  · refine Ev.bind d (Ev.bind (impl_FirstPeriod_no a sh m b w x s c) (Ev.bind (spec_FirstPeriod_no a sh m b w x s c) ?_))
    refine Ev.ff (fc_bool_ne _) (Ev.tt rfl ?_)
    refine Ev.step (fun k => by simp only [laws_FnFirstCycles.j6]; rfl) ?_
    exact Ev.ff (by simp) (Ev.ff (by decide) (fc_law_j9 hb1))
/-- one cycle: its steps close it -/
theorem fc_law_l1 (l1 : List Int) (a sh m b : Int) (w : Bool) (ok : foOk a sh m b = true) {x : Int} (hx : -100000 ≤ x ∧ x ≤ 100000) (L : List (List Int)) (S : List Int) (cnt Ll i : Int) (y : Int) (p : Nat) (hy : -(hf b) ≤ y ∧ y ≤ hf b - 1) (hc : IsCy (stG a sh m b w x) y p) (hp : p ≤ 65536)
    (hk : Ev (fun k => laws_FnFirstCycles.j4 k l1 x L S cnt (orbL (stG a sh m b w x) p y) L Ll i false a sh m b w) true) : ∀ (d n : Nat), n + d = p → Ev (fun k => laws_FnFirstCycles.l1 k l1 x L S cnt (orbL (stG a sh m b w x) p y) L Ll i (orbL (stG a sh m b w x) p y) ((orbL (stG a sh m b w x) p y).length : Int) (n : Int) a sh m b w) true
  | 0, n, hd => by
    obtain rfl : n = p := by omega
    have hp1 := hc.1
    have hlen := orbL_length (stG a sh m b w x) n y
    have hr : rd (orbL (stG a sh m b w x) n y) 0 = y := by rw [fc_hd0]; exact hd0_orb hc
    refine Ev.step (fun k => by simp only [laws_FnFirstCycles.l1, hr, hlen]; rfl) ?_
    refine Ev.ff (by omega) (Ev.tt (by omega) (Ev.bind (impl_FirstPeriod_ev a sh m b w ok hx hy hc.rho) (Ev.tt rfl (Ev.tt rfl ?_))))
    have e : ((n : Int) != (n : Int)) = false := by simp
    rw [e]
    exact hk
  | d + 1, n, hd => by
    have hp1 := hc.1
    have hnp : n < p := by clear hk; omega
    have hd' : n + 1 + d = p := by clear hk; omega
    have e1 : wrap64 ((n : Int) + 1) = ((n + 1 : Nat) : Int) := by clear hk hy hx; rw [w64 (n := (n : Int) + 1) (by omega) (by omega)]; omega
    have f1 : (n : Int) < (p : Int) := Int.ofNat_lt.2 hnp
    have f2 : 0 ≤ (n : Int) := Int.natCast_nonneg n
    have f6 : 0 < (p : Int) := Int.lt_of_le_of_lt f2 f1
    have f3 : ¬ (p : Int) = 0 := fun e => Int.lt_irrefl 0 (e ▸ f6)
    have g := (foOk_iff.1 ok).2.2.2
    have sn := sc_num g
    have hlen := orbL_length (stG a sh m b w x) p y
    have hD := itr_in (D := fun y => -(hf b) ≤ y ∧ y < -(hf b) + ((wN b : Nat) : Int)) (stG_in (a := a) (sh := sh) (m := m) w x g) n y ⟨hy.1, by omega⟩
    have f7 : -(hf b) ≤ itr (stG a sh m b w x) n y ∧ itr (stG a sh m b w x) n y ≤ hf b - 1 := ⟨hD.1, by omega⟩
    clear hD
    have hge : ¬ itr (stG a sh m b w x) n y < y := by
      by_cases z : n = 0
      · have e0 : itr (stG a sh m b w x) 0 y = y := rfl
        rw [z, e0]
        exact Int.lt_irrefl _
      · exact Int.not_lt.2 (Int.le_of_lt (hc.2.2 n (Nat.pos_of_ne_zero z) hnp))
    obtain ⟨q, hqd⟩ : ∃ q, q = (n + 1) % p := ⟨_, rfl⟩
    have hmod : q < p := by rw [hqd]; exact Nat.mod_lt _ hp1
    have f4 : 0 ≤ (q : Int) := Int.natCast_nonneg q
    have f5 : (q : Int) < (p : Int) := Int.ofNat_lt.2 hmod
    have ih := fc_law_l1 l1 a sh m b w ok hx L S cnt Ll i y p hy hc hp hk d (n + 1) hd'
    have hrd : ∀ j : Nat, j < p → rd (orbL (stG a sh m b w x) p y) (j : Int) = itr (stG a sh m b w x) j y := fun j hj => by simp [rd, List.getD_eq_getElem?_getD, orbL_get (stG a sh m b w x) p y j hj]
    have hr := hrd n hnp
    have hr0 : rd (orbL (stG a sh m b w x) p y) 0 = y := by rw [fc_hd0]; exact hd0_orb hc
    have hr1 := hrd _ hmod
    rw [hlen] at ih
    have e2 : Int.tmod ((n + 1 : Nat) : Int) (p : Int) = (q : Int) := by rw [hqd]; exact tm _ _
    have e3 : stG a sh m b w x (itr (stG a sh m b w x) n y) = itr (stG a sh m b w x) q y := by rw [hqd]; exact (itr_suc _ _ _).symm.trans (itr_mod hc.2.1 _)
    clear hqd
    refine Ev.step (fun k => by simp only [laws_FnFirstCycles.l1, hr, hlen, e1, e2, hr1, hr0]; rfl) ?_
    refine Ev.tt f1 (Ev.tt f2 (Ev.tt f1 (Ev.bind (fc_step w ok hx f7) ?_)))
    refine Ev.tt rfl ?_
    refine Ev.ff f3 (Ev.tt f4 (Ev.tt f5 ?_))
    refine Ev.tt e3 ?_
    refine Ev.tt f6 (Ev.ff hge ?_)
    exact ih
def onesN (L : List (List Int)) : Nat := (L.filter fun c => decide (c.length = 1)).length
/-- all cycles -/
theorem fc_law_l0 {l1 : List Int} (hb1 : Bytes l1) (a sh m b : Int) (w : Bool) (ok : foOk a sh m b = true) {x : Int} (hx : -100000 ≤ x ∧ x ≤ 100000) (L : List (List Int)) (hL : L = cyM (stG a sh m b w x) (-(hf b)) (wN b)) (S : List Int) (hS : S = restM (stG a sh m b w x) (-(hf b)) (wN b)) : ∀ (t p : List (List Int)) (n : Nat), L = p ++ t → n = onesN p → Ev (fun k => laws_FnFirstCycles.l0 k l1 x L S (n : Int) L (L.length : Int) (p.length : Int) a sh m b w) true
  | [], p, n, h, hn => by
    have g := (foOk_iff.1 ok).2.2.2
    have sn := sc_num g
    have e : (n : Int) = (S.length : Int) := by
      rw [List.append_nil] at h
      rw [hn, ← h, hL, hS]
      have := cyM_ones (stG a sh m b w x) (N := wN b) (by omega) (wN b) (-(hf b))
      unfold onesN cyM restM
      omega
    refine Ev.step (fun k => by simp only [laws_FnFirstCycles.l0]; rfl) ?_
    exact Ev.ff (by rw [h]; simp) (Ev.tt e (fc_law_j5 hb1))
  | c :: t, p, n, h, hn => by
    have g := (foOk_iff.1 ok).2.2.2
    have sn := sc_num g
    have hg := stG_in (a := a) (sh := sh) (m := m) w x g
    obtain ⟨s1, s2, s3⟩ := cyM_sz a sh m b w x g
    rw [← hL] at s1 s2 s3
    have hup := cyM_up (stG a sh m b w x) (-(hf b)) (wN b)
    rw [← hL] at hup
    have hcm : c ∈ L := by rw [h]; simp
    have hcl := s2 c hcm
    obtain ⟨y, q, hy, hcy, ec⟩ := (cyM_mem hg).1 (hL ▸ hcm)
    have hq1 := hcy.1
    have hlen : c.length = q := by rw [ec, orbL_length]
    have e1 : (p.length : Int) < (L.length : Int) := by rw [h]; exact lt_mid p t c
    have e2 : rd_L5 L (p.length : Int) = c := by rw [h]; exact fc_rdn p t c
    have e3 : wrap64 ((p.length : Int) + 1) = ((p ++ [c]).length : Int) := nx_mid p t c (by rw [← h]; omega)
    have hr0 : rd c 0 = y := by rw [ec, fc_hd0]; exact hd0_orb hcy
    have hnl : n ≤ 1000000 := by
      have : (p.filter fun c => decide (c.length = 1)).length ≤ p.length := List.length_filter_le _ _
      unfold onesN at hn
      omega
    have e5 : wrap64 ((n : Int) + 1) = ((n + 1 : Nat) : Int) := by rw [w64 (n := (n : Int) + 1) (by omega) (by omega)]; omega
    have ih := fun n' hn' => fc_law_l0 hb1 a sh m b w ok hx L hL S hS t (p ++ [c]) n' (by rw [h]; simp) hn'
    have on : onesN (p ++ [c]) = onesN p + (if c.length = 1 then 1 else 0) := by
      unfold onesN
      rw [List.filter_append, List.length_append]
      by_cases z : c.length = 1
      · simp [z]
      · simp [z]
    have j4 : Ev (fun k => laws_FnFirstCycles.j4 k l1 x L S (n : Int) c L (L.length : Int) (p.length : Int) false a sh m b w) true := by
      refine Ev.step (fun k => by simp only [laws_FnFirstCycles.j4, hr0, e3, e5]; rfl) (Ev.ff (by decide) ?_)
      by_cases z : c.length = 1
      · rw [if_pos z, ← hn] at on
        have hmem : y ∈ S := by
          have hq : q = 1 := by omega
          rw [hq] at hcy
          rw [hS]
          refine List.mem_filter.2 ⟨(rngI_mem _ _ _).2 hy, ?_⟩
          simpa [itr] using hcy.2.1
        have hSl : S.length ≤ 1000000 := by
          have h := List.length_filter_le (fun v => decide (stG a sh m b w x v = v)) (rngI (-(hf b)) (wN b))
          rw [rngI_length] at h
          rw [hS]
          unfold restM
          omega
        have g1 : (c.length : Int) = 1 := by rw [z]; rfl
        have g2 : 0 < (c.length : Int) := by rw [z]; decide
        exact Ev.tt g1 (Ev.tt g2 (Ev.bind (uHas_ev S hSl y hmem) (Ev.tt rfl (ih (n + 1) on.symm))))
      · rw [if_neg z, ← hn] at on
        have g1 : ¬ (c.length : Int) = 1 := fun e => z (Int.ofNat_inj.1 e)
        exact Ev.ff g1 (ih n on.symm)
    have j2 : Ev (fun k => laws_FnFirstCycles.j2 k l1 x L S (n : Int) c L (L.length : Int) (p.length : Int) false a sh m b w) true := by
      refine Ev.step (fun k => by simp only [laws_FnFirstCycles.j2]; rfl) (Ev.ff (by decide) ?_)
      rw [ec] at j4 ⊢
      exact fc_law_l1 l1 a sh m b w ok hx L S (n : Int) (L.length : Int) (p.length : Int) y q ⟨hy.1, by omega⟩ hcy (by omega) j4 q 0 (by omega)
    refine Ev.step (fun k => by simp only [laws_FnFirstCycles.l0, e2, hr0]; rfl) ?_
    refine Ev.tt e1 (Ev.tt (by omega) (Ev.tt e1 (Ev.ff (by omega) ?_)))
    rcases List.eq_nil_or_concat p with hp0 | ⟨r, u, hp0⟩
    · have e6 : (p.length : Int) = 0 := by rw [hp0]; rfl
      exact Ev.ff (by omega) j2
    · rw [List.concat_eq_append] at hp0
      have e6 : (p.length : Int) = (r.length : Int) + 1 := by rw [hp0]; simp
      have e7 : wrap64 ((p.length : Int) - 1) = (r.length : Int) := by
        rw [w64 (n := (p.length : Int) - 1) (by omega) (by omega)]
        omega
      have h' : L = r ++ u :: (c :: t) := by rw [h, hp0]; simp
      have e8 : rd_L5 L (r.length : Int) = u := by rw [h']; exact fc_rdn r (c :: t) u
      have hum : u ∈ L := by rw [h']; simp
      obtain ⟨y', q', hy', hcy', ec'⟩ := (cyM_mem hg).1 (hL ▸ hum)
      have hq1' := hcy'.1
      have hlen' : u.length = q' := by rw [ec', orbL_length]
      have hlt : hd0 u < hd0 c := by
        rw [h'] at hup
        exact List.rel_of_pairwise_cons (List.pairwise_append.1 hup).2.1 (by simp)
      have e9 : decide (rd u 0 ≥ y) = false := by
        rw [fc_hd0]
        rw [← hr0, fc_hd0]
        exact decide_eq_false (by omega)
      rw [e7, e8, e9]
      exact Ev.tt (by omega) (Ev.tt (by omega) (Ev.tt (by omega) (Ev.tt (by omega) (Ev.tt (by omega) j2))))
theorem FnFirstCycles : laws_FnFirstCycles.Pure := by
  intro l0 l1 hm0 he0 hx0 hm1 he1 hx1
  apply Ev.rounds
  simp only [laws_FnFirstCycles.f]
  refine Ev.dbind (laws_big_eq l0 l1 (by omega) (by omega)) ?_
  by_cases c : decide (1048576 < l0.length + l1.length) = true
  · exact Ev.tt c (Ev.now _)
  have hlen : l0.length + l1.length ≤ 1048576 := by simpa using c
  refine Ev.ff c ?_
  have hb0 : Bytes l0 := bytes_of (by omega) hx0
  have hb1 : Bytes l1 := bytes_of (by omega) hx1
  obtain ⟨a, sh, m, b, w, x, d⟩ := drawCycles_ok hb0
  refine Ev.dbind d (Ev.bind (impl_CyclesOfFirst_ev a sh m b w x) (Ev.bind (spec_CyclesOfFirst_ev a sh m b w x) (Ev.bind (impl_RestsOf_ev a sh m b w x) (Ev.bind (spec_RestsOf_ev a sh m b w x) ?_))))
  refine Ev.ff (fc_bool_ne _) ?_
  by_cases c : scanM a sh m b x = true
  · obtain ⟨ok, hx, hb⟩ := scanM_iff.1 c
    have g := (foOk_iff.1 ok).2.2.2
    have sn := sc_num g
    obtain ⟨s1, s2, s3⟩ := cyM_sz a sh m b w x g
    have hS : pickM (stG a sh m b w x) (fun t v => decide (t = v)) (-(hf b)) (wN b) = restM (stG a sh m b w x) (-(hf b)) (wN b) := rfl
    have hSl : (restM (stG a sh m b w x) (-(hf b)) (wN b)).length ≤ 1000000 := by
      have h := List.length_filter_le (fun v => decide (stG a sh m b w x v = v)) (rngI (-(hf b)) (wN b))
      rw [rngI_length] at h
      unfold restM
      omega
    rw [cyclesM, if_pos c, restsM, if_pos c, hS]
    dsimp only
    refine Ev.bind (uRows_ev _ (by omega) (fun z hz => by have := s2 z hz; omega)) (Ev.tt rfl (Ev.ff (fc_bool_ne _) (Ev.bind (laws_uSame_ev _ (by omega)) (Ev.tt rfl ?_))))
    have hne : ¬ ((cyM (stG a sh m b w x) (-(hf b)) (wN b)).length : Int) = 0 := fun e => cyM_some (lo := -(hf b)) (N := wN b) (stG_in (a := a) (sh := sh) (m := m) w x g) (by omega) (List.length_eq_zero_iff.1 (by omega))
    refine Ev.step (fun k => by simp only [laws_FnFirstCycles.j0]; rfl) ?_
    exact Ev.ff (by decide) (Ev.tt (by first | exact rfl | trivial) (Ev.ff hne (fc_law_l0 hb1 a sh m b w ok hx _ rfl _ rfl _ [] 0 rfl rfl)))
  · rw [cyclesM, if_neg c, restsM, if_neg c]
    dsimp only
    refine Ev.bind (uRows_ev _ (by simp) (by simp)) (Ev.tt rfl (Ev.ff (fc_bool_ne _) (Ev.bind (laws_uSame_ev _ (by simp)) (Ev.tt rfl ?_))))
    refine Ev.step (fun k => by simp only [laws_FnFirstCycles.j0]; rfl) ?_
    exact Ev.ff (by decide) (Ev.ff (by decide) (fc_law_j5 hb1))

end Go.Proofs.Ytjplcongellcmaa.Pure
