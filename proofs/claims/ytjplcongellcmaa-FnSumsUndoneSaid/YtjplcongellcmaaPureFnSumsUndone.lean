/- FnSumsUndone: the plain law behind the statement FnSumsUndone. No condition. -/
import Derived.Test.YtjplcongellcmaaPFnSumsUndonex14
namespace Go.Proofs.Ytjplcongellcmaa.Pure
open Go.RowKit Go.Proofs.Ytjplcongellcmaa.PFnSumsUndone Go.Proofs.YtjplcongellcmaaW.PrintWords Go.Proofs.YtjplcongellcmaaW.PrintLast Go.Proofs.YtjplcongellcmaaW.PrintMore
set_option linter.unusedVariables false
set_option linter.unusedSimpArgs false

theorem w64 {n : Int} (h1 : -9223372036854775808 ≤ n) (h2 : n ≤ 9223372036854775807) : wrap64 n = n := by
  unfold wrap64
  omega
theorem Ev.to {α : Type} {g : Nat → Option α} {r r' : α} (h : Ev g r) (e : r = r') : Ev g r' := e ▸ h
theorem Ev.const {α : Type} {g : Option α} {r : α} (h : g = some r) : Ev (fun _ => g) r := ⟨0, fun _ _ => h⟩
theorem Ev.dbind {α β : Type} {g : Option α} {f : Nat → α → Option β} {a : α} {r : β} (h : g = some a) (k : Ev (fun n => f n a) r) : Ev (fun n => g.bind (f n)) r :=
  Ev.bind (g := fun _ => g) (Ev.const h) k
theorem Ev.tt {α : Type} {c : Prop} {_ : Decidable c} {g f : Nat → Option α} {r : α} (h : c) (k : Ev g r) : Ev (fun n => if c then g n else f n) r := by
  simpa only [if_pos h] using k
theorem Ev.ff {α : Type} {c : Prop} {_ : Decidable c} {g f : Nat → Option α} {r : α} (h : ¬ c) (k : Ev f r) : Ev (fun n => if c then g n else f n) r := by
  simpa only [if_neg h] using k
theorem rd_mid (p t : List Int) (x : Int) : rd (p ++ x :: t) (p.length : Int) = x := by
  simp [rd]
theorem lt_mid {α : Type} (p t : List α) (x : α) : (p.length : Int) < ((p ++ x :: t).length : Int) := by
  simp
  omega
theorem nx_mid {α : Type} (p t : List α) (x : α) (h : (p ++ x :: t).length ≤ 140737488351232) : wrap64 ((p.length : Int) + 1) = ((p ++ [x]).length : Int) := by
  simp at h ⊢
  exact w64 (by omega) (by omega)
theorem ap_mid {α : Type} (p t : List α) (x : α) : p ++ x :: t = (p ++ [x]) ++ t := by simp
theorem w64_nat (a b : Nat) (h : a + b ≤ 1000000000) : wrap64 ((a : Int) + (b : Int)) = ((a + b : Nat) : Int) := by
  rw [w64 (n := (a : Int) + (b : Int)) (by omega) (by omega)]
  omega
theorem w64_suc {α : Type} (q : List α) (x : α) (h : q.length ≤ 1000000000) : wrap64 ((q.length : Int) + 1) = ((q ++ [x]).length : Int) := by
  rw [w64 (n := (q.length : Int) + 1) (by omega) (by omega)]
  simp
theorem ar1 {a b c d : Nat} (h1 : a + 1 ≤ c) (h2 : b + 1 ≤ d) : ((a + b : Nat) : Int) < ((c + d - 1 : Nat) : Int) := by omega
theorem ar2 {a b c d : Nat} (h1 : a + 1 ≤ c) (h2 : b + 1 ≤ d) : a + b < c + d - 1 := by omega
theorem ar3 (a b : Nat) : ¬ (a ≤ a + b ∧ a + b - a < b) := by omega
theorem ar4 {v M : Int} (h : -M ≤ v ∧ v ≤ M) (hm : M ≤ 4000000000000000000) : wrap64 v = v := w64 (by omega) (by omega)
theorem ar5 {c v P M H : Int} (hc : -P ≤ c ∧ c ≤ P) (hv : -M ≤ v ∧ v ≤ M) (hp : P + M ≤ H) (hH : H ≤ 4000000000000000000) : wrap64 (c + v) = c + v := w64 (by omega) (by omega)
theorem ar6 {a b : Nat} {M : Int} (h : a + 1 ≤ b) (hM : 0 ≤ M) : (a : Int) * M + M ≤ (b : Int) * M := by
  have h1 : ((a : Int) + 1) * M ≤ (b : Int) * M := Int.mul_le_mul_of_nonneg_right (by omega) hM
  rw [Int.add_mul, Int.one_mul] at h1
  exact h1
theorem ar7 {a b c d : Nat} (h1 : a + 1 ≤ c) (h2 : b + 1 ≤ d) (h : c + d ≤ 100000000) : a + b ≤ 1000000000 := by omega
theorem ar8 {a c d : Nat} (h1 : a + 1 ≤ c) (h : c + d ≤ 100000000) : a ≤ 1000000000 := by omega
theorem tm (a b : Nat) : Int.tmod (a : Int) (b : Int) = ((a % b : Nat) : Int) := (Int.ofNat_tmod a b).symm
theorem td (a b : Nat) : Int.tdiv (a : Int) (b : Int) = ((a / b : Nat) : Int) := (Int.ofNat_tdiv a b).symm
theorem w64n {a : Nat} (h : a ≤ 1000000000) : wrap64 (a : Int) = (a : Int) := w64 (by omega) (by omega)

def backOf (n : Int) : Int × Bool := if n = 3 then (-1, true) else if n = 4 then (0, true) else if n = 6 then (1, true) else (0, false)
def tnF (c : Int) : List Int → Int → Int → Int × Int
  | [], y, z => (y, z)
  | x :: t, y, z => tnF c t (wrap64 ((wrap64 (x + (wrap64 (c * y)))) - z)) y
def sig (l : List Int) : Bool := decide (l.length ≤ 64) && l.all fun x => decide (-100000 ≤ x) && decide (x ≤ 100000)
def toneStates (l : List Int) (n : Int) : Int × Int × Bool := if (backOf n).2 = true then (if sig l = true then ((tnF (backOf n).1 l 0 0).1, (tnF (backOf n).1 l 0 0).2, true) else (0, 0, false)) else (0, 0, false)
theorem sig_len {l : List Int} (h : sig l = true) : l.length ≤ 64 := by
  simp [sig] at h
  exact h.1
theorem sig_mem {l : List Int} (h : sig l = true) : ∀ x ∈ l, -100000 ≤ x ∧ x ≤ 100000 := by
  simp [sig] at h
  exact h.2
def isBits (l : List Int) : Bool := decide (l.length ≤ 200) && l.all fun x => decide (x = 1 ∨ x = -1)
theorem isBits_len {l : List Int} (h : isBits l = true) : l.length ≤ 200 := by
  simp [isBits] at h
  exact h.1
theorem isBits_mem {l : List Int} (h : isBits l = true) : ∀ x ∈ l, x = 1 ∨ x = -1 := by
  simp [isBits] at h
  exact h.2
def toldM (l : List Int) : List Int × Bool := if sig l = true then (l, true) else ([], false)
theorem toldM_len (l : List Int) : (toldM l).1.length ≤ 64 := by
  unfold toldM
  split
  · exact sig_len ‹_›
  · simp
def bitM (x v : Int) : Int := if x ≥ v then 1 else -1
theorem bitM_cases (x v : Int) : bitM x v = 1 ∨ bitM x v = -1 := by
  unfold bitM
  split <;> simp
def tkS (st last : Int) (fixed : Bool) (bit : Int) : Int :=
  if fixed = true then st else if last = 0 then st else if bit = last then (if 2 * st ≤ 4096 then 2 * st else 4096) else (if 1 ≤ st / 2 then st / 2 else 1)
theorem tkS_bd {st last : Int} {fixed : Bool} {bit : Int} (h0 : 1 ≤ st) (h1 : st ≤ 4096) : 1 ≤ tkS st last fixed bit ∧ tkS st last fixed bit ≤ 4096 := by
  unfold tkS
  repeat' split
  all_goals omega
theorem mul_bit {st bit : Int} (hb : bit = 1 ∨ bit = -1) : st * bit = st ∨ st * bit = -st := by
  rcases hb with rfl | rfl
  · left; omega
  · right; omega
/-- bit, value and step behind each sample -/
def codeM (fixed : Bool) : List Int → Int → Int → Int → List (Int × Int × Int)
  | [], _, _, _ => []
  | x :: t, v, st, last =>
    let b := bitM x v
    let s := tkS st last fixed b
    (b, v + s * b, s) :: codeM fixed t (v + s * b) s b
theorem codeM_length (fixed : Bool) : ∀ (l : List Int) (v st last : Int), (codeM fixed l v st last).length = l.length
  | [], _, _, _ => rfl
  | x :: t, v, st, last => by simp [codeM, codeM_length fixed t]
def fixM (st : Int) : List Int → Int → List Int
  | [], _ => []
  | x :: t, v => bitM x v :: fixM st t (v + bitM x v * st)
theorem fixM_length (st : Int) : ∀ (l : List Int) (v : Int), (fixM st l v).length = l.length
  | [], _ => rfl
  | x :: t, v => by simp [fixM, fixM_length st t]
def fixedBits (l : List Int) (st : Int) : List Int × Bool := if sig l = true ∧ 1 ≤ st ∧ st ≤ 4096 then (fixM st l 0, true) else ([], false)
def decM (fixed : Bool) : List Int → Int → Int → Int → List (Int × Int)
  | [], _, _, _ => []
  | b :: t, v, st, last => (v + tkS st last fixed b * b, tkS st last fixed b) :: decM fixed t (v + tkS st last fixed b * b) (tkS st last fixed b) b
theorem decM_length (fixed : Bool) : ∀ (l : List Int) (v st last : Int), (decM fixed l v st last).length = l.length
  | [], _, _, _ => rfl
  | x :: t, v, st, last => by simp [decM, decM_length fixed t]
def gapM : List Int → List Int → List Int
  | x :: t, y :: u => (x - y) :: gapM t u
  | _, _ => []
theorem gapM_length : ∀ (l m : List Int), l.length = m.length → (gapM l m).length = l.length
  | [], m, _ => by cases m <;> simp [gapM]
  | x :: t, [], h => by simp at h
  | x :: t, y :: u, h => by
    simp at h
    simp [gapM, gapM_length t u h]
theorem codeM_val (fixed : Bool) : ∀ (l : List Int) (v st last : Int) (n : Int), 1 ≤ st → st ≤ 4096 → -4096 * n ≤ v → v ≤ 4096 * n → ∀ y ∈ (codeM fixed l v st last).map (·.2.1), -4096 * (n + l.length) ≤ y ∧ y ≤ 4096 * (n + l.length)
  | [], _, _, _, _, _, _, _, _, y, hy => by simp [codeM] at hy
  | x :: t, v, st, last, n, h0, h1, hv0, hv1, y, hy => by
    have hb := bitM_cases x v
    have hk := tkS_bd (last := last) (fixed := fixed) (bit := bitM x v) h0 h1
    have hm := mul_bit (st := tkS st last fixed (bitM x v)) hb
    simp only [codeM, List.map_cons, List.mem_cons] at hy
    rcases hy with rfl | hy
    · simp; omega
    · have := codeM_val fixed t _ _ _ (n + 1) hk.1 hk.2 (by omega) (by omega) y hy
      simp; omega
def stepOk (st : Int) : Bool := decide (1 ≤ st) && decide (st ≤ 4096)
theorem stepOk_iff {st : Int} : stepOk st = true ↔ 1 ≤ st ∧ st ≤ 4096 := by simp [stepOk]
def stepBits (l : List Int) (st : Int) : List Int × Bool := if sig l = true then (if stepOk st = true then ((codeM false l 0 st 0).map (·.1), true) else ([], false)) else ([], false)
def stepValues (l : List Int) (st : Int) : List Int × Bool := if isBits l = true then (if stepOk st = true then toldM ((decM false l 0 st 0).map (·.1)) else ([], false)) else ([], false)
def stepsOfBits (l : List Int) (st : Int) : List Int × Bool := if isBits l = true then (if stepOk st = true then toldM ((decM false l 0 st 0).map (·.2)) else ([], false)) else ([], false)
def fixedValues (l : List Int) (st : Int) : List Int × Bool := if isBits l = true then (if stepOk st = true then toldM ((decM true l 0 st 0).map (·.1)) else ([], false)) else ([], false)
def stepGaps (l : List Int) (st : Int) : List Int × Bool := if sig l = true then (if stepOk st = true then toldM (gapM l ((codeM false l 0 st 0).map (·.2.1))) else ([], false)) else ([], false)
def wts (l : List Int) : Bool := decide (1 ≤ l.length) && decide (l.length ≤ 9) && l.all fun x => decide (-1000 ≤ x) && decide (x ≤ 1000)
theorem wts_len {l : List Int} (h : wts l = true) : 1 ≤ l.length ∧ l.length ≤ 9 := by
  simp [wts] at h
  exact ⟨h.1.1, h.1.2⟩
theorem wts_mem {l : List Int} (h : wts l = true) : ∀ x ∈ l, -1000 ≤ x ∧ x ≤ 1000 := by
  simp [wts] at h
  exact h.2
def ratio (p q : Int) : Bool := (decide (1 ≤ p) && decide (p ≤ 8)) && (decide (1 ≤ q) && decide (q ≤ 8))
theorem ratio_iff {p q : Int} : ratio p q = true ↔ (1 ≤ p ∧ p ≤ 8) ∧ (1 ≤ q ∧ q ≤ 8) := by simp [ratio]
def rsOk (h l : List Int) (p q : Int) : Bool := wts h && ((sig l && ratio p q) && decide ((l.length : Int) * p ≤ 64))
def peakM : List Int → Nat → Nat
  | [], m => m
  | x :: t, m => peakM t (max m x.natAbs)

def cv : List Int → List Int → Nat → Int
  | [], _, _ => 0
  | w :: _, s, 0 => w * s.getD 0 0
  | w :: h, s, n + 1 => w * s.getD (n + 1) 0 + cv h s n
def Lf (f : Nat → Int) (N : Nat) : List Int := (List.range N).map f
theorem Lf_length (f : Nat → Int) (N : Nat) : (Lf f N).length = N := by simp [Lf]
theorem rd_Lf (f : Nat → Int) (N i : Nat) (h : i < N) : rd (Lf f N) (i : Int) = f i := by
  simp [rd, Lf, h]
theorem set_Lf (f : Nat → Int) (N i : Nat) (v : Int) : (Lf f N).set i v = Lf (fun n => if n = i then v else f n) N := by
  apply List.ext_getElem
  · simp [Lf]
  · intro n h1 h2
    simp [Lf, List.getElem_set]
    by_cases c : i = n
    · simp [c]
    · rw [if_neg c, if_neg (fun h => c h.symm)]
theorem Lf_congr {f g : Nat → Int} {N : Nat} (h : ∀ n, n < N → f n = g n) : Lf f N = Lf g N := by
  apply List.ext_getElem
  · simp [Lf]
  · intro n h1 h2
    simp [Lf] at h1 ⊢
    exact h n h1
theorem cv_snoc (s : List Int) (w : Int) : ∀ (p : List Int) (n : Nat), cv (p ++ [w]) s n = cv p s n + (if p.length ≤ n then w * s.getD (n - p.length) 0 else 0)
  | [], 0 => by simp [cv]
  | [], n + 1 => by simp [cv]
  | a :: p, 0 => by simp [cv]
  | a :: p, n + 1 => by
    simp only [List.cons_append, cv, cv_snoc s w p n, List.length_cons, Nat.add_le_add_iff_right, Nat.add_sub_add_right]
    omega
theorem getD_bd {s : List Int} {a M : Int} (hM : 0 ≤ M) (h : ∀ x ∈ s, -M ≤ a * x ∧ a * x ≤ M) (n : Nat) : -M ≤ a * s.getD n 0 ∧ a * s.getD n 0 ≤ M := by
  rw [List.getD_eq_getElem?_getD]
  by_cases c : n < s.length
  · rw [List.getElem?_eq_getElem c]
    exact h _ (List.getElem_mem c)
  · rw [List.getElem?_eq_none (by omega)]
    simp
    omega
theorem cv_bd {s : List Int} {M : Int} (hM : 0 ≤ M) : ∀ (h : List Int) (n : Nat), (∀ a ∈ h, ∀ x ∈ s, -M ≤ a * x ∧ a * x ≤ M) → -(h.length * M) ≤ cv h s n ∧ cv h s n ≤ h.length * M
  | [], n, hb => by simp [cv]
  | a :: h, 0, hb => by
    have h1 := getD_bd hM (hb a (by simp)) 0
    have h2 : 0 ≤ (h.length : Int) * M := Int.mul_nonneg (by omega) hM
    simp only [cv, List.length_cons, Int.natCast_add, Int.add_mul]
    omega
  | a :: h, n + 1, hb => by
    have h1 := getD_bd hM (hb a (by simp)) (n + 1)
    have h2 := cv_bd hM h n (fun b hbm => hb b (by simp [hbm]))
    simp only [cv, List.length_cons, Int.natCast_add, Int.add_mul]
    omega
def conv (h s : List Int) : List Int := if s = [] then [] else Lf (cv h s) (h.length + s.length - 1)
theorem conv_length (h s : List Int) (hs : s ≠ []) : (conv h s).length = h.length + s.length - 1 := by
  rw [conv, if_neg hs, Lf_length]
/-- what stands in the list when the weights p are done, and of the weight w the samples q -/
def cvi (p q s : List Int) (w : Int) (n : Nat) : Int := cv p s n + (if p.length ≤ n ∧ n - p.length < q.length then w * s.getD (n - p.length) 0 else 0)
theorem cvi_nil (p s : List Int) (w : Int) : cvi p [] s w = cv p s := by
  funext n
  simp [cvi]
theorem cvi_all (p s : List Int) (w : Int) (n : Nat) : cvi p s s w n = cv (p ++ [w]) s n := by
  rw [cv_snoc, cvi]
  by_cases c : p.length ≤ n
  · by_cases d : n - p.length < s.length
    · rw [if_pos ⟨c, d⟩, if_pos c]
    · rw [if_neg (fun h => d h.2), if_pos c, List.getD_eq_getElem?_getD, List.getElem?_eq_none (by omega)]
      simp
  · rw [if_neg (fun h => c h.1), if_neg c]
theorem getD_mid (q t : List Int) (x : Int) : (q ++ x :: t).getD q.length 0 = x := by simp
theorem cvi_step (p q t : List Int) (w x : Int) (n : Nat) : (if n = p.length + q.length then cvi p q (q ++ x :: t) w n + w * x else cvi p q (q ++ x :: t) w n) = cvi p (q ++ [x]) (q ++ x :: t) w n := by
  unfold cvi
  by_cases c : n = p.length + q.length
  · subst c
    have e : p.length + q.length - p.length = q.length := by omega
    rw [if_pos rfl, e, getD_mid, if_neg (by omega), if_pos ⟨by omega, by simp⟩]
    omega
  · rw [if_neg c]
    by_cases d : p.length ≤ n ∧ n - p.length < q.length
    · rw [if_pos d, if_pos ⟨d.1, by simp; omega⟩]
    · rw [if_neg d, if_neg (fun h => d ⟨h.1, by have := h.2; simp at this; omega⟩)]
theorem Lf_succ (f : Nat → Int) (n : Nat) : Lf f (n + 1) = Lf f n ++ [f n] := by simp [Lf, List.range_succ]
def dropN (len rate first : Nat) : Nat := (len - first + rate - 1) / rate
theorem dropN_lt {len rate first j : Nat} (hr : 1 ≤ rate) : j < dropN len rate first ↔ first + j * rate < len := by
  unfold dropN
  rw [Nat.lt_iff_add_one_le, Nat.le_div_iff_mul_le (by omega), Nat.add_mul]
  omega
def dropM (l : List Int) (rate first : Nat) : List Int := Lf (fun j => l.getD (first + j * rate) 0) (dropN l.length rate first)
theorem dropM_length (l : List Int) (rate first : Nat) : (dropM l rate first).length = dropN l.length rate first := Lf_length _ _
theorem dropN_le {len rate first : Nat} (hr : 1 ≤ rate) : dropN len rate first ≤ len := by
  apply Nat.le_of_not_lt
  intro h
  have := (dropN_lt hr).1 h
  have h2 : len * 1 ≤ len * rate := Nat.mul_le_mul_left len hr
  omega
def stuffM (p : Nat) : List Int → List Int
  | [] => []
  | x :: t => (x :: List.replicate (p - 1) 0) ++ stuffM p t
theorem stuffM_length (p : Nat) (hp : 1 ≤ p) : ∀ l : List Int, (stuffM p l).length = l.length * p
  | [] => by simp [stuffM]
  | x :: t => by
    simp only [stuffM, List.length_append, List.length_cons, List.length_replicate, stuffM_length p hp t, Nat.add_mul]
    omega
theorem stuffM_snoc (p : Nat) (x : Int) : ∀ l : List Int, stuffM p (l ++ [x]) = stuffM p l ++ (x :: List.replicate (p - 1) 0)
  | [] => by simp [stuffM]
  | y :: t => by simp [stuffM, stuffM_snoc p x t]
theorem rd_getD (l : List Int) (i : Nat) : rd l (i : Int) = l.getD i 0 := by simp [rd]
theorem stuffM_sig (p : Nat) : ∀ l : List Int, (∀ x ∈ l, -100000 ≤ x ∧ x ≤ 100000) → ∀ x ∈ stuffM p l, -100000 ≤ x ∧ x ≤ 100000
  | [], _, x, h => by simp [stuffM] at h
  | y :: t, hl, x, h => by
    simp only [stuffM, List.mem_append, List.mem_cons, List.mem_replicate] at h
    rcases h with (rfl | ⟨_, rfl⟩) | h
    · exact hl _ (by simp)
    · omega
    · exact stuffM_sig p t (fun z hz => hl z (by simp [hz])) x h
theorem sig_iff {l : List Int} : sig l = true ↔ l.length ≤ 64 ∧ ∀ x ∈ l, -100000 ≤ x ∧ x ≤ 100000 := by simp [sig]
theorem ediv_bd {x b : Int} (hb : 0 < b) (hx : -4611686018427387904 ≤ x ∧ x ≤ 4611686018427387904) : -4611686018427387905 ≤ x / b ∧ x / b ≤ 4611686018427387905 := by
  have h0 := Int.emod_nonneg x (show b ≠ 0 by omega)
  have h1 := Int.emod_lt_of_pos x hb
  have h2 := Int.emod_add_mul_ediv x b
  constructor
  · apply Int.not_lt.1
    intro h
    have : b * (x / b) ≤ 1 * (x / b) := Int.mul_le_mul_of_nonpos_right (by omega) (by omega)
    have h3 : b * (x / b) ≤ b * (-4611686018427387906) := Int.mul_le_mul_of_nonneg_left (by omega) (by omega)
    omega
  · apply Int.not_lt.1
    intro h
    have h3 : 1 * (x / b) ≤ b * (x / b) := Int.mul_le_mul_of_nonneg_right (by omega) (by omega)
    omega
def atM (s : List Int) (i : Int) : Int := if 0 ≤ i then s.getD i.toNat 0 else 0
theorem getD_all {l : List Int} {M : Int} (hM : 0 ≤ M) (h : ∀ x ∈ l, -M ≤ x ∧ x ≤ M) (n : Nat) : -M ≤ l.getD n 0 ∧ l.getD n 0 ≤ M := by
  rw [List.getD_eq_getElem?_getD]
  by_cases c : n < l.length
  · rw [List.getElem?_eq_getElem c]
    exact h _ (List.getElem_mem c)
  · rw [List.getElem?_eq_none (by omega)]
    simp
    omega

theorem spec_l1In_eq (a b c : Int) : spec_l1In.f a b c = some (decide (b ≤ a) && decide (a ≤ c)) := by
  unfold spec_l1In.f
  by_cases h : b ≤ a <;> simp [h]

theorem impl_in_eq (a b c : Int) : impl_in.f a b c = some (decide (b ≤ a) && decide (a ≤ c)) := by
  unfold impl_in.f
  by_cases h : b ≤ a <;> simp [h]

theorem spec_l1All_l0 (lo hi : Int) (l : List Int) (hl : l.length ≤ 140737488351232) : ∀ (t p : List Int), l = p ++ t → Ev (fun k => spec_l1All.l0 k lo hi l (l.length : Int) (p.length : Int)) (t.all fun x => decide (lo ≤ x) && decide (x ≤ hi))
  | [], p, h => by
    apply Ev.step (f := fun _ => some _)
    · intro k
      subst h
      simp [spec_l1All.l0]; rfl
    · exact Ev.now _
  | x :: t, p, h => by
    have e1 : (p.length : Int) < (l.length : Int) := by rw [h]; exact lt_mid p t x
    have e2 : rd l (p.length : Int) = x := by rw [h]; exact rd_mid p t x
    have e3 : wrap64 ((p.length : Int) + 1) = ((p ++ [x]).length : Int) := nx_mid p t x (h ▸ hl)
    by_cases c : (decide (lo ≤ x) && decide (x ≤ hi)) = true
    · refine Ev.to (Ev.step (fun k => ?_) (spec_l1All_l0 lo hi l hl t (p ++ [x]) (by simp [h]))) (by rw [List.all_cons, c, Bool.true_and])
      simp only [spec_l1All.l0, if_pos e1, if_pos (Int.natCast_nonneg _), e2, e3, spec_l1In_eq, Option.bind_some, if_pos c]
    · refine Ev.to (Ev.step (fun k => ?_) (Ev.now false)) (by rw [List.all_cons, Bool.eq_false_iff.mpr c, Bool.false_and])
      simp only [spec_l1All.l0, if_pos e1, if_pos (Int.natCast_nonneg _), e2, e3, spec_l1In_eq, Option.bind_some, if_neg c]
theorem spec_l1All_ev (l : List Int) (lo hi : Int) (hl : l.length ≤ 140737488351232) : Ev (fun k => spec_l1All.f k l lo hi) (l.all fun x => decide (lo ≤ x) && decide (x ≤ hi)) := by
  simpa [spec_l1All.f] using spec_l1All_l0 lo hi l hl l [] rfl

theorem spec_wdSignal_ev (l : List Int) (hl : l.length ≤ 140737488351232) : Ev (fun k => spec_wdSignal.f k l) (sig l) := by
  simp only [spec_wdSignal.f]
  by_cases c : (l.length : Int) ≤ 64
  · refine Ev.tt c (Ev.bind (spec_l1All_ev l (-100000) 100000 hl) (Ev.to (Ev.now _) ?_))
    simp [sig]; omega
  · refine Ev.ff c (Ev.to (Ev.now _) ?_)
    simp [sig]; omega

theorem impl_isSignal_c1_eq (x : Int) : impl_isSignal_c1.f x = some (!(decide (-100000 ≤ x) && decide (x ≤ 100000))) := by
  unfold impl_isSignal_c1.f
  rw [impl_in_eq]
  rfl
theorem indexSignal_l0 (l : List Int) (hl : l.length ≤ 140737488351232) : ∀ (t p : List Int), l = p ++ t → ∃ r, Ev (fun k => slices_IndexFunc_int_int_impl_isSignal_c1.l0 k l (l.length : Int) (p.length : Int)) r ∧ (decide (r ≥ 0) = !(t.all fun x => decide (-100000 ≤ x) && decide (x ≤ 100000)))
  | [], p, h => by
    refine ⟨-1, Ev.step (f := fun _ => some (-1)) ?_ (Ev.now _), by simp⟩
    intro k
    subst h
    simp [slices_IndexFunc_int_int_impl_isSignal_c1.l0]
  | x :: t, p, h => by
    have e1 : (p.length : Int) < (l.length : Int) := by rw [h]; exact lt_mid p t x
    have e2 : rd l (p.length : Int) = x := by rw [h]; exact rd_mid p t x
    have e3 : wrap64 ((p.length : Int) + 1) = ((p ++ [x]).length : Int) := nx_mid p t x (h ▸ hl)
    by_cases c : (decide (-100000 ≤ x) && decide (x ≤ 100000)) = true
    · obtain ⟨r, h1, h2⟩ := indexSignal_l0 l hl t (p ++ [x]) (by simp [h])
      refine ⟨r, Ev.step (fun k => ?_) h1, by rw [h2, List.all_cons, c, Bool.true_and]⟩
      simp only [slices_IndexFunc_int_int_impl_isSignal_c1.l0, if_pos e1, if_pos (Int.natCast_nonneg _), e2, e3, impl_isSignal_c1_eq, c, Option.bind_some, Bool.not_true]
      rfl
    · have c := Bool.eq_false_iff.mpr c
      refine ⟨(p.length : Int), Ev.step (fun k => ?_) (Ev.now _), by rw [List.all_cons, c]; simp⟩
      simp only [slices_IndexFunc_int_int_impl_isSignal_c1.l0, if_pos e1, if_pos (Int.natCast_nonneg _), e2, e3, impl_isSignal_c1_eq, c, Option.bind_some, Bool.not_false]
      rfl
theorem impl_isSignal_ev (l : List Int) (hl : l.length ≤ 140737488351232) : Ev (fun k => impl_isSignal.f k l) (sig l) := by
  simp only [impl_isSignal.f]
  by_cases c : (l.length : Int) ≤ 64
  · obtain ⟨r, h1, h2⟩ := indexSignal_l0 l hl l [] rfl
    refine Ev.tt c (Ev.bind (a := decide (r ≥ 0)) ?_ (Ev.to (Ev.now _) ?_))
    · simp only [slices_ContainsFunc_int_int_impl_isSignal_c1.f, slices_IndexFunc_int_int_impl_isSignal_c1.f]
      exact Ev.bind h1 (Ev.now _)
    · rw [h2]; simp [sig]; omega
  · refine Ev.ff c (Ev.to (Ev.now _) ?_)
    simp [sig]; omega

theorem spec_wdIf_ev (l : List Int) (hl : l.length ≤ 140737488351232) : Ev (fun k => spec_wdIf.f k l) (toldM l) := by
  simp only [spec_wdIf.f, toldM]
  refine Ev.bind (spec_wdSignal_ev l hl) ?_
  by_cases c : sig l = true
  · exact Ev.tt c (Ev.to (Ev.now _) (by rw [if_pos c]))
  · exact Ev.ff c (Ev.to (Ev.now _) (by rw [if_neg c]))

theorem impl_told_ev (l : List Int) (hl : l.length ≤ 140737488351232) : Ev (fun k => impl_told.f k l) (toldM l) := by
  simp only [impl_told.f, toldM]
  refine Ev.bind (impl_isSignal_ev l hl) ?_
  by_cases c : sig l = true
  · exact Ev.tt c (Ev.to (Ev.now _) (by rw [if_pos c]))
  · exact Ev.ff c (Ev.to (Ev.now _) (by rw [if_neg c]))

theorem spec_weAnswer_l1 (h s : List Int) (M : Int) (hM : 0 ≤ M) (hM1 : (h.length : Int) * M ≤ 4000000000000000000) (hMM : M ≤ 4000000000000000000) (hb : ∀ a ∈ h, ∀ x ∈ s, -M ≤ a * x ∧ a * x ≤ M) (hN : h.length + s.length ≤ 100000000) (hs : s ≠ [])
    (p : List Int) (w : Int) (u : List Int) (hp : h = p ++ w :: u) (r : List Int) : ∀ (t q : List Int), s = q ++ t →
    Ev (fun k => spec_weAnswer.l0 k s (Lf (cv (p ++ [w]) s) (h.length + s.length - 1)) h (h.length : Int) (wrap64 ((p.length : Int) + 1))) r →
    Ev (fun k => spec_weAnswer.l1 k s (Lf (cvi p q s w) (h.length + s.length - 1)) (p.length : Int) w h (h.length : Int) (p.length : Int) s (s.length : Int) (q.length : Int)) r
  | [], q, hq, hr => by
    have e : q = s := by rw [hq]; simp
    subst e
    refine Ev.step (fun k => ?_) hr
    have e : Lf (cvi p q q w) (h.length + q.length - 1) = Lf (cv (p ++ [w]) q) (h.length + q.length - 1) := Lf_congr (fun n _ => cvi_all p q w n)
    rw [e]
    simp [spec_weAnswer.l1]
  | x :: t, q, hq, hr => by
    have hps : p.length + 1 ≤ h.length := by rw [hp]; simp
    have hqs : q.length + 1 ≤ s.length := by rw [hq]; simp
    have e1 : (q.length : Int) < (s.length : Int) := Int.ofNat_lt.2 hqs
    have e2 : rd s (q.length : Int) = x := by rw [hq]; exact rd_mid q t x
    have e3 : wrap64 ((q.length : Int) + 1) = ((q ++ [x]).length : Int) := w64_suc q x (ar8 (d := h.length) hqs (by rw [Nat.add_comm]; exact hN))
    have e4 : wrap64 ((p.length : Int) + (q.length : Int)) = ((p.length + q.length : Nat) : Int) := w64_nat _ _ (ar7 hps hqs hN)
    have e5 : ((p.length + q.length : Nat) : Int) < ((Lf (cvi p q s w) (h.length + s.length - 1)).length : Int) := by rw [Lf_length]; exact ar1 hps hqs
    have e6 : rd (Lf (cvi p q s w) (h.length + s.length - 1)) ((p.length + q.length : Nat) : Int) = cvi p q s w (p.length + q.length) := rd_Lf _ _ _ (ar2 hps hqs)
    have hwx := hb w (by rw [hp]; simp) x (by rw [hq]; simp)
    have e7 : wrap64 (w * x) = w * x := ar4 hwx hMM
    have e8 : cvi p q s w (p.length + q.length) = cv p s (p.length + q.length) := by
      unfold cvi
      rw [if_neg (ar3 _ _), Int.add_zero]
    have hcv := cv_bd hM p (p.length + q.length) (fun a ha => hb a (by rw [hp]; simp [ha]))
    have hpm := ar6 hps hM
    have e9 : wrap64 (cvi p q s w (p.length + q.length) + w * x) = cvi p q s w (p.length + q.length) + w * x := by
      rw [e8]
      exact ar5 hcv hwx hpm hM1
    have e10 : (Lf (cvi p q s w) (h.length + s.length - 1)).set (((p.length + q.length : Nat) : Int).toNat) (cvi p q s w (p.length + q.length) + w * x) = Lf (cvi p (q ++ [x]) s w) (h.length + s.length - 1) := by
      rw [Int.toNat_natCast, set_Lf]
      apply Lf_congr
      intro n _
      have := cvi_step p q t w x n
      rw [← hq] at this
      rw [← this]
      by_cases c : n = p.length + q.length
      · rw [if_pos c, if_pos c, c]
      · rw [if_neg c, if_neg c]
    refine Ev.step (fun k => ?_) (spec_weAnswer_l1 h s M hM hM1 hMM hb hN hs p w u hp r t (q ++ [x]) (by simp [hq]) hr)
    simp only [spec_weAnswer.l1, if_pos e1, if_pos (Int.natCast_nonneg _), e2, e3, e4, if_pos e5, e6, e7, e9, e10]
theorem spec_weAnswer_l0 (h s : List Int) (M : Int) (hM : 0 ≤ M) (hM1 : (h.length : Int) * M ≤ 4000000000000000000) (hMM : M ≤ 4000000000000000000) (hb : ∀ a ∈ h, ∀ x ∈ s, -M ≤ a * x ∧ a * x ≤ M) (hN : h.length + s.length ≤ 100000000) (hs : s ≠ []) :
    ∀ (u p : List Int), h = p ++ u → Ev (fun k => spec_weAnswer.l0 k s (Lf (cv p s) (h.length + s.length - 1)) h (h.length : Int) (p.length : Int)) (Lf (cv h s) (h.length + s.length - 1))
  | [], p, hp => by
    have e : p = h := by rw [hp]; simp
    subst e
    refine Ev.step (f := fun _ => some _) (fun k => ?_) (Ev.now _)
    simp [spec_weAnswer.l0]
  | w :: u, p, hp => by
    have hps : p.length + 1 ≤ h.length := by rw [hp]; simp
    have e1 : (p.length : Int) < (h.length : Int) := Int.ofNat_lt.2 hps
    have e2 : rd h (p.length : Int) = w := by rw [hp]; exact rd_mid p u w
    have e3 : wrap64 ((p.length : Int) + 1) = ((p ++ [w]).length : Int) := w64_suc p w (ar8 hps hN)
    have ih := spec_weAnswer_l0 h s M hM hM1 hMM hb hN hs u (p ++ [w]) (by simp [hp])
    rw [← e3] at ih
    have hh := spec_weAnswer_l1 h s M hM hM1 hMM hb hN hs p w u hp _ s [] rfl ih
    rw [cvi_nil] at hh
    refine Ev.step (fun k => ?_) hh
    simp only [spec_weAnswer.l0, if_pos e1, if_pos (Int.natCast_nonneg _), e2]
    rfl
theorem spec_weAnswer_ev (h s : List Int) (M : Int) (hM : 0 ≤ M) (hM1 : (h.length : Int) * M ≤ 4000000000000000000) (hMM : M ≤ 4000000000000000000) (hb : ∀ a ∈ h, ∀ x ∈ s, -M ≤ a * x ∧ a * x ≤ M) (hN : h.length + s.length ≤ 100000000) : Ev (fun k => spec_weAnswer.f k h s) (conv h s) := by
  simp only [spec_weAnswer.f, conv]
  by_cases c : s = []
  · subst c
    exact Ev.tt (by simp) (Ev.now _)
  · rw [if_neg c]
    have hs1 : 1 ≤ s.length := by
      cases s with
      | nil => exact absurd rfl c
      | cons a t => simp
    have e : wrap64 ((wrap64 ((h.length : Int) + (s.length : Int))) - 1) = ((h.length + s.length - 1 : Nat) : Int) := by
      rw [w64 (n := (h.length : Int) + (s.length : Int)) (by omega) (by omega), w64 (n := (h.length : Int) + (s.length : Int) - 1) (by omega) (by omega)]
      omega
    refine Ev.ff (by omega) ?_
    rw [e]
    refine Ev.tt (by omega) (Ev.tt (by omega) ?_)
    rw [Int.toNat_natCast]
    have e2 : List.replicate (h.length + s.length - 1) (0 : Int) = Lf (cv [] s) (h.length + s.length - 1) := by
      apply List.ext_getElem
      · simp [Lf]
      · intro n h1 h2
        simp [Lf, cv]
    rw [e2]
    exact spec_weAnswer_l0 h s M hM hM1 hMM hb hN c h [] rfl

theorem impl_answer_l1 (h s : List Int) (M : Int) (hM : 0 ≤ M) (hM1 : (h.length : Int) * M ≤ 4000000000000000000) (hMM : M ≤ 4000000000000000000) (hb : ∀ a ∈ h, ∀ x ∈ s, -M ≤ a * x ∧ a * x ≤ M) (hN : h.length + s.length ≤ 100000000) (hs : s ≠ [])
    (p : List Int) (w : Int) (u : List Int) (hp : h = p ++ w :: u) (r : List Int) : ∀ (t q : List Int), s = q ++ t →
    Ev (fun k => impl_answer.l0 k s (Lf (cv (p ++ [w]) s) (h.length + s.length - 1)) h (h.length : Int) (wrap64 ((p.length : Int) + 1))) r →
    Ev (fun k => impl_answer.l1 k s (Lf (cvi p q s w) (h.length + s.length - 1)) (p.length : Int) w h (h.length : Int) (p.length : Int) s (s.length : Int) (q.length : Int)) r
  | [], q, hq, hr => by
    have e : q = s := by rw [hq]; simp
    subst e
    refine Ev.step (fun k => ?_) hr
    have e : Lf (cvi p q q w) (h.length + q.length - 1) = Lf (cv (p ++ [w]) q) (h.length + q.length - 1) := Lf_congr (fun n _ => cvi_all p q w n)
    rw [e]
    simp [impl_answer.l1]
  | x :: t, q, hq, hr => by
    have hps : p.length + 1 ≤ h.length := by rw [hp]; simp
    have hqs : q.length + 1 ≤ s.length := by rw [hq]; simp
    have e1 : (q.length : Int) < (s.length : Int) := Int.ofNat_lt.2 hqs
    have e2 : rd s (q.length : Int) = x := by rw [hq]; exact rd_mid q t x
    have e3 : wrap64 ((q.length : Int) + 1) = ((q ++ [x]).length : Int) := w64_suc q x (ar8 (d := h.length) hqs (by rw [Nat.add_comm]; exact hN))
    have e4 : wrap64 ((q.length : Int) + (p.length : Int)) = ((p.length + q.length : Nat) : Int) := (w64_nat _ _ (ar7 hqs hps (by rw [Nat.add_comm]; exact hN))).trans (by rw [Nat.add_comm])
    have e5 : ((p.length + q.length : Nat) : Int) < ((Lf (cvi p q s w) (h.length + s.length - 1)).length : Int) := by rw [Lf_length]; exact ar1 hps hqs
    have e6 : rd (Lf (cvi p q s w) (h.length + s.length - 1)) ((p.length + q.length : Nat) : Int) = cvi p q s w (p.length + q.length) := rd_Lf _ _ _ (ar2 hps hqs)
    have hwx := hb w (by rw [hp]; simp) x (by rw [hq]; simp)
    have e7 : wrap64 (w * x) = w * x := ar4 hwx hMM
    have e8 : cvi p q s w (p.length + q.length) = cv p s (p.length + q.length) := by
      unfold cvi
      rw [if_neg (ar3 _ _), Int.add_zero]
    have hcv := cv_bd hM p (p.length + q.length) (fun a ha => hb a (by rw [hp]; simp [ha]))
    have hpm := ar6 hps hM
    have e9 : wrap64 (cvi p q s w (p.length + q.length) + w * x) = cvi p q s w (p.length + q.length) + w * x := by
      rw [e8]
      exact ar5 hcv hwx hpm hM1
    have e10 : (Lf (cvi p q s w) (h.length + s.length - 1)).set (((p.length + q.length : Nat) : Int).toNat) (cvi p q s w (p.length + q.length) + w * x) = Lf (cvi p (q ++ [x]) s w) (h.length + s.length - 1) := by
      rw [Int.toNat_natCast, set_Lf]
      apply Lf_congr
      intro n _
      have := cvi_step p q t w x n
      rw [← hq] at this
      rw [← this]
      by_cases c : n = p.length + q.length
      · rw [if_pos c, if_pos c, c]
      · rw [if_neg c, if_neg c]
    refine Ev.step (fun k => ?_) (impl_answer_l1 h s M hM hM1 hMM hb hN hs p w u hp r t (q ++ [x]) (by simp [hq]) hr)
    simp only [impl_answer.l1, if_pos e1, if_pos (Int.natCast_nonneg _), e2, e3, e4, if_pos e5, e6, e7, e9, e10]
theorem impl_answer_l0 (h s : List Int) (M : Int) (hM : 0 ≤ M) (hM1 : (h.length : Int) * M ≤ 4000000000000000000) (hMM : M ≤ 4000000000000000000) (hb : ∀ a ∈ h, ∀ x ∈ s, -M ≤ a * x ∧ a * x ≤ M) (hN : h.length + s.length ≤ 100000000) (hs : s ≠ []) :
    ∀ (u p : List Int), h = p ++ u → Ev (fun k => impl_answer.l0 k s (Lf (cv p s) (h.length + s.length - 1)) h (h.length : Int) (p.length : Int)) (Lf (cv h s) (h.length + s.length - 1))
  | [], p, hp => by
    have e : p = h := by rw [hp]; simp
    subst e
    refine Ev.step (f := fun _ => some _) (fun k => ?_) (Ev.now _)
    simp [impl_answer.l0]
  | w :: u, p, hp => by
    have hps : p.length + 1 ≤ h.length := by rw [hp]; simp
    have e1 : (p.length : Int) < (h.length : Int) := Int.ofNat_lt.2 hps
    have e2 : rd h (p.length : Int) = w := by rw [hp]; exact rd_mid p u w
    have e3 : wrap64 ((p.length : Int) + 1) = ((p ++ [w]).length : Int) := w64_suc p w (ar8 hps hN)
    have ih := impl_answer_l0 h s M hM hM1 hMM hb hN hs u (p ++ [w]) (by simp [hp])
    rw [← e3] at ih
    have hh := impl_answer_l1 h s M hM hM1 hMM hb hN hs p w u hp _ s [] rfl ih
    rw [cvi_nil] at hh
    refine Ev.step (fun k => ?_) hh
    simp only [impl_answer.l0, if_pos e1, if_pos (Int.natCast_nonneg _), e2]
    rfl
theorem impl_answer_ev (h s : List Int) (M : Int) (hM : 0 ≤ M) (hM1 : (h.length : Int) * M ≤ 4000000000000000000) (hMM : M ≤ 4000000000000000000) (hb : ∀ a ∈ h, ∀ x ∈ s, -M ≤ a * x ∧ a * x ≤ M) (hN : h.length + s.length ≤ 100000000) : Ev (fun k => impl_answer.f k h s) (conv h s) := by
  simp only [impl_answer.f, conv]
  by_cases c : s = []
  · subst c
    exact Ev.tt (by simp) (Ev.now _)
  · rw [if_neg c]
    have hs1 : 1 ≤ s.length := by
      cases s with
      | nil => exact absurd rfl c
      | cons a t => simp
    have e : wrap64 ((wrap64 ((h.length : Int) + (s.length : Int))) - 1) = ((h.length + s.length - 1 : Nat) : Int) := by
      rw [w64 (n := (h.length : Int) + (s.length : Int)) (by omega) (by omega), w64 (n := (h.length : Int) + (s.length : Int) - 1) (by omega) (by omega)]
      omega
    refine Ev.ff (by omega) ?_
    rw [e]
    refine Ev.tt (by omega) (Ev.tt (by omega) ?_)
    rw [Int.toNat_natCast]
    have e2 : List.replicate (h.length + s.length - 1) (0 : Int) = Lf (cv [] s) (h.length + s.length - 1) := by
      apply List.ext_getElem
      · simp [Lf]
      · intro n h1 h2
        simp [Lf, cv]
    rw [e2]
    exact impl_answer_l0 h s M hM hM1 hMM hb hN c h [] rfl

theorem spec_cbDrop_l0 (l : List Int) (rate first : Nat) (hr : 1 ≤ rate) (hr8 : rate ≤ 1000) (hl : l.length ≤ 100000000) : ∀ (d j : Nat), j + d = dropN l.length rate first → first + j * rate ≤ 1000000000 →
    Ev (fun k => spec_cbDrop.l0 k l (rate : Int) (Lf (fun j => l.getD (first + j * rate) 0) j) ((first + j * rate : Nat) : Int)) (dropM l rate first)
  | 0, j, hj, hb => by
    have hn : ¬ first + j * rate < l.length := fun h => by
      have := (dropN_lt (len := l.length) (first := first) hr).2 h
      omega
    have ej : j = dropN l.length rate first := hj
    refine Ev.to (Ev.step (f := fun _ => some _) (fun k => ?_) (Ev.now (Lf (fun j => l.getD (first + j * rate) 0) j))) (by rw [dropM, ← ej])
    simp only [spec_cbDrop.l0]
    rw [if_neg (fun h => hn (Int.ofNat_lt.1 h))]
  | d + 1, j, hj, hb => by
    have hlt : first + j * rate < l.length := (dropN_lt hr).1 (by omega)
    have e3 : wrap64 (((first + j * rate : Nat) : Int) + (rate : Int)) = ((first + (j + 1) * rate : Nat) : Int) := by
      rw [w64_nat _ _ (by omega), Nat.add_mul, Nat.one_mul, Nat.add_assoc]
    have hbd : first + (j + 1) * rate ≤ 1000000000 := by rw [Nat.add_mul]; omega
    refine Ev.step (fun k => ?_) (spec_cbDrop_l0 l rate first hr hr8 hl d (j + 1) (by omega) hbd)
    simp only [spec_cbDrop.l0]
    rw [if_pos (Int.ofNat_lt.2 hlt), if_pos (Int.natCast_nonneg _), Lf_length, if_pos (by have := dropN_le (len := l.length) (first := first) hr; omega), rd_getD, e3, Lf_succ]
theorem spec_cbDrop_ev (l : List Int) (rate first : Nat) (hr : 1 ≤ rate) (hr8 : rate ≤ 1000) (hl : l.length ≤ 100000000) (hf : first ≤ 1000000) : Ev (fun k => spec_cbDrop.f k l (rate : Int) (first : Int)) (dropM l rate first) := by
  have h := spec_cbDrop_l0 l rate first hr hr8 hl (dropN l.length rate first) 0 (by omega) (by omega)
  simpa [spec_cbDrop.f, Lf] using h

theorem impl_drop_l0 (l : List Int) (rate first : Nat) (hr : 1 ≤ rate) (hr8 : rate ≤ 1000) (hl : l.length ≤ 100000000) : ∀ (d j : Nat), j + d = dropN l.length rate first → first + j * rate ≤ 1000000000 →
    Ev (fun k => impl_drop.l0 k l (rate : Int) (Lf (fun j => l.getD (first + j * rate) 0) j) ((first + j * rate : Nat) : Int)) (dropM l rate first)
  | 0, j, hj, hb => by
    have hn : ¬ first + j * rate < l.length := fun h => by
      have := (dropN_lt (len := l.length) (first := first) hr).2 h
      omega
    have ej : j = dropN l.length rate first := hj
    refine Ev.to (Ev.step (f := fun _ => some _) (fun k => ?_) (Ev.now (Lf (fun j => l.getD (first + j * rate) 0) j))) (by rw [dropM, ← ej])
    simp only [impl_drop.l0]
    rw [if_neg (fun h => hn (Int.ofNat_lt.1 h))]
  | d + 1, j, hj, hb => by
    have hlt : first + j * rate < l.length := (dropN_lt hr).1 (by omega)
    have e3 : wrap64 (((first + j * rate : Nat) : Int) + (rate : Int)) = ((first + (j + 1) * rate : Nat) : Int) := by
      rw [w64_nat _ _ (by omega), Nat.add_mul, Nat.one_mul, Nat.add_assoc]
    have hbd : first + (j + 1) * rate ≤ 1000000000 := by rw [Nat.add_mul]; omega
    refine Ev.step (fun k => ?_) (impl_drop_l0 l rate first hr hr8 hl d (j + 1) (by omega) hbd)
    simp only [impl_drop.l0]
    rw [if_pos (Int.ofNat_lt.2 hlt), if_pos (Int.natCast_nonneg _), Lf_length, if_pos (by have := dropN_le (len := l.length) (first := first) hr; omega), rd_getD, e3, Lf_succ]
theorem impl_drop_ev (l : List Int) (rate first : Nat) (hr : 1 ≤ rate) (hr8 : rate ≤ 1000) (hl : l.length ≤ 100000000) (hf : first ≤ 1000000) : Ev (fun k => impl_drop.f k l (rate : Int) (first : Int)) (dropM l rate first) := by
  have h := impl_drop_l0 l rate first hr hr8 hl (dropN l.length rate first) 0 (by omega) (by omega)
  simpa [impl_drop.f, Lf] using h

theorem spec_cbStuff_l1 (l : List Int) (p : Nat) (hp : 1 ≤ p) (hp8 : p ≤ 1000) (O : List Int) (i : Int) (r : List Int) : ∀ (d j : Nat), j + d = p → 1 ≤ j → O.length + p ≤ 1000000000 →
    Ev (fun k => spec_cbStuff.l0 k (p : Int) (O ++ List.replicate (p - 1) 0) l (l.length : Int) (wrap64 (i + 1))) r → Ev (fun k => spec_cbStuff.l1 k (p : Int) (O ++ List.replicate (j - 1) 0) (j : Int) l (l.length : Int) i) r
  | 0, j, hj, h1, hO, hr => by
    have e : j = p := hj
    subst e
    refine Ev.step (fun k => ?_) hr
    simp [spec_cbStuff.l1]
  | d + 1, j, hj, h1, hO, hr => by
    have hlt : (j : Int) < (p : Int) := by omega
    have e3 : wrap64 ((j : Int) + 1) = ((j + 1 : Nat) : Int) := w64_nat j 1 (by omega)
    have e : List.replicate (j + 1 - 1) (0 : Int) = List.replicate (j - 1) 0 ++ [0] := by
      have : j + 1 - 1 = (j - 1) + 1 := by omega
      rw [this, List.replicate_succ']
    have ih := spec_cbStuff_l1 l p hp hp8 O i r d (j + 1) (by omega) (by omega) hO hr
    rw [e, ← List.append_assoc] at ih
    refine Ev.step (fun k => ?_) ih
    simp only [spec_cbStuff.l1]
    rw [if_pos hlt, if_pos (by simp; omega), e3]
theorem spec_cbStuff_l0 (l : List Int) (p : Nat) (hp : 1 ≤ p) (hp8 : p ≤ 1000) (hl : l.length ≤ 100000) : ∀ (t q : List Int), l = q ++ t → Ev (fun k => spec_cbStuff.l0 k (p : Int) (stuffM p q) l (l.length : Int) (q.length : Int)) (stuffM p l)
  | [], q, h => by
    have e : q = l := by rw [h]; simp
    subst e
    refine Ev.step (f := fun _ => some _) (fun k => ?_) (Ev.now _)
    simp [spec_cbStuff.l0]
  | x :: t, q, h => by
    have e1 : (q.length : Int) < (l.length : Int) := by rw [h]; exact lt_mid q t x
    have e2 : rd l (q.length : Int) = x := by rw [h]; exact rd_mid q t x
    have e3 : wrap64 ((q.length : Int) + 1) = ((q ++ [x]).length : Int) := w64_suc q x (by omega)
    have ih := spec_cbStuff_l0 l p hp hp8 hl t (q ++ [x]) (by simp [h])
    rw [stuffM_snoc, ← e3] at ih
    have hql : q.length ≤ 100000 := by have : q.length ≤ l.length := by rw [h]; simp
                                       omega
    have hqp : q.length * p ≤ 100000 * 1000 := Nat.mul_le_mul hql hp8
    have h1 := spec_cbStuff_l1 l p hp hp8 (stuffM p q ++ [x]) (q.length : Int) (stuffM p l) (p - 1) 1 (by omega) (by omega) (by rw [List.length_append, stuffM_length p hp]; simp; omega) (by simpa using ih)
    refine Ev.step (fun k => ?_) h1
    simp only [spec_cbStuff.l0]
    rw [if_pos e1, if_pos (Int.natCast_nonneg _), if_pos e1, if_pos (by rw [stuffM_length p hp]; omega), e2]
    simp
theorem spec_cbStuff_ev (l : List Int) (p : Nat) (hp : 1 ≤ p) (hp8 : p ≤ 1000) (hl : l.length ≤ 100000) : Ev (fun k => spec_cbStuff.f k l (p : Int)) (stuffM p l) := by
  have h := spec_cbStuff_l0 l p hp hp8 hl l [] rfl
  simpa [spec_cbStuff.f, stuffM] using h

theorem impl_stuff_l0 (l : List Int) (p : Nat) (hp : 1 ≤ p) (hp8 : p ≤ 1000) (hl : l.length ≤ 100000) : ∀ (t q : List Int), l = q ++ t → Ev (fun k => impl_stuff.l0 k (p : Int) (stuffM p q ++ List.replicate (t.length * p) 0) l (l.length : Int) (q.length : Int)) (stuffM p l)
  | [], q, h => by
    have e : q = l := by rw [h]; simp
    subst e
    refine Ev.step (f := fun _ => some _) (fun k => ?_) (Ev.now _)
    simp [impl_stuff.l0]
  | x :: t, q, h => by
    have e1 : (q.length : Int) < (l.length : Int) := by rw [h]; exact lt_mid q t x
    have e2 : rd l (q.length : Int) = x := by rw [h]; exact rd_mid q t x
    have e3 : wrap64 ((q.length : Int) + 1) = ((q ++ [x]).length : Int) := w64_suc q x (by omega)
    have hql : q.length ≤ 100000 := by have : q.length ≤ l.length := by rw [h]; simp
                                       omega
    have hqp : q.length * p ≤ 100000 * 1000 := Nat.mul_le_mul hql hp8
    have e4 : wrap64 ((q.length : Int) * (p : Int)) = ((q.length * p : Nat) : Int) := by
      rw [← Int.natCast_mul]
      exact w64 (by omega) (by omega)
    have e5 : List.replicate ((x :: t).length * p) (0 : Int) = 0 :: (List.replicate (p - 1) 0 ++ List.replicate (t.length * p) 0) := by
      have : (x :: t).length * p = ((p - 1) + t.length * p) + 1 := by
        rw [List.length_cons, Nat.add_mul]
        omega
      rw [this, List.replicate_succ, ← List.replicate_append_replicate]
    have e6 : (stuffM p q ++ (0 :: (List.replicate (p - 1) 0 ++ List.replicate (t.length * p) 0))).set (((q.length * p : Nat) : Int).toNat) x = stuffM p (q ++ [x]) ++ List.replicate (t.length * p) 0 := by
      rw [Int.toNat_natCast, ← stuffM_length p hp q, stuffM_snoc]
      simp
    refine Ev.step (fun k => ?_) (impl_stuff_l0 l p hp hp8 hl t (q ++ [x]) (by simp [h]))
    simp only [impl_stuff.l0, e4]
    rw [if_pos e1, if_pos (Int.natCast_nonneg _), if_pos e1, if_pos (Int.natCast_nonneg _), e5, if_pos, e2, e3, e6]
    exact Int.ofNat_lt.2 (by rw [List.length_append, stuffM_length p hp, List.length_cons]; omega)
theorem impl_stuff_ev (l : List Int) (p : Nat) (hp : 1 ≤ p) (hp8 : p ≤ 1000) (hl : l.length ≤ 100000) : Ev (fun k => impl_stuff.f k l (p : Int)) (stuffM p l) := by
  have h := impl_stuff_l0 l p hp hp8 hl l [] rfl
  have hlp : l.length * p ≤ 100000 * 1000 := Nat.mul_le_mul hl hp8
  have e4 : wrap64 ((l.length : Int) * (p : Int)) = ((l.length * p : Nat) : Int) := by
    rw [← Int.natCast_mul]
    exact w64 (by omega) (by omega)
  simp only [impl_stuff.f, e4]
  rw [Int.toNat_natCast]
  refine Ev.tt (Int.natCast_nonneg _) (Ev.tt (by omega) ?_)
  simpa [stuffM] using h

theorem impl_isRate_eq (n : Int) : impl_isRate.f n = some (decide (1 ≤ n) && decide (n ≤ 8)) := by
  unfold impl_isRate.f
  rw [impl_in_eq]
  rfl

def stuffZ (l : List Int) (p : Int) : List Int × Bool := if sig l = true ∧ 1 ≤ p ∧ p ≤ 8 then toldM (stuffM p.toNat l) else ([], false)
theorem impl_StuffZeros_ev (l : List Int) (p : Int) (hl : l.length ≤ 140737488351232) : Ev (fun k => impl_StuffZeros.f k l p) (stuffZ l p) := by
  simp only [impl_StuffZeros.f, stuffZ]
  refine Ev.bind (impl_isSignal_ev l hl) ?_
  by_cases c : sig l = true
  · refine Ev.tt c (Ev.dbind (impl_isRate_eq p) ?_)
    by_cases d : 1 ≤ p ∧ p ≤ 8
    · have hd : (decide (1 ≤ p) && decide (p ≤ 8)) = true := by simp [d.1, d.2]
      rw [if_pos ⟨c, d⟩, hd]
      obtain ⟨n, rfl⟩ : ∃ n : Nat, p = (n : Int) := ⟨p.toNat, by omega⟩
      have hs := sig_len c
      refine Ev.step (fun k => by simp only [impl_StuffZeros.j0]; rfl) (Ev.ff (by decide) (Ev.bind (impl_stuff_ev l n (by omega) (by omega) (by omega)) (Ev.bind (impl_told_ev _ ?_) (Ev.now _))))
      have : l.length * n ≤ 64 * 8 := Nat.mul_le_mul hs (by omega)
      rw [stuffM_length n (by omega)]
      omega
    · have hd : (decide (1 ≤ p) && decide (p ≤ 8)) = false := by simp; omega
      rw [if_neg (fun h => d h.2), hd]
      exact Ev.step (f := fun _ => some ([], false)) (fun k => by simp [impl_StuffZeros.j0]) (Ev.now _)
  · rw [if_neg (fun h => c h.1)]
    exact Ev.ff c (Ev.step (f := fun _ => some ([], false)) (fun k => by simp [impl_StuffZeros.j0]) (Ev.now _))

/-- What a cursor gives: a value with P, and at most c steps further. -/
def Dr {α : Type} (P : α → Prop) (c : Int) (a : Int) (g : Option (α × Int × Int)) : Prop := ∃ v a' sd, g = some (v, a', sd) ∧ a ≤ a' ∧ a' ≤ a + c ∧ P v
theorem u64_bd (n : Int) : 0 ≤ IntKind.u64.wrap n ∧ IntKind.u64.wrap n < 18446744073709551616 := by
  simp only [IntKind.wrap, IntKind.bits, IntKind.signed]
  simp
  omega
theorem u64_and255 (x : Int) (h0 : 0 ≤ x) (h1 : x < 18446744073709551616) : Go.bits .and .u64 x 255 = x % 256 :=
  bits_mask .u64 64 (by decide) (fun n h0 h1 => by
    simp only [IntKind.wrap, IntKind.bits, IntKind.signed]
    simp
    omega) 8 (by decide) x h0 h1
def Bytes (l : List Int) : Prop := l.length ≤ 1048576 ∧ ∀ x ∈ l, 0 ≤ x ∧ x ≤ 255
theorem next_ok {l : List Int} (hl : Bytes l) (a sd : Int) (h0 : 0 ≤ a) (h1 : a ≤ 1000000000000000) : Dr (fun v => 0 ≤ v ∧ v ≤ 255) 1 a (spec_l1Cur_next.f l a sd) := by
  have hw : wrap64 (a + 1) = a + 1 := w64 (by omega) (by omega)
  have hm : ∀ y : Int, 0 ≤ wrap64 (Go.bits .and .u64 (IntKind.u64.wrap y / 1099511627776) 255) ∧ wrap64 (Go.bits .and .u64 (IntKind.u64.wrap y / 1099511627776) 255) ≤ 255 := by
    intro y
    have hy := u64_bd y
    rw [u64_and255 _ (by omega) (by omega), w64 (n := IntKind.u64.wrap y / 1099511627776 % 256) (by omega) (by omega)]
    omega
  unfold spec_l1Cur_next.f
  by_cases c : a < (l.length : Int)
  · have hr : 0 ≤ rd l a ∧ rd l a ≤ 255 := by
      obtain ⟨n, rfl⟩ : ∃ n : Nat, a = (n : Int) := ⟨a.toNat, by omega⟩
      have hn : n < l.length := by omega
      rw [rd_getD, List.getD_eq_getElem?_getD, List.getElem?_eq_getElem hn]
      exact hl.2 _ (List.getElem_mem hn)
    rw [if_pos c, if_pos h0, hw, if_pos (by omega), w64 (n := rd l a) (by omega) (by omega)]
    exact ⟨_, _, _, rfl, by omega, by omega, hr⟩
  · rw [if_neg c, hw]
    by_cases d : a + 1 ≤ (l.length : Int)
    · omega
    · rw [if_neg d]
      exact ⟨_, _, _, rfl, by omega, by omega, hm _⟩

theorem pick_ok {l : List Int} (hl : Bytes l) (a sd n : Int) (h0 : 0 ≤ a) (h1 : a ≤ 100000000000000) (hn : n ≤ 1000000) : Dr (fun v => 0 ≤ v ∧ (v < n ∨ v = 0)) 2 a (spec_l1Cur_pick.f l a sd n) := by
  unfold spec_l1Cur_pick.f
  by_cases c : n ≤ 1
  · rw [if_pos c]
    exact ⟨_, _, _, rfl, by omega, by omega, by omega, .inr rfl⟩
  · rw [if_neg c]
    obtain ⟨v, a', sd', e, ha, hb, hv⟩ := next_ok hl a sd h0 (by omega)
    rw [e]
    simp only [Option.bind_some]
    have hn0 : ¬ n = 0 := by omega
    by_cases d : n > 200
    · rw [if_pos d]
      obtain ⟨v2, a2, sd2, e2, ha2, hb2, hv2⟩ := next_ok hl a' sd' (by omega) (by omega)
      rw [e2]
      simp only [Option.bind_some]
      rw [if_neg hn0, w64 (n := v * 256) (by omega) (by omega), w64 (n := v * 256 + v2) (by omega) (by omega), Int.tmod_eq_emod_of_nonneg (by omega)]
      have := Int.emod_nonneg (v * 256 + v2) hn0
      have := Int.emod_lt_of_pos (v * 256 + v2) (show 0 < n by omega)
      exact ⟨_, _, _, rfl, by omega, by omega, by omega, .inl (by omega)⟩
    · rw [if_neg d, if_neg hn0, Int.tmod_eq_emod_of_nonneg (by omega)]
      have := Int.emod_nonneg v hn0
      have := Int.emod_lt_of_pos v (show 0 < n by omega)
      exact ⟨_, _, _, rfl, by omega, by omega, by omega, .inl (by omega)⟩

theorem among_ok {l : List Int} (hl : Bytes l) (a sd : Int) (m : List Int) (h0 : 0 ≤ a) (h1 : a ≤ 100000000000000) (hm : 1 ≤ m.length) (hm2 : m.length ≤ 1000) : Dr (fun v => v ∈ m) 2 a (spec_l1Cur_among.f l a sd m) := by
  unfold spec_l1Cur_among.f
  obtain ⟨v, a', sd', e, ha, hb, hv, hv2⟩ := pick_ok hl a sd (m.length : Int) h0 h1 (by omega)
  rw [e]
  simp only [Option.bind_some]
  rw [if_pos hv, if_pos (by omega)]
  refine ⟨_, _, _, rfl, ha, hb, ?_⟩
  obtain ⟨n, rfl⟩ : ∃ n : Nat, v = (n : Int) := ⟨v.toNat, by omega⟩
  have hn : n < m.length := by omega
  rw [rd_getD, List.getD_eq_getElem?_getD, List.getElem?_eq_getElem hn]
  exact List.getElem_mem hn

theorem one_ok {l : List Int} (hl : Bytes l) (a sd n : Int) (h0 : 0 ≤ a) (h1 : a ≤ 100000000000000) (hn : n ≤ 1000000) : Dr (fun _ => True) 2 a (spec_l1Cur_one.f l a sd n) := by
  unfold spec_l1Cur_one.f
  obtain ⟨v, a', sd', e, ha, hb, hv, hv2⟩ := pick_ok hl a sd n h0 h1 hn
  rw [e]
  simp only [Option.bind_some]
  exact ⟨_, _, _, rfl, ha, hb, trivial⟩

theorem mode_ok {l : List Int} (hl : Bytes l) (a sd : Int) (h0 : 0 ≤ a) (h1 : a ≤ 10000000000000) : Dr (fun v => -1 ≤ v ∧ v ≤ 3) 10 a (spec_l1Cur_mode.f l a sd) := by
  unfold spec_l1Cur_mode.f
  obtain ⟨u, a2, sd2, e2, ha2, hb2, hu⟩ := among_ok hl a sd [0, 1, 2, 0, 1, 2, 0, 1, 2, 3, (-1)] h0 (by omega) (by simp) (by simp)
  rw [e2]
  simp only [Option.bind_some]
  refine ⟨_, _, _, rfl, by omega, by omega, ?_⟩
  simp at hu
  omega

theorem laws_big_eq (l m : List Int) (hl : l.length ≤ 140737488355328) (hm : m.length ≤ 140737488355328) : laws_big.f l m = some (decide (1048576 < l.length + m.length)) := by
  unfold laws_big.f
  by_cases c : (l.length : Int) > 1048576
  · rw [if_pos c]
    simp; omega
  · rw [if_neg c, w64 (n := 1048576 - (l.length : Int)) (by omega) (by omega)]
    simp; omega
theorem bytes_of {l : List Int} (h : l.length ≤ 1048576) (hx : ∀ x ∈ l, (Lit.int .u8 x).wf = true) : Bytes l := by
  refine ⟨h, fun x hxl => ?_⟩
  have := hx x hxl
  simp [Lit.wf, IntKind.min, IntKind.max, IntKind.signed, IntKind.bits] at this
  omega

/-- A number shifted: down, to the nearest one, towards 0. -/
def shM (x b mode : Int) : Int := if mode = 1 ∧ b ≤ 2 * (x % b) ∧ 0 < x % b then x / b + 1 else if mode = 2 ∧ x < 0 ∧ 0 < x % b then x / b + 1 else x / b
theorem div_uniq {x b q r : Int} (h : x = q * b + r) (h0 : 0 ≤ r) (h1 : r < b) : x / b = q := by
  have hb : 0 < b := by omega
  exact ((Int.ediv_emod_unique hb).2 ⟨by rw [h, Int.mul_comm]; omega, h0, h1⟩).1
theorem pow2_pos (s : Nat) : (0 : Int) < 2 ^ s := Int.pow_pos (by decide)
theorem pow2_le {s : Nat} (h : s ≤ 20) : (2 : Int) ^ s ≤ 1048576 := by
  have h1 : (2 : Nat) ^ s ≤ 2 ^ 20 := Nat.pow_le_pow_right (by decide) h
  have h3 : (2 : Int) ^ s = (((2 : Nat) ^ s : Nat) : Int) := by simp
  rw [h3]
  have h2 : (2 : Nat) ^ 20 = 1048576 := by decide
  omega
theorem shl_one {s : Nat} (h : s ≤ 20) : shl .i64 1 (s : Int) = 2 ^ s := by
  unfold shl
  have h1 : min ((s : Int)).toNat IntKind.i64.bits = s := by
    simp [IntKind.bits]; omega
  rw [h1, Int.one_mul, IntKind.wrap_i64]
  have := pow2_pos s
  have := pow2_le h
  omega
theorem shl_mul {s : Nat} (h : s ≤ 20) (y : Int) (h1 : -9223372036854775808 ≤ y * 2 ^ s) (h2 : y * 2 ^ s ≤ 9223372036854775807) : shl .i64 y (s : Int) = y * 2 ^ s := by
  unfold shl
  have e : min ((s : Int)).toNat IntKind.i64.bits = s := by
    simp [IntKind.bits]; omega
  rw [e, IntKind.wrap_i64]
  omega
theorem shr_div {s : Nat} (h : s ≤ 20) (y : Int) : shr .i64 y (s : Int) = y / 2 ^ s := by
  unfold shr
  have e : min ((s : Int)).toNat IntKind.i64.bits = s := by
    simp [IntKind.bits]; omega
  rw [e]
theorem mod_eq (x b : Int) : x = (x / b) * b + x % b := by
  have := Int.emod_add_mul_ediv x b
  rw [Int.mul_comm] at this
  omega

theorem impl_shifted_ev (x : Int) (s : Nat) (mode : Int) (hs : s ≤ 20) (hx : -4611686018427387904 ≤ x ∧ x ≤ 4611686018427387904) : Ev (fun k => impl_shifted.f k x (s : Int) mode) (shM x (2 ^ s) mode) := by
  have hb := pow2_pos s
  have hb2 := pow2_le hs
  have hr0 := Int.emod_nonneg x (show (2 : Int) ^ s ≠ 0 by omega)
  have hr1 := Int.emod_lt_of_pos x hb
  have hd := mod_eq x (2 ^ s)
  simp only [impl_shifted.f]
  by_cases c : mode = 1
  · refine Ev.tt c ?_
    by_cases d : (s : Int) > 0
    · obtain ⟨m, rfl⟩ : ∃ m, s = m + 1 := ⟨s - 1, by omega⟩
      have e1 : wrap64 (((m + 1 : Nat) : Int) - 1) = (m : Int) := by
        rw [w64 (n := ((m + 1 : Nat) : Int) - 1) (by omega) (by omega)]
        omega
      have hp : (2 : Int) ^ (m + 1) = 2 * 2 ^ m := by rw [Int.pow_succ]; omega
      have hpm := pow2_pos m
      have e2 : wrap64 (x + 2 ^ m) = x + 2 ^ m := w64 (by omega) (by omega)
      refine Ev.step (f := fun _ => some (shM x (2 ^ (m + 1)) mode)) (fun k => ?_) (Ev.now _)
      simp only [impl_shifted.j0, e1, shl_one (s := m) (by omega), e2, shr_div hs]
      rw [if_pos (by simp), if_pos (Int.natCast_nonneg _), if_pos (Int.natCast_nonneg _)]
      congr 1
      unfold shM
      by_cases g : (2 : Int) ^ (m + 1) ≤ 2 * (x % 2 ^ (m + 1)) ∧ 0 < x % 2 ^ (m + 1)
      · rw [if_pos ⟨c, g⟩]
        refine div_uniq (r := x % 2 ^ (m + 1) - 2 ^ m) ?_ (by omega) (by omega)
        rw [Int.add_mul]
        omega
      · rw [if_neg (fun h => g h.2), if_neg (fun h => by omega)]
        refine div_uniq (r := x % 2 ^ (m + 1) + 2 ^ m) (by omega) (by omega) (by omega)
    · have e : s = 0 := by omega
      subst e
      refine Ev.step (f := fun _ => some (shM x (2 ^ 0) mode)) (fun k => ?_) (Ev.now _)
      simp only [impl_shifted.j0, shr_div (s := 0) (by omega)]
      rw [if_neg (by simp), if_neg (by omega), if_pos (by omega)]
      congr 1
      unfold shM
      rw [if_neg (fun h => by have := h.2.2; simp at this), if_neg (fun h => by omega)]
  · refine Ev.ff c ?_
    refine Ev.step (f := fun _ => some (shM x (2 ^ s) mode)) (fun k => ?_) (Ev.now _)
    simp only [impl_shifted.j0, shr_div hs]
    rw [if_neg (by decide)]
    have hS : shM x (2 ^ s) mode = if mode = 2 ∧ x < 0 ∧ 0 < x % 2 ^ s then x / 2 ^ s + 1 else x / 2 ^ s := by
      unfold shM
      rw [if_neg (fun h => c h.1)]
    rw [hS]
    clear hS
    by_cases d : mode = 2
    · rw [if_pos d]
      by_cases g : x < 0
      · rw [if_pos g, if_pos (Int.natCast_nonneg _), w64 (n := -x) (by omega) (by omega)]
        by_cases r : 0 < x % 2 ^ s
        · rw [if_pos ⟨d, g, r⟩]
          have e : (-x) / 2 ^ s = -(x / 2 ^ s) - 1 := by
            refine div_uniq (r := 2 ^ s - x % 2 ^ s) ?_ (by omega) (by omega)
            rw [Int.sub_mul, Int.neg_mul]
            omega
          have hq : -4611686018427387905 ≤ x / 2 ^ s ∧ x / 2 ^ s ≤ 4611686018427387905 := ediv_bd hb hx
          rw [e, w64 (n := -(-(x / 2 ^ s) - 1)) (by omega) (by omega)]
          congr 1
          omega
        · rw [if_neg (fun h => r h.2.2)]
          have e : (-x) / 2 ^ s = -(x / 2 ^ s) := by
            refine div_uniq (r := 0) ?_ (by omega) (by omega)
            rw [Int.neg_mul]
            omega
          have hq : -4611686018427387905 ≤ x / 2 ^ s ∧ x / 2 ^ s ≤ 4611686018427387905 := ediv_bd hb hx
          rw [e, w64 (n := -(-(x / 2 ^ s))) (by omega) (by omega)]
          congr 1
          omega
      · rw [if_neg g, if_pos (Int.natCast_nonneg _), if_neg (fun h => g h.2.1)]
    · rw [if_neg d, if_pos (Int.natCast_nonneg _), if_neg (fun h => d h.1)]

theorem spec_wdShift_ev (x : Int) (s : Nat) (mode : Int) (hs : s ≤ 20) (hx : -4611686018427387904 ≤ x ∧ x ≤ 4611686018427387904) : Ev (fun k => spec_wdShift.f k x (s : Int) mode) (shM x (2 ^ s) mode) := by
  have hb := pow2_pos s
  have hb2 := pow2_le hs
  have hr0 := Int.emod_nonneg x (show (2 : Int) ^ s ≠ 0 by omega)
  have hr1 := Int.emod_lt_of_pos x hb
  have hd := mod_eq x (2 ^ s)
  have hq : -4611686018427387905 ≤ x / 2 ^ s ∧ x / 2 ^ s ≤ 4611686018427387905 := ediv_bd hb hx
  have key : ∀ d : Int, d = x / 2 ^ s → Ev (fun k => spec_wdShift.j0 k x mode (2 ^ s) d) (shM x (2 ^ s) mode) := by
    intro d e
    subst e
    have e1 : wrap64 (x / 2 ^ s * 2 ^ s) = x / 2 ^ s * 2 ^ s := w64 (by omega) (by omega)
    have e2 : wrap64 (x - x / 2 ^ s * 2 ^ s) = x % 2 ^ s := by
      rw [w64 (n := x - x / 2 ^ s * 2 ^ s) (by omega) (by omega)]
      omega
    have e3 : wrap64 (2 * (x % 2 ^ s)) = 2 * (x % 2 ^ s) := w64 (by omega) (by omega)
    have e4 : wrap64 (x / 2 ^ s + 1) = x / 2 ^ s + 1 := w64 (by omega) (by omega)
    have j1 : ∀ f : Bool, (f = true ↔ mode = 1 ∧ 2 ^ s ≤ 2 * (x % 2 ^ s) ∧ 0 < x % 2 ^ s) → Ev (fun k => spec_wdShift.j1 k x mode (x / 2 ^ s) (x % 2 ^ s) f) (shM x (2 ^ s) mode) := by
      intro f hf
      refine Ev.step (f := fun _ => some (shM x (2 ^ s) mode)) (fun k => ?_) (Ev.now _)
      simp only [spec_wdShift.j1, e4]
      unfold shM
      by_cases g : f = true
      · rw [if_pos g, if_pos (hf.1 g)]
      · rw [if_neg g, if_neg (fun h => g (hf.2 h))]
        by_cases m2 : mode = 2
        · rw [if_pos m2]
          by_cases x0 : x < 0
          · rw [if_pos x0]
            by_cases r0 : x % 2 ^ s > 0
            · rw [if_pos r0, if_pos ⟨m2, x0, r0⟩]
            · rw [if_neg r0, if_neg (fun h => r0 h.2.2)]
          · rw [if_neg x0, if_neg (fun h => x0 h.2.1)]
        · rw [if_neg m2, if_neg (fun h => m2 h.1)]
    by_cases m1 : mode = 1
    · by_cases g : 2 * (x % 2 ^ s) ≥ 2 ^ s
      · refine Ev.step (fun k => ?_) (j1 (decide (x % 2 ^ s > 0)) (by simp only [decide_eq_true_eq]; exact ⟨fun h => ⟨m1, g, h⟩, fun h => h.2.2⟩))
        simp only [spec_wdShift.j0, e1, e2, e3, if_pos m1, if_pos g]
      · refine Ev.step (fun k => ?_) (j1 false (by simp; intro _ h; omega))
        simp only [spec_wdShift.j0, e1, e2, e3, if_pos m1, if_neg g]
    · refine Ev.step (fun k => ?_) (j1 false (by simp; intro h; exact absurd h m1))
      simp only [spec_wdShift.j0, e1, e2, e3, if_neg m1]
  simp only [spec_wdShift.f, shl_one hs]
  refine Ev.tt (Int.natCast_nonneg _) (Ev.ff (by omega) ?_)
  by_cases g : Int.tmod x (2 ^ s) < 0
  · refine Ev.tt g (key _ ?_)
    have hx0 : x < 0 := by
      apply Int.not_le.1
      intro h
      have := Int.tmod_nonneg (2 ^ s) h
      omega
    have e := Int.tdiv_eq_ediv (a := x) (b := 2 ^ s)
    have e0 : ¬ (0 ≤ x ∨ (2 : Int) ^ s ∣ x) := by
      rintro (h | h)
      · omega
      · rw [Int.tmod_eq_zero_of_dvd h] at g
        omega
    rw [if_neg e0, Int.sign_eq_one_of_pos hb] at e
    rw [e, w64 (n := x / 2 ^ s + 1) (by omega) (by omega), w64 (n := x / 2 ^ s + 1 - 1) (by omega) (by omega)]
    omega
  · refine Ev.ff g (key _ ?_)
    have e := Int.tdiv_eq_ediv (a := x) (b := 2 ^ s)
    have e0 : 0 ≤ x ∨ (2 : Int) ^ s ∣ x := by
      by_cases h : 0 ≤ x
      · exact .inl h
      · right
        have h2 : Int.tmod x (2 ^ s) ≤ 0 := by
          have := Int.tmod_nonneg (2 ^ s) (show 0 ≤ -x by omega)
          rw [Int.neg_tmod] at this
          omega
        exact Int.dvd_of_tmod_eq_zero (by omega)
    rw [if_pos e0] at e
    rw [e, w64 (n := x / 2 ^ s + 0) (by omega) (by omega)]
    omega

def numOk (x : Int) : Bool := decide (-1000000000000 ≤ x) && decide (x ≤ 1000000000000)
def modeOk (s mode : Int) : Bool := (decide (0 ≤ s) && decide (s ≤ 20)) && (decide (0 ≤ mode) && decide (mode ≤ 2))
theorem numOk_iff {x : Int} : numOk x = true ↔ -1000000000000 ≤ x ∧ x ≤ 1000000000000 := by simp [numOk]
theorem modeOk_iff {s m : Int} : modeOk s m = true ↔ (0 ≤ s ∧ s ≤ 20) ∧ (0 ≤ m ∧ m ≤ 2) := by simp [modeOk]

theorem spec_wdMode_eq (s m : Int) : spec_wdMode.f s m = some (modeOk s m) := by
  unfold spec_wdMode.f modeOk
  rw [spec_l1In_eq]
  simp only [Option.bind_some, spec_l1In_eq]
  by_cases c : (decide (0 ≤ s) && decide (s ≤ 20)) = true
  · rw [if_pos c, c, Bool.true_and]
  · rw [if_neg c, Bool.eq_false_iff.mpr c, Bool.false_and]

def goodB (b : Int) : Bool := decide (2 ≤ b) && decide (b ≤ 16)
def hf (b : Int) : Int := 2 ^ (b - 1).toNat
def fitH (h : Int) (w : Bool) (x : Int) : Int := if w = true then (x + h) % (2 * h) - h else if x < -h then -h else if h - 1 < x then h - 1 else x
theorem goodB_iff {b : Int} : goodB b = true ↔ 2 ≤ b ∧ b ≤ 16 := by simp [goodB]
theorem half {b : Int} (g : goodB b = true) : (2 ≤ hf b ∧ hf b ≤ 32768) ∧ wrap64 (b - 1) = b - 1 ∧ 0 ≤ b - 1 ∧ shl .i64 1 (b - 1) = hf b ∧ 0 ≤ b ∧ shl .i64 1 b = 2 * hf b := by
  have g' := goodB_iff.1 g
  obtain ⟨n, rfl⟩ : ∃ n : Nat, b = ((n + 1 : Nat) : Int) := ⟨(b - 1).toNat, by omega⟩
  have e : ((n + 1 : Nat) : Int) - 1 = (n : Int) := by omega
  have eh : hf ((n + 1 : Nat) : Int) = 2 ^ n := by rw [hf, e, Int.toNat_natCast]
  have h1 : (2 : Nat) ^ n ≤ 2 ^ 15 := Nat.pow_le_pow_right (by decide) (by omega)
  have h2 : (2 : Nat) ^ 1 ≤ 2 ^ n := Nat.pow_le_pow_right (by decide) (by omega)
  have h3 : (2 : Int) ^ n = (((2 : Nat) ^ n : Nat) : Int) := by simp
  have h4 : (2 : Nat) ^ 15 = 32768 := by decide
  have h5 : (2 : Nat) ^ 1 = 2 := by decide
  rw [eh, e, shl_one (s := n) (by omega), shl_one (s := n + 1) (by omega), Int.pow_succ]
  refine ⟨⟨by omega, by omega⟩, w64 (by omega) (by omega), by omega, rfl, by omega, by omega⟩
theorem mod_uniq {x b q r : Int} (h : x = q * b + r) (h0 : 0 ≤ r) (h1 : r < b) : x % b = r := by
  have hb : 0 < b := by omega
  exact ((Int.ediv_emod_unique (q := q) hb).2 ⟨by rw [h, Int.mul_comm]; omega, h0, h1⟩).2
theorem tmod_fix (a n : Int) (hn : 0 < n) (hn2 : n ≤ 1000000000) : Int.tmod (wrap64 (Int.tmod a n + n)) n = a % n := by
  have h0 := Int.emod_nonneg a (show n ≠ 0 by omega)
  have h1 := Int.emod_lt_of_pos a hn
  have e := Int.tmod_eq_emod (a := a) (b := n)
  have hb : Int.tmod a n = a % n ∨ Int.tmod a n = a % n - n := by
    rw [e]
    split
    · left; omega
    · right; omega
  rcases hb with hb | hb
  · rw [hb, w64 (n := a % n + n) (by omega) (by omega), Int.tmod_eq_emod_of_nonneg (by omega)]
    simp
  · rw [hb, Int.sub_add_cancel, w64 (n := a % n) (by omega) (by omega), Int.tmod_eq_emod_of_nonneg (by omega)]
    simp
theorem fitH_bd (h : Int) (w : Bool) (x : Int) (hh : 1 ≤ h) : -h ≤ fitH h w x ∧ fitH h w x ≤ h - 1 := by
  have h0 := Int.emod_nonneg (x + h) (show 2 * h ≠ 0 by omega)
  have h1 := Int.emod_lt_of_pos (x + h) (show 0 < 2 * h by omega)
  unfold fitH
  split
  · omega
  · split
    · omega
    · split <;> omega
theorem fitH_id (h : Int) (w : Bool) (x : Int) (h0 : -h ≤ x) (h1 : x ≤ h - 1) : fitH h w x = x := by
  unfold fitH
  by_cases c : w = true
  · rw [if_pos c, mod_uniq (x := x + h) (b := 2 * h) (q := 0) (r := x + h) (by omega) (by omega) (by omega)]
    omega
  · rw [if_neg c, if_neg (by omega), if_neg (by omega)]
theorem fitH_two (h x : Int) (hh : 1 ≤ h) : fitH h true x = if x % (2 * h) > h - 1 then x % (2 * h) - 2 * h else x % (2 * h) := by
  have h0 := Int.emod_nonneg x (show 2 * h ≠ 0 by omega)
  have h1 := Int.emod_lt_of_pos x (show 0 < 2 * h by omega)
  have hd := mod_eq x (2 * h)
  unfold fitH
  rw [if_pos rfl]
  split
  · rw [mod_uniq (x := x + h) (b := 2 * h) (q := x / (2 * h) + 1) (r := x % (2 * h) - h) (by rw [Int.add_mul]; omega) (by omega) (by omega)]
    omega
  · rw [mod_uniq (x := x + h) (b := 2 * h) (q := x / (2 * h)) (r := x % (2 * h) + h) (by omega) (by omega) (by omega)]
    omega
theorem fit_back (h x y : Int) (h0 : -h ≤ x) (h1 : x ≤ h - 1) : fitH h true (fitH h true (x + y) - y) = x := by
  have hd := mod_eq (x + y + h) (2 * h)
  have e : fitH h true (x + y) - y = x - (x + y + h) / (2 * h) * (2 * h) := by
    unfold fitH
    rw [if_pos rfl]
    omega
  rw [e]
  unfold fitH
  rw [if_pos rfl, mod_uniq (x := x - (x + y + h) / (2 * h) * (2 * h) + h) (b := 2 * h) (q := -((x + y + h) / (2 * h))) (r := x + h) (by rw [Int.neg_mul]; omega) (by omega) (by omega)]
  omega
theorem fit_dvd (h x : Int) : ∃ q, x - fitH h true x = 2 * h * q := by
  have hd := mod_eq (x + h) (2 * h)
  refine ⟨(x + h) / (2 * h), ?_⟩
  unfold fitH
  rw [if_pos rfl, Int.mul_comm (2 * h)]
  omega
def inW (b x : Int) : Bool := decide (-(hf b) ≤ x) && decide (x ≤ hf b - 1)
theorem inW_iff {b x : Int} : inW b x = true ↔ -(hf b) ≤ x ∧ x ≤ hf b - 1 := by simp [inW]
theorem ediv_in {x b M : Int} (hb : 0 < b) (hM : 0 ≤ M) (hx : -M ≤ x ∧ x ≤ M) : -M ≤ x / b ∧ x / b ≤ M := by
  have h1 : (-M) * b ≤ (-M) * 1 := Int.mul_le_mul_of_nonpos_left (by omega) (by omega)
  have h2 : M * 1 ≤ M * b := Int.mul_le_mul_of_nonneg_left (by omega) hM
  exact ⟨Int.le_ediv_of_mul_le hb (by omega), Int.ediv_le_of_le_mul hb (by omega)⟩
theorem shM_in {x b M : Int} (m : Int) (hb : 0 < b) (hM : 0 ≤ M) (hx : -M ≤ x ∧ x ≤ M) : -M ≤ shM x b m ∧ shM x b m ≤ M + 1 := by
  have := ediv_in hb hM hx
  unfold shM
  split
  · omega
  · split <;> omega

theorem impl_isWord_eq (b : Int) (w : Bool) : impl_isWord.f b w = some (goodB b) := by
  unfold impl_isWord.f
  rw [impl_in_eq]
  rfl

theorem impl_Word_ends_eq {b : Int} (w : Bool) (g : goodB b = true) : impl_Word_ends.f b w = some (-(hf b), hf b - 1) := by
  obtain ⟨h1, h2, h3, h4, h5, h6⟩ := half g
  unfold impl_Word_ends.f
  rw [h2, if_pos h3, h4, w64 (n := -(hf b)) (by omega) (by omega), w64 (n := hf b - 1) (by omega) (by omega)]

theorem impl_at_eq (s : List Int) (i : Int) (hs : s.length ≤ 140737488351232) : impl_at.f s i = some (if 0 ≤ i then s.getD i.toNat 0 else 0) := by
  unfold impl_at.f
  rw [impl_in_eq, w64 (n := (s.length : Int) - 1) (by omega) (by omega)]
  simp only [Option.bind_some]
  by_cases c : 0 ≤ i
  · by_cases d : i ≤ (s.length : Int) - 1
    · rw [if_pos (by simp; omega), if_pos c, if_pos (by omega), if_pos c]
      rfl
    · rw [if_neg (by simp; omega), if_pos c, List.getD_eq_getElem?_getD, List.getElem?_eq_none (by omega)]
      rfl
  · rw [if_neg (by simp; omega), if_neg c]

def sm : List Int → Int
  | [] => 0
  | x :: t => x + sm t
theorem sm_app : ∀ (p t : List Int), sm (p ++ t) = sm p + sm t
  | [], t => by simp [sm]
  | x :: p, t => by
    rw [List.cons_append, sm, sm, sm_app p t]
    omega
theorem sm_bd (M : Int) (hM : 0 ≤ M) : ∀ l : List Int, (∀ x ∈ l, -M ≤ x ∧ x ≤ M) → -(l.length * M) ≤ sm l ∧ sm l ≤ l.length * M
  | [], _ => by simp [sm]
  | x :: t, h => by
    have h1 := h x (by simp)
    have h2 := sm_bd M hM t (fun y hy => h y (by simp [hy]))
    simp only [sm, List.length_cons, Int.natCast_add, Int.add_mul]
    omega

theorem impl_sum_l0 (l : List Int) (hl : l.length ≤ 1000000) (hb : ∀ x ∈ l, -1000000 ≤ x ∧ x ≤ 1000000) : ∀ (t p : List Int), l = p ++ t → Ev (fun k => impl_sum.l0 k (sm p) l (l.length : Int) (p.length : Int)) (sm l)
  | [], p, h => by
    refine Ev.to (Ev.step (f := fun _ => some (sm p)) (fun k => ?_) (Ev.now _)) (by rw [h]; simp)
    subst h
    simp [impl_sum.l0]
  | x :: t, p, h => by
    have e1 : (p.length : Int) < (l.length : Int) := by rw [h]; exact lt_mid p t x
    have e2 : rd l (p.length : Int) = x := by rw [h]; exact rd_mid p t x
    have e3 : wrap64 ((p.length : Int) + 1) = ((p ++ [x]).length : Int) := nx_mid p t x (by rw [← h]; omega)
    have hx := hb x (by rw [h]; simp)
    have hp := sm_bd 1000000 (by omega) p (fun y hy => hb y (by rw [h]; simp [hy]))
    have hpl : p.length ≤ 1000000 := by rw [h] at hl; simp at hl; omega
    have e4 : wrap64 (sm p + x) = sm (p ++ [x]) := by
      rw [w64 (n := sm p + x) (by omega) (by omega), sm_app]
      simp [sm]
    refine Ev.step (fun k => ?_) (impl_sum_l0 l hl hb t (p ++ [x]) (by simp [h]))
    simp only [impl_sum.l0, if_pos e1, if_pos (Int.natCast_nonneg _), e2, e3, e4]
theorem impl_sum_ev (l : List Int) (hl : l.length ≤ 1000000) (hb : ∀ x ∈ l, -1000000 ≤ x ∧ x ≤ 1000000) : Ev (fun k => impl_sum.f k l) (sm l) := by
  have h := impl_sum_l0 l hl hb l [] rfl
  simpa [impl_sum.f, sm] using h

theorem spec_wdSum_l0 (l : List Int) (hl : l.length ≤ 1000000) (hb : ∀ x ∈ l, -1000000 ≤ x ∧ x ≤ 1000000) : ∀ (t p : List Int), l = p ++ t → Ev (fun k => spec_wdSum.l0 k (sm p) l (l.length : Int) (p.length : Int)) (sm l)
  | [], p, h => by
    refine Ev.to (Ev.step (f := fun _ => some (sm p)) (fun k => ?_) (Ev.now _)) (by rw [h]; simp)
    subst h
    simp [spec_wdSum.l0]
  | x :: t, p, h => by
    have e1 : (p.length : Int) < (l.length : Int) := by rw [h]; exact lt_mid p t x
    have e2 : rd l (p.length : Int) = x := by rw [h]; exact rd_mid p t x
    have e3 : wrap64 ((p.length : Int) + 1) = ((p ++ [x]).length : Int) := nx_mid p t x (by rw [← h]; omega)
    have hx := hb x (by rw [h]; simp)
    have hp := sm_bd 1000000 (by omega) p (fun y hy => hb y (by rw [h]; simp [hy]))
    have hpl : p.length ≤ 1000000 := by rw [h] at hl; simp at hl; omega
    have e4 : wrap64 (sm p + x) = sm (p ++ [x]) := by
      rw [w64 (n := sm p + x) (by omega) (by omega), sm_app]
      simp [sm]
    refine Ev.step (fun k => ?_) (spec_wdSum_l0 l hl hb t (p ++ [x]) (by simp [h]))
    simp only [spec_wdSum.l0, if_pos e1, if_pos (Int.natCast_nonneg _), e2, e3, e4]
theorem spec_wdSum_ev (l : List Int) (hl : l.length ≤ 1000000) (hb : ∀ x ∈ l, -1000000 ≤ x ∧ x ≤ 1000000) : Ev (fun k => spec_wdSum.f k l) (sm l) := by
  have h := spec_wdSum_l0 l hl hb l [] rfl
  simpa [spec_wdSum.f, sm] using h

theorem laws_iSum_l0 (l : List Int) (hl : l.length ≤ 1000000) (hb : ∀ x ∈ l, -1000000 ≤ x ∧ x ≤ 1000000) : ∀ (t p : List Int), l = p ++ t → Ev (fun k => laws_iSum.l0 k (sm p) l (l.length : Int) (p.length : Int)) (sm l)
  | [], p, h => by
    refine Ev.to (Ev.step (f := fun _ => some (sm p)) (fun k => ?_) (Ev.now _)) (by rw [h]; simp)
    subst h
    simp [laws_iSum.l0]
  | x :: t, p, h => by
    have e1 : (p.length : Int) < (l.length : Int) := by rw [h]; exact lt_mid p t x
    have e2 : rd l (p.length : Int) = x := by rw [h]; exact rd_mid p t x
    have e3 : wrap64 ((p.length : Int) + 1) = ((p ++ [x]).length : Int) := nx_mid p t x (by rw [← h]; omega)
    have hx := hb x (by rw [h]; simp)
    have hp := sm_bd 1000000 (by omega) p (fun y hy => hb y (by rw [h]; simp [hy]))
    have hpl : p.length ≤ 1000000 := by rw [h] at hl; simp at hl; omega
    have e4 : wrap64 (sm p + x) = sm (p ++ [x]) := by
      rw [w64 (n := sm p + x) (by omega) (by omega), sm_app]
      simp [sm]
    refine Ev.step (fun k => ?_) (laws_iSum_l0 l hl hb t (p ++ [x]) (by simp [h]))
    simp only [laws_iSum.l0, if_pos e1, if_pos (Int.natCast_nonneg _), e2, e3, e4]
theorem laws_iSum_ev (l : List Int) (hl : l.length ≤ 1000000) (hb : ∀ x ∈ l, -1000000 ≤ x ∧ x ≤ 1000000) : Ev (fun k => laws_iSum.f k l) (sm l) := by
  have h := laws_iSum_l0 l hl hb l [] rfl
  simpa [laws_iSum.f, sm] using h

theorem laws_iSame_l0 (l : List Int) (hl : l.length ≤ 140737488351232) : ∀ (t p : List Int), l = p ++ t → Ev (fun k => laws_iSame.l0 k l l (l.length : Int) (p.length : Int)) true
  | [], p, h => by
    refine Ev.step (f := fun _ => some true) (fun k => ?_) (Ev.now _)
    subst h
    simp [laws_iSame.l0]
  | x :: t, p, h => by
    have e1 : (p.length : Int) < (l.length : Int) := by rw [h]; exact lt_mid p t x
    have e3 : wrap64 ((p.length : Int) + 1) = ((p ++ [x]).length : Int) := nx_mid p t x (h ▸ hl)
    refine Ev.step (fun k => ?_) (laws_iSame_l0 l hl t (p ++ [x]) (by simp [h]))
    simp only [laws_iSame.l0, if_pos e1, if_pos (Int.natCast_nonneg _), e3]
    rw [if_pos trivial]
theorem laws_iSame_ev (l : List Int) (hl : l.length ≤ 140737488351232) : Ev (fun k => laws_iSame.f k l l) true := by
  simp only [laws_iSame.f]
  exact Ev.tt trivial (laws_iSame_l0 l hl l [] rfl)

theorem signal_l0 {l : List Int} (hl : Bytes l) (sz : Int) (hs : 1 ≤ sz ∧ sz ≤ 100000) : ∀ (n : Nat) (q : List Int) (a sd : Int), q.length + n ≤ 100000 → 0 ≤ a → a + 10 * n ≤ 100000000000 → ∃ s a' sd', Ev (fun k => spec_l1Cur_signal.l0 k sz q (n : Int) l a sd) (s, a', sd') ∧ s.length ≤ 100001 ∧ a ≤ a' ∧ a' ≤ a + 10 * n + 10
  | 0, q, a, sd, hq, h0, h1 => by
    obtain ⟨u, a1, sd1, e1, ha1, hb1, -⟩ := pick_ok hl a sd 16 h0 (by omega) (by omega)
    by_cases c : u = 0
    · obtain ⟨v, a2, sd2, e2, ha2, hb2, -⟩ := among_ok hl a1 sd1 [100000, (-100000), 100001, 4611686018427387904] (by omega) (by omega) (by simp) (by simp)
      refine ⟨q ++ [v], a2, sd2, Ev.step (f := fun _ => some (q ++ [v], a2, sd2)) (fun k => ?_) (Ev.now _), by simp; omega, by omega, by omega⟩
      simp only [spec_l1Cur_signal.l0, e1, e2, Option.bind_some, if_pos c]
      rw [if_neg (by omega), if_pos (by omega)]
    · by_cases d : u = 1
      · obtain ⟨v, a2, sd2, e2, ha2, hb2, hv, hv2⟩ := pick_ok hl a1 sd1 2 (by omega) (by omega) (by omega)
        have e3 : wrap64 (64 + v) = 64 + v := w64 (by omega) (by omega)
        refine ⟨List.replicate (64 + v).toNat 0, a2, sd2, Ev.step (f := fun _ => some (List.replicate (64 + v).toNat 0, a2, sd2)) (fun k => ?_) (Ev.now _), by simp; omega, by omega, by omega⟩
        simp only [spec_l1Cur_signal.l0, e1, e2, Option.bind_some, if_neg c, if_pos d, e3]
        rw [if_neg (by omega), if_pos (by omega), if_pos (by omega)]
      · refine ⟨q, a1, sd1, Ev.step (f := fun _ => some (q, a1, sd1)) (fun k => ?_) (Ev.now _), by omega, by omega, by omega⟩
        simp only [spec_l1Cur_signal.l0, e1, Option.bind_some, if_neg c, if_neg d]
        rw [if_neg (by omega)]
  | n + 1, q, a, sd, hq, h0, h1 => by
    obtain ⟨u, a1, sd1, e1, ha1, hb1, -⟩ := one_ok hl a sd 4 h0 (by omega) (by omega)
    have e3 : wrap64 (((n + 1 : Nat) : Int) - 1) = (n : Int) := by
      rw [w64 (n := ((n + 1 : Nat) : Int) - 1) (by omega) (by omega)]
      omega
    have hn : ((n + 1 : Nat) : Int) > 0 := by omega
    have hql : q.length < 17592186044416 := by omega
    by_cases c : u = true
    · obtain ⟨s, a', sd', h, hs1, ha, hb⟩ := signal_l0 hl sz hs n (q ++ [0]) a1 sd1 (by simp; omega) (by omega) (by omega)
      refine ⟨s, a', sd', Ev.step (fun k => ?_) h, hs1, by omega, by omega⟩
      simp only [spec_l1Cur_signal.l0, e1, Option.bind_some, if_pos c, if_pos hn, if_pos hql, e3]
    · have e4 : wrap64 (wrap64 (2 * sz) + 1) = 2 * sz + 1 := by
        rw [w64 (n := 2 * sz) (by omega) (by omega), w64 (n := 2 * sz + 1) (by omega) (by omega)]
      obtain ⟨v, a2, sd2, e2, ha2, hb2, -⟩ := pick_ok hl a1 sd1 (2 * sz + 1) (by omega) (by omega) (by omega)
      obtain ⟨s, a', sd', h, hs1, ha, hb⟩ := signal_l0 hl sz hs n (q ++ [wrap64 (v - sz)]) a2 sd2 (by simp; omega) (by omega) (by omega)
      refine ⟨s, a', sd', Ev.step (fun k => ?_) h, hs1, by omega, by omega⟩
      simp only [spec_l1Cur_signal.l0, e1, Option.bind_some, if_neg c, if_pos hn, e4, e2, if_pos hql, e3]
theorem signal_ok {l : List Int} (hl : Bytes l) (a sd most sz : Int) (h0 : 0 ≤ a) (h1 : a ≤ 1000000000) (hm : 0 ≤ most ∧ most ≤ 10000) (hs : 1 ≤ sz ∧ sz ≤ 100000) : ∃ s a' sd', Ev (fun k => spec_l1Cur_signal.f k l a sd most sz) (s, a', sd') ∧ s.length ≤ 100001 ∧ a ≤ a' ∧ a' ≤ a + 1000000 := by
  obtain ⟨u, a1, sd1, e1, ha1, hb1, hu, hu2⟩ := pick_ok hl a sd (most + 1) h0 (by omega) (by omega)
  obtain ⟨n, rfl⟩ : ∃ n : Nat, u = (n : Int) := ⟨u.toNat, by omega⟩
  obtain ⟨s, a', sd', h, hs1, ha, hb⟩ := signal_l0 hl sz hs n [] a1 sd1 (by simp; omega) (by omega) (by omega)
  refine ⟨s, a', sd', ?_, hs1, by omega, by omega⟩
  simp only [spec_l1Cur_signal.f]
  rw [w64 (n := most + 1) (by omega) (by omega)]
  exact Ev.dbind e1 h

def cvf : List Int → (Nat → Int) → Nat → Int
  | [], _, _ => 0
  | w :: _, f, 0 => w * f 0
  | w :: h, f, n + 1 => w * f (n + 1) + cvf h f n
def gD (l : List Int) (n : Nat) : Int := l.getD n 0
theorem cv_cvf : ∀ (h s : List Int) (n : Nat), cv h s n = cvf h (gD s) n
  | [], s, n => by simp [cv, cvf]
  | w :: h, s, 0 => rfl
  | w :: h, s, n + 1 => by simp only [cv, cvf, cv_cvf h s n]; rfl
theorem cvf_congr {f g : Nat → Int} : ∀ (h : List Int) (n : Nat), (∀ i, i ≤ n → f i = g i) → cvf h f n = cvf h g n
  | [], n, e => rfl
  | w :: h, 0, e => by simp only [cvf, e 0 (Nat.le_refl 0)]
  | w :: h, n + 1, e => by simp only [cvf, e (n + 1) (Nat.le_refl _), cvf_congr h n (fun i hi => e i (by omega))]
theorem cvf_mul (c : Int) (f : Nat → Int) : ∀ (h : List Int) (n : Nat), cvf h (fun i => c * f i) n = c * cvf h f n
  | [], n => by simp [cvf]
  | w :: h, 0 => by simp only [cvf]; grind
  | w :: h, n + 1 => by simp only [cvf, cvf_mul c f h n]; grind
theorem cvf_add (f g : Nat → Int) : ∀ (h : List Int) (n : Nat), cvf h (fun i => f i + g i) n = cvf h f n + cvf h g n
  | [], n => by simp [cvf]
  | w :: h, 0 => by simp only [cvf]; grind
  | w :: h, n + 1 => by simp only [cvf, cvf_add f g h n]; grind
def Sh (f : Nat → Int) : Nat → Int
  | 0 => 0
  | n + 1 => f n
theorem cvf_zero : ∀ (h : List Int) (n : Nat), cvf h (fun _ => 0) n = 0
  | [], n => rfl
  | w :: h, 0 => by simp [cvf]
  | w :: h, n + 1 => by simp [cvf, cvf_zero h n]
theorem cvf_Sh (f : Nat → Int) : ∀ (h : List Int) (n : Nat), cvf h (Sh f) n = Sh (cvf h f) n
  | [], 0 => rfl
  | [], n + 1 => rfl
  | w :: h, 0 => by simp [cvf, Sh]
  | w :: h, 1 => by
    simp only [cvf, Sh, cvf_Sh f h 0]
    simp
  | w :: h, n + 2 => by
    simp only [cvf, Sh, cvf_Sh f h (n + 1)]
theorem cvf_cons (w : Int) (h : List Int) (f : Nat → Int) (n : Nat) : cvf (w :: h) f n = w * f n + Sh (cvf h f) n := by
  cases n <;> simp [cvf, Sh]
theorem cvf_comm (b : List Int) (f : Nat → Int) : ∀ (a : List Int) (n : Nat), cvf b (cvf a f) n = cvf a (cvf b f) n
  | [], n => cvf_zero b n
  | w :: a, n => by
    rw [cvf_congr (g := fun i => (fun i => w * f i) i + Sh (cvf a f) i) b n (fun i _ => cvf_cons w a f i), cvf_add, cvf_mul, cvf_Sh, cvf_cons]
    congr 1
    cases n with
    | zero => rfl
    | succ n => exact cvf_comm b f a n
def dl (n : Nat) : Int := if n = 0 then 1 else 0
theorem cvf_dl : ∀ (h : List Int) (n : Nat), cvf h dl n = gD h n
  | [], n => by simp [cvf, gD]
  | w :: h, 0 => by simp [cvf, dl, gD]
  | w :: h, n + 1 => by
    simp only [cvf, cvf_dl h n]
    simp [dl, gD]
theorem cvf_far : ∀ (h : List Int) (s : List Int) (n : Nat), s ≠ [] → h.length + s.length - 1 ≤ n → cvf h (gD s) n = 0
  | [], s, n, _, _ => rfl
  | w :: h, s, 0, hs, hn => by
    have : 1 ≤ s.length := by cases s <;> simp_all
    simp only [List.length_cons] at hn
    omega
  | w :: h, s, n + 1, hs, hn => by
    have h1 : 1 ≤ s.length := by cases s <;> simp_all
    simp only [List.length_cons] at hn
    have e : gD s (n + 1) = 0 := by
      rw [gD, List.getD_eq_getElem?_getD, List.getElem?_eq_none (by omega)]
      rfl
    rw [cvf, e, cvf_far h s n hs (by omega)]
    simp
theorem gD_Lf (f : Nat → Int) (N n : Nat) : gD (Lf f N) n = if n < N then f n else 0 := by
  by_cases c : n < N
  · rw [if_pos c, gD, List.getD_eq_getElem?_getD]
    simp [Lf, c]
  · rw [if_neg c, gD, List.getD_eq_getElem?_getD, List.getElem?_eq_none (by rw [Lf_length]; omega)]
    rfl
theorem gD_conv (h s : List Int) (n : Nat) (hs : s ≠ []) : gD (conv h s) n = cvf h (gD s) n := by
  rw [conv, if_neg hs, gD_Lf]
  by_cases c : n < h.length + s.length - 1
  · rw [if_pos c, cv_cvf]
  · rw [if_neg c, cvf_far h s n hs (by omega)]
theorem list_gD {a b : List Int} (hl : a.length = b.length) (h : ∀ n, gD a n = gD b n) : a = b := by
  apply List.ext_getElem hl
  intro n h1 h2
  have := h n
  rw [gD, gD, List.getD_eq_getElem?_getD, List.getD_eq_getElem?_getD, List.getElem?_eq_getElem h1, List.getElem?_eq_getElem h2] at this
  exact this
theorem conv_comm {a b : List Int} (ha : a ≠ []) (hb : b ≠ []) : conv a b = conv b a := by
  apply list_gD
  · rw [conv_length a b hb, conv_length b a ha, Nat.add_comm]
  intro n
  rw [gD_conv a b n hb, gD_conv b a n ha, ← cvf_congr a n (fun i _ => cvf_dl b i), cvf_comm a dl b n]
  exact cvf_congr b n (fun i _ => cvf_dl a i)
theorem conv_ne {a b : List Int} (ha : a ≠ []) (hb : b ≠ []) : conv a b ≠ [] := by
  intro h
  have h1 := conv_length a b hb
  rw [h] at h1
  have : 1 ≤ a.length := by cases a <;> simp_all
  have : 1 ≤ b.length := by cases b <;> simp_all
  simp at h1
  omega
theorem cvf_conv {a b : List Int} (hb : b ≠ []) (f : Nat → Int) (n : Nat) (s : List Int) (hf : ∀ i, f i = gD s i) : cvf (conv a b) f n = cvf a (cvf b f) n := by
  have e1 : ∀ i, f i = cvf s dl i := fun i => (hf i).trans (cvf_dl s i).symm
  rw [cvf_congr (g := cvf s dl) (conv a b) n (fun i _ => e1 i), cvf_comm (conv a b) dl s n]
  rw [cvf_congr (g := cvf a (cvf b dl)) s n (fun i _ => by rw [cvf_dl, gD_conv a b i hb]; exact cvf_congr a i (fun j _ => (cvf_dl b j).symm))]
  rw [cvf_comm s (cvf b dl) a n]
  refine cvf_congr a n (fun i _ => ?_)
  rw [cvf_comm s dl b i]
  exact cvf_congr b i (fun j _ => (e1 j).symm)
theorem conv_assoc {a b s : List Int} (ha : a ≠ []) (hb : b ≠ []) (hs : s ≠ []) : conv b (conv a s) = conv (conv a b) s := by
  apply list_gD
  · have h1 : 1 ≤ a.length := by cases a <;> simp_all
    have h2 : 1 ≤ b.length := by cases b <;> simp_all
    have h3 : 1 ≤ s.length := by cases s <;> simp_all
    rw [conv_length b _ (conv_ne ha hs), conv_length a s hs, conv_length _ s hs, conv_length a b hb]
    omega
  intro n
  rw [gD_conv b _ n (conv_ne ha hs), gD_conv _ s n hs, cvf_conv hb (gD s) n s (fun _ => rfl), ← cvf_comm b (gD s) a n]
  exact cvf_congr b n (fun i _ => gD_conv a s i hs)
/-- the value of a list at z -/
def evz (z : Int) : List Int → Int
  | [] => 0
  | w :: t => w + z * evz z t
def evf (z : Int) : (Nat → Int) → Nat → Int
  | _, 0 => 0
  | f, n + 1 => f 0 + z * evf z (fun i => f (i + 1)) n
theorem evf_congr (z : Int) : ∀ (n : Nat) (f g : Nat → Int), (∀ i, i < n → f i = g i) → evf z f n = evf z g n
  | 0, _, _, _ => rfl
  | n + 1, f, g, h => by
    simp only [evf, h 0 (by omega), evf_congr z n (fun i => f (i + 1)) (fun i => g (i + 1)) (fun i hi => h (i + 1) (by omega))]
theorem evf_lin (z c : Int) : ∀ (n : Nat) (f g : Nat → Int), evf z (fun i => c * f i + g i) n = c * evf z f n + evf z g n
  | 0, _, _ => by simp [evf]
  | n + 1, f, g => by
    simp only [evf, evf_lin z c n (fun i => f (i + 1)) (fun i => g (i + 1))]
    grind
theorem evf_gD (z : Int) : ∀ (l : List Int) (n : Nat), l.length ≤ n → evf z (gD l) n = evz z l
  | [], 0, _ => rfl
  | [], n + 1, _ => by
    have ih := evf_gD z [] n (by simp)
    simp only [evf, evz] at ih ⊢
    have e : evf z (fun i => gD [] (i + 1)) n = 0 := by
      rw [← ih]
      exact evf_congr z n _ _ (fun i _ => by simp [gD])
    rw [e]
    simp [gD]
  | w :: l, 0, h => by simp at h
  | w :: l, n + 1, h => by
    simp only [evf, evz]
    have e : evf z (fun i => gD (w :: l) (i + 1)) n = evz z l := by
      rw [← evf_gD z l n (by simpa using h)]
      exact evf_congr z n _ _ (fun i _ => by simp [gD])
    rw [e]
    simp [gD]
theorem evf_cvf (z : Int) (s : List Int) (hs : s ≠ []) : ∀ (h : List Int) (n : Nat), h.length + s.length - 1 ≤ n → evf z (cvf h (gD s)) n = evz z h * evz z s
  | [], n, _ => by
    have e : ∀ (n : Nat), evf z (cvf [] (gD s)) n = 0 := by
      intro n
      have : ∀ n, evf z (fun _ => (0 : Int)) n = 0 := by
        intro n
        induction n with
        | zero => rfl
        | succ n ih => simp [evf, ih]
      rw [← this n]
      exact evf_congr z n _ _ (fun i _ => rfl)
    rw [e n]
    simp [evz]
  | w :: h, n, hn => by
    have h1 : 1 ≤ s.length := by cases s <;> simp_all
    simp only [List.length_cons] at hn
    obtain ⟨m, rfl⟩ : ∃ m, n = m + 1 := ⟨n - 1, by omega⟩
    rw [evf_congr z (m + 1) _ (fun i => w * gD s i + Sh (cvf h (gD s)) i) (fun i _ => cvf_cons w h (gD s) i), evf_lin, evf_gD z s (m + 1) (by omega)]
    have e : evf z (Sh (cvf h (gD s))) (m + 1) = z * (evz z h * evz z s) := by
      rw [evf]
      have : evf z (fun i => Sh (cvf h (gD s)) (i + 1)) m = evz z h * evz z s := by
        rw [← evf_cvf z s hs h m (by omega)]
        exact evf_congr z m _ _ (fun i _ => rfl)
      rw [this]
      simp [Sh]
    rw [e, evz]
    grind
theorem evz_conv (z : Int) {h s : List Int} (hs : s ≠ []) : evz z (conv h s) = evz z h * evz z s := by
  rw [← evf_gD z (conv h s) (h.length + s.length - 1) (by rw [conv_length h s hs]; omega), ← evf_cvf z s hs h (h.length + s.length - 1) (by omega)]
  exact evf_congr z _ _ _ (fun i _ => gD_conv h s i hs)

def fw (H : Int) (w : Bool) (b m : Int) : List Int → List Int → Nat → Int → Int
  | [], _, _, t => t
  | x :: _, s, 0, t => fitH H w (t + fitH H w (shM (x * s.getD 0 0) b m))
  | x :: h, s, n + 1, t => fw H w b m h s n (fitH H w (t + fitH H w (shM (x * s.getD (n + 1) 0) b m)))
theorem shM_one (x m : Int) : shM x 1 m = x := by
  unfold shM
  rw [Int.emod_one, Int.ediv_one]
  rw [if_neg (by omega), if_neg (by omega)]
theorem fitH_add (H x y : Int) : fitH H true (fitH H true x + y) = fitH H true (x + y) := by
  unfold fitH
  rw [if_pos rfl, if_pos rfl, if_pos rfl]
  have e : (x + H) % (2 * H) - H + y + H = (x + H) % (2 * H) + y := by omega
  have e2 : x + y + H = x + H + y := by omega
  rw [e, e2, Int.emod_add_emod]
theorem fw_wrap {H : Int} (hH : 1 ≤ H) (m : Int) : ∀ (h s : List Int) (n : Nat) (t : Int), -H ≤ t → t ≤ H - 1 → fw H true 1 m h s n t = fitH H true (t + cv h s n)
  | [], s, n, t, h0, h1 => by rw [fw, cv, Int.add_zero, fitH_id H true t h0 h1]
  | x :: h, s, 0, t, h0, h1 => by rw [fw, cv, shM_one, Int.add_comm t, fitH_add, Int.add_comm]
  | x :: h, s, n + 1, t, h0, h1 => by
    have hb := fitH_bd H true (t + fitH H true (shM (x * s.getD (n + 1) 0) 1 m)) hH
    rw [fw, fw_wrap hH m h s n _ hb.1 hb.2, cv, shM_one, fitH_add, Int.add_assoc, Int.add_comm t, Int.add_assoc, fitH_add, ← Int.add_assoc, Int.add_comm t, Int.add_assoc]
theorem fw_bd {H : Int} (hH : 1 ≤ H) (w : Bool) (b m : Int) : ∀ (h s : List Int) (n : Nat) (t : Int), -H ≤ t → t ≤ H - 1 → -H ≤ fw H w b m h s n t ∧ fw H w b m h s n t ≤ H - 1
  | [], s, n, t, h0, h1 => ⟨h0, h1⟩
  | x :: h, s, 0, t, h0, h1 => fitH_bd H w _ hH
  | x :: h, s, n + 1, t, h0, h1 => fw_bd hH w b m h s n _ (fitH_bd H w _ hH).1 (fitH_bd H w _ hH).2
def mnI (a b : Int) : Int := if a < b then a else b
def mxI (a b : Int) : Int := if a > b then a else b
/-- the least and the greatest sum of products with numbers of a word -/
def loS (L : Int) : List Int → Int
  | [] => 0
  | x :: h => mnI (x * -L) (x * (L - 1)) + loS L h
def hiS (L : Int) : List Int → Int
  | [] => 0
  | x :: h => mxI (x * -L) (x * (L - 1)) + hiS L h
theorem ends_prod {L x y : Int} (hL : 1 ≤ L) (h0 : -L ≤ y) (h1 : y ≤ L - 1) : mnI (x * -L) (x * (L - 1)) ≤ x * y ∧ x * y ≤ mxI (x * -L) (x * (L - 1)) ∧ mnI (x * -L) (x * (L - 1)) ≤ 0 ∧ 0 ≤ mxI (x * -L) (x * (L - 1)) := by
  rcases Int.le_total 0 x with h | h
  · have a1 := Int.mul_le_mul_of_nonneg_left h0 h
    have a2 := Int.mul_le_mul_of_nonneg_left h1 h
    have a3 : x * -L ≤ x * 0 := Int.mul_le_mul_of_nonneg_left (by omega) h
    have a4 : x * 0 ≤ x * (L - 1) := Int.mul_le_mul_of_nonneg_left (by omega) h
    rw [Int.mul_zero] at a3 a4
    unfold mnI mxI
    split <;> split <;> omega
  · have a1 := Int.mul_le_mul_of_nonpos_left h h0
    have a2 := Int.mul_le_mul_of_nonpos_left h h1
    have a3 : x * 0 ≤ x * -L := Int.mul_le_mul_of_nonpos_left h (by omega)
    have a4 : x * (L - 1) ≤ x * 0 := Int.mul_le_mul_of_nonpos_left h (by omega)
    rw [Int.mul_zero] at a3 a4
    unfold mnI mxI
    split <;> split <;> omega
theorem loS_np {L : Int} (hL : 1 ≤ L) : ∀ h : List Int, loS L h ≤ 0 ∧ 0 ≤ hiS L h
  | [] => ⟨Int.le_refl 0, Int.le_refl 0⟩
  | x :: h => by
    have h1 := ends_prod (x := x) (y := 0) hL (by omega) (by omega)
    have h2 := loS_np hL h
    simp only [loS, hiS]
    omega
theorem getD_in {L : Int} (hL : 1 ≤ L) {s : List Int} (hs : ∀ y ∈ s, -L ≤ y ∧ y ≤ L - 1) (n : Nat) : -L ≤ s.getD n 0 ∧ s.getD n 0 ≤ L - 1 := by
  rw [List.getD_eq_getElem?_getD]
  by_cases c : n < s.length
  · rw [List.getElem?_eq_getElem c]
    exact hs _ (List.getElem_mem c)
  · rw [List.getElem?_eq_none (by omega)]
    simp
    omega
theorem cv_ends {L : Int} (hL : 1 ≤ L) {s : List Int} (hs : ∀ y ∈ s, -L ≤ y ∧ y ≤ L - 1) : ∀ (h : List Int) (n : Nat), loS L h ≤ cv h s n ∧ cv h s n ≤ hiS L h
  | [], n => ⟨Int.le_refl 0, Int.le_refl 0⟩
  | x :: h, 0 => by
    have g := getD_in hL hs 0
    have h1 := ends_prod (x := x) hL g.1 g.2
    have h2 := loS_np hL h
    simp only [loS, hiS, cv]
    omega
  | x :: h, n + 1 => by
    have g := getD_in hL hs (n + 1)
    have h1 := ends_prod (x := x) hL g.1 g.2
    have h2 := cv_ends hL hs h n
    simp only [loS, hiS, cv]
    omega
theorem fw_exact {H L : Int} (hL : 1 ≤ L) (w : Bool) (m : Int) {s : List Int} (hs : ∀ y ∈ s, -L ≤ y ∧ y ≤ L - 1) : ∀ (h : List Int) (n : Nat) (t : Int), -H ≤ t + loS L h → t + hiS L h ≤ H - 1 → -H ≤ loS L h → hiS L h ≤ H - 1 → fw H w 1 m h s n t = t + cv h s n
  | [], n, t, _, _, _, _ => by rw [fw, cv, Int.add_zero]
  | x :: h, 0, t, a1, a2, a3, a4 => by
    have g := getD_in hL hs 0
    have h1 := ends_prod (x := x) hL g.1 g.2
    have h2 := loS_np hL h
    simp only [loS, hiS] at a1 a2 a3 a4
    rw [fw, cv, shM_one, fitH_id H w (x * s.getD 0 0) (by omega) (by omega), fitH_id H w _ (by omega) (by omega)]
  | x :: h, n + 1, t, a1, a2, a3, a4 => by
    have g := getD_in hL hs (n + 1)
    have h1 := ends_prod (x := x) hL g.1 g.2
    have h2 := loS_np hL h
    simp only [loS, hiS] at a1 a2 a3 a4
    rw [fw, cv, shM_one, fitH_id H w (x * s.getD (n + 1) 0) (by omega) (by omega), fitH_id H w (t + x * s.getD (n + 1) 0) (by omega) (by omega), fw_exact hL w m hs h n _ (by omega) (by omega) (by omega) (by omega), Int.add_assoc]
def szS : List Int → Int
  | [] => 0
  | x :: h => (x.natAbs : Int) + szS h
def ngS : List Int → Int
  | [] => 0
  | x :: h => (if x < 0 then -x else 0) + ngS h
def psS : List Int → Int
  | [] => 0
  | x :: h => (if x < 0 then 0 else x) + psS h
theorem loS_eq {L : Int} (hL : 1 ≤ L) : ∀ h : List Int, szS h = psS h + ngS h ∧ 0 ≤ psS h ∧ 0 ≤ ngS h ∧ loS L h = -(psS h * L + ngS h * L) + ngS h ∧ hiS L h = psS h * L + ngS h * L - psS h
  | [] => by simp [szS, psS, ngS, loS, hiS]
  | x :: h => by
    obtain ⟨h1, h2, h3, h4, h5⟩ := loS_eq hL h
    simp only [szS, psS, ngS, loS, hiS]
    by_cases c : x < 0
    · have e : mnI (x * -L) (x * (L - 1)) = x * (L - 1) := by
        have a : x * (L - 1) ≤ x * -L := Int.mul_le_mul_of_nonpos_left (by omega) (by omega)
        unfold mnI
        split <;> omega
      have e' : mxI (x * -L) (x * (L - 1)) = x * -L := by
        have a : x * (L - 1) ≤ x * -L := Int.mul_le_mul_of_nonpos_left (by omega) (by omega)
        unfold mxI
        split <;> omega
      rw [e, e', if_pos c, if_pos c, h4, h5, Int.add_mul, Int.add_mul, Int.mul_sub, Int.mul_neg, Int.neg_mul]
      refine ⟨by omega, by omega, by omega, by omega, by omega⟩
    · have e : mnI (x * -L) (x * (L - 1)) = x * -L := by
        have a : x * -L ≤ x * (L - 1) := Int.mul_le_mul_of_nonneg_left (by omega) (by omega)
        unfold mnI
        split <;> omega
      have e' : mxI (x * -L) (x * (L - 1)) = x * (L - 1) := by
        have a : x * -L ≤ x * (L - 1) := Int.mul_le_mul_of_nonneg_left (by omega) (by omega)
        unfold mxI
        split <;> omega
      rw [e, e', if_neg c, if_neg c, h4, h5, Int.add_mul, Int.add_mul, Int.mul_sub, Int.mul_neg]
      refine ⟨by omega, by omega, by omega, by omega, by omega⟩

def smz (f : Nat → Int) : Nat → Int
  | 0 => f 0
  | n + 1 => smz f n + f (n + 1)
def dfz (f : Nat → Int) : Nat → Int
  | 0 => f 0
  | n + 1 => f (n + 1) - f n
def dfR (R : Nat) (f : Nat → Int) (n : Nat) : Int := f n - (if n < R then 0 else f (n - R))
def itz {α : Type} (g : α → α) : Nat → α → α
  | 0, f => f
  | k + 1, f => itz g k (g f)
theorem itz_succ {α : Type} (g : α → α) : ∀ (k : Nat) (f : α), itz g (k + 1) f = g (itz g k f)
  | 0, _ => rfl
  | k + 1, f => by
    rw [itz, itz_succ g k (g f)]
    rfl
theorem smz_congr {f g : Nat → Int} : ∀ (n : Nat), (∀ i, i ≤ n → f i = g i) → smz f n = smz g n
  | 0, h => h 0 (Nat.le_refl 0)
  | n + 1, h => by rw [smz, smz, smz_congr n (fun i hi => h i (by omega)), h (n + 1) (Nat.le_refl _)]
theorem dfz_congr {f g : Nat → Int} (n : Nat) (h : ∀ i, i ≤ n → f i = g i) : dfz f n = dfz g n := by
  cases n with
  | zero => exact h 0 (Nat.le_refl 0)
  | succ n => rw [dfz, dfz, h n (by omega), h (n + 1) (Nat.le_refl _)]
theorem itz_congr (g : (Nat → Int) → Nat → Int) (hg : ∀ {a b : Nat → Int} (n : Nat), (∀ i, i ≤ n → a i = b i) → g a n = g b n) : ∀ (k : Nat) (f h : Nat → Int) (n : Nat), (∀ i, i ≤ n → f i = h i) → itz g k f n = itz g k h n
  | 0, f, h, n, e => e n (Nat.le_refl n)
  | k + 1, f, h, n, e => itz_congr g hg k (g f) (g h) n (fun i hi => hg i (fun j hj => e j (by omega)))
theorem cvf_box (R : Nat) (f : Nat → Int) : ∀ (n : Nat), cvf (List.replicate R 1) f n = dfR R (smz f) n := by
  induction R with
  | zero => intro n; simp [cvf, dfR]
  | succ R ih =>
    intro n
    rw [List.replicate_succ, cvf_cons, Int.one_mul]
    cases n with
    | zero => simp [Sh, dfR, smz]
    | succ n =>
      rw [Sh, ih n]
      unfold dfR
      rw [smz]
      by_cases c : n < R
      · rw [if_pos c, if_pos (by omega)]
        omega
      · rw [if_neg c, if_neg (by omega), show n + 1 - (R + 1) = n - R by omega]
        omega
theorem cvf_smz (b : List Int) (f : Nat → Int) : ∀ n : Nat, cvf b (smz f) n = smz (cvf b f) n := by
  have e : ∀ n, smz f n = f n + Sh (smz f) n := by
    intro n
    cases n with
    | zero => simp [smz, Sh]
    | succ n => rw [smz, Sh, Int.add_comm]
  intro n
  induction n with
  | zero =>
    rw [cvf_congr (g := fun i => f i + Sh (smz f) i) b 0 (fun i _ => e i), cvf_add, cvf_Sh]
    simp [Sh, smz]
  | succ n ih =>
    rw [cvf_congr (g := fun i => f i + Sh (smz f) i) b (n + 1) (fun i _ => e i), cvf_add, cvf_Sh, Sh, ih, smz, Int.add_comm]
theorem smz_dfR (R : Nat) (hR : 1 ≤ R) (f : Nat → Int) : ∀ n : Nat, smz (dfR R f) n = dfR R (smz f) n
  | 0 => by
    simp only [smz, dfR]
    rw [if_pos (by omega), if_pos (by omega)]
  | n + 1 => by
    rw [smz, smz_dfR R hR f n]
    simp only [dfR, smz]
    by_cases c : n < R
    · rw [if_pos c]
      by_cases d : n + 1 < R
      · rw [if_pos d, if_pos d]
        omega
      · rw [if_neg d, if_neg d, show n + 1 - R = 0 by omega, smz]
        omega
    · rw [if_neg c, if_neg (by omega), if_neg (by omega), show n + 1 - R = (n - R) + 1 by omega, smz]
      omega
/-- what is kept of a list by a rate -/
def dz (R : Nat) (f : Nat → Int) (j : Nat) : Int := f (R - 1 + j * R)
theorem dz_dfR (R : Nat) (hR : 1 ≤ R) (f : Nat → Int) (j : Nat) : dz R (dfR R f) j = dfz (dz R f) j := by
  cases j with
  | zero =>
    simp only [dz, dfR, dfz]
    rw [if_pos (by omega)]
    omega
  | succ j =>
    simp only [dz, dfR, dfz]
    rw [Nat.add_mul, Nat.one_mul, if_neg (by omega), show R - 1 + (j * R + R) - R = R - 1 + j * R by omega]
theorem comb_drop (R : Nat) (hR : 1 ≤ R) : ∀ (k : Nat) (f : Nat → Int) (j : Nat), dz R (itz (cvf (List.replicate R 1)) k f) j = itz dfz k (dz R (itz smz k f)) j
  | 0, f, j => rfl
  | k + 1, f, j => by
    rw [itz_succ (cvf (List.replicate R 1)), itz_succ dfz]
    have h1 : dz R (cvf (List.replicate R 1) (itz (cvf (List.replicate R 1)) k f)) j = dz R (dfR R (smz (itz (cvf (List.replicate R 1)) k f))) j := cvf_box R _ _
    rw [h1, dz_dfR R hR]
    refine dfz_congr j (fun i _ => ?_)
    have h2 : dz R (smz (itz (cvf (List.replicate R 1)) k f)) i = dz R (itz (cvf (List.replicate R 1)) k (smz f)) i := by
      have : ∀ (k : Nat) (g : Nat → Int) (n : Nat), smz (itz (cvf (List.replicate R 1)) k g) n = itz (cvf (List.replicate R 1)) k (smz g) n := by
        intro k
        induction k with
        | zero => intro g n; rfl
        | succ k ih =>
          intro g n
          rw [itz, ih, itz]
          exact itz_congr _ (fun n h => cvf_congr _ n h) k _ _ n (fun i _ => (cvf_smz _ g i).symm)
      exact this k f _
    rw [h2, comb_drop R hR k (smz f) i]
    rfl
/-- zeros put in -/
def uz (R : Nat) (f : Nat → Int) (n : Nat) : Int := if n % R = 0 then f (n / R) else 0
theorem uz_dfz (R : Nat) (hR : 1 ≤ R) (f : Nat → Int) (n : Nat) : uz R (dfz f) n = dfR R (uz R f) n := by
  simp only [uz, dfR]
  have hd := Nat.div_add_mod n R
  have hm := Nat.mod_lt n (show 0 < R by omega)
  by_cases c : n < R
  · have e : n / R = 0 := Nat.div_eq_of_lt c
    rw [if_pos c, e, Int.sub_zero]
    rfl
  · rw [if_neg c]
    have e1 : (n - R) % R = n % R := by
      rw [← Nat.mod_eq_sub_mod (by omega)]
    have e3 : 1 ≤ n / R := (Nat.le_div_iff_mul_le (by omega)).2 (by omega)
    have e2 : (n - R) / R = n / R - 1 := Nat.sub_mul_div n R 1 |> fun h => by simpa using h
    rw [e1]
    by_cases d : n % R = 0
    · rw [if_pos d, if_pos d, if_pos d, e2]
      obtain ⟨m, hm⟩ : ∃ m, n / R = m + 1 := ⟨n / R - 1, by omega⟩
      rw [hm, dfz]
      rfl
    · rw [if_neg d, if_neg d, if_neg d]
      rfl
theorem itz_cvf_smz (b : List Int) : ∀ (k : Nat) (g : Nat → Int) (n : Nat), itz smz k (cvf b g) n = cvf b (itz smz k g) n := by
  intro k
  induction k with
  | zero => intro g n; rfl
  | succ k ih =>
    intro g n
    rw [itz, itz, ← ih (smz g) n]
    exact itz_congr smz (fun n h => smz_congr n h) k _ _ n (fun i _ => (cvf_smz b g i).symm)
theorem comb_rise (R : Nat) (hR : 1 ≤ R) : ∀ (k : Nat) (f : Nat → Int) (n : Nat), itz smz k (uz R (itz dfz k f)) n = itz (cvf (List.replicate R 1)) k (uz R f) n
  | 0, f, n => rfl
  | k + 1, f, n => by
    rw [itz_succ dfz, itz_succ (cvf (List.replicate R 1)), itz]
    have h1 : ∀ i, smz (uz R (dfz (itz dfz k f))) i = cvf (List.replicate R 1) (uz R (itz dfz k f)) i := by
      intro i
      rw [cvf_box, ← smz_dfR R hR]
      exact smz_congr i (fun j _ => uz_dfz R hR _ j)
    rw [itz_congr smz (fun n h => smz_congr n h) k _ _ n (fun i _ => h1 i), itz_cvf_smz]
    exact cvf_congr _ n (fun i _ => comb_rise R hR k f i)
theorem fit_eq (H x : Int) : ∃ q, fitH H true x = x + 2 * H * q := by
  obtain ⟨q, h⟩ := fit_dvd H x
  exact ⟨-q, by rw [Int.mul_neg]; omega⟩
theorem fit_per (H x q : Int) : fitH H true (x + 2 * H * q) = fitH H true x := by
  unfold fitH
  rw [if_pos rfl, if_pos rfl]
  have e : x + 2 * H * q + H = x + H + 2 * H * q := by omega
  rw [e, Int.add_mul_emod_self_left]
theorem fit_fit (H x : Int) : fitH H true (fitH H true x) = fitH H true x := by
  obtain ⟨q, e⟩ := fit_eq H x
  rw [e, fit_per]
  exact e
theorem fit_sub (H x y : Int) : fitH H true (fitH H true x - fitH H true y) = fitH H true (x - y) := by
  obtain ⟨q, e⟩ := fit_eq H x
  obtain ⟨r, f⟩ := fit_eq H y
  rw [e, f]
  have : x + 2 * H * q - (y + 2 * H * r) = x - y + 2 * H * (q - r) := by rw [Int.mul_sub]; omega
  rw [this, fit_per]
theorem fit_sum (H x y : Int) : fitH H true (fitH H true x + fitH H true y) = fitH H true (x + y) := by
  obtain ⟨q, e⟩ := fit_eq H x
  obtain ⟨r, f⟩ := fit_eq H y
  rw [e, f]
  have : x + 2 * H * q + (y + 2 * H * r) = x + y + 2 * H * (q + r) := by rw [Int.mul_add]; omega
  rw [this, fit_per]
theorem smz_fit (H : Int) (f : Nat → Int) : ∀ n : Nat, fitH H true (smz (fun i => fitH H true (f i)) n) = fitH H true (smz f n)
  | 0 => fit_fit H _
  | n + 1 => by
    rw [smz, smz, ← fit_sum, smz_fit H f n, fit_fit, fit_sum]
theorem dfz_fit (H : Int) (f : Nat → Int) (n : Nat) : fitH H true (dfz (fun i => fitH H true (f i)) n) = fitH H true (dfz f n) := by
  cases n with
  | zero => exact fit_fit H _
  | succ n => rw [dfz, dfz, fit_sub]
theorem itz_fit (H : Int) (g : (Nat → Int) → Nat → Int) (hg : ∀ {a b : Nat → Int} (n : Nat), (∀ i, i ≤ n → a i = b i) → g a n = g b n) (hf : ∀ (f : Nat → Int) (n : Nat), fitH H true (g (fun i => fitH H true (f i)) n) = fitH H true (g f n)) :
    ∀ (k : Nat) (f : Nat → Int) (n : Nat), fitH H true (itz g k (fun i => fitH H true (f i)) n) = fitH H true (itz g k f n) := by
  intro k
  induction k with
  | zero => intro f n; exact fit_fit H _
  | succ k ih =>
    intro f n
    rw [itz_succ, itz_succ, ← hf (itz g k fun i => fitH H true (f i)) n, ← hf (itz g k f) n]
    congr 1
    exact hg n (fun i _ => ih f i)
theorem dfz_smz (f : Nat → Int) (n : Nat) : dfz (smz f) n = f n := by
  cases n with
  | zero => rfl
  | succ n => rw [dfz, smz]; omega
theorem smz_dfz (f : Nat → Int) : ∀ n : Nat, smz (dfz f) n = f n
  | 0 => rfl
  | n + 1 => by rw [smz, smz_dfz f n, dfz]; omega
theorem itz_inv (a b : (Nat → Int) → Nat → Int) (ha : ∀ {f g : Nat → Int} (n : Nat), (∀ i, i ≤ n → f i = g i) → a f n = a g n) (h : ∀ f n, a (b f) n = f n) : ∀ (k : Nat) (f : Nat → Int) (n : Nat), itz a k (itz b k f) n = f n := by
  intro k
  induction k with
  | zero => intro f n; rfl
  | succ k ih =>
    intro f n
    rw [itz_succ b, itz, itz_congr a ha k _ (itz b k f) n (fun i _ => h _ i)]
    exact ih f n

def dvM (a : List Int) (b0 : Int) (bt : List Int) : Nat → List Int → Option (List Int)
  | 0, out => some out
  | m + 1, out =>
    let r := gD a out.length - Sh (cvf bt (gD out)) out.length
    if Int.tmod r b0 ≠ 0 then none else if (Int.tdiv r b0).natAbs > 1000 then none else dvM a b0 bt m (out ++ [Int.tdiv r b0])
def divW (a b : List Int) : List Int × Bool :=
  if wts a = true ∧ wts b = true ∧ gD b 0 ≠ 0 ∧ b.length ≤ a.length then
    match dvM a (gD b 0) b.tail (a.length - b.length + 1) [] with
    | none => ([], false)
    | some q => if conv q b = a then (q, true) else ([], false)
  else ([], false)
theorem dvM_len (a : List Int) (b0 : Int) (bt : List Int) : ∀ (m : Nat) (out q : List Int), dvM a b0 bt m out = some q → q.length = out.length + m
  | 0, out, q, h => by
    simp only [dvM, Option.some.injEq] at h
    subst h
    rfl
  | m + 1, out, q, h => by
    simp only [dvM] at h
    split at h
    · cases h
    · split at h
      · cases h
      · have := dvM_len a b0 bt m _ q h
        simp at this
        omega
theorem dvM_mem (a : List Int) (b0 : Int) (bt : List Int) : ∀ (m : Nat) (out q : List Int), (∀ x ∈ out, -1000 ≤ x ∧ x ≤ 1000) → dvM a b0 bt m out = some q → ∀ x ∈ q, -1000 ≤ x ∧ x ≤ 1000
  | 0, out, q, ho, h => by
    simp only [dvM, Option.some.injEq] at h
    subst h
    exact ho
  | m + 1, out, q, ho, h => by
    simp only [dvM] at h
    split at h
    · cases h
    · split at h
      · cases h
      · refine dvM_mem a b0 bt m _ q (fun x hx => ?_) h
        rcases List.mem_append.1 hx with hx | hx
        · exact ho x hx
        · simp at hx
          subst hx
          omega
theorem gD_take (a : List Int) (n i : Nat) (h : i < n) : gD (a.take n) i = gD a i := by
  simp [gD, List.getD_eq_getElem?_getD, List.getElem?_take, h]
theorem gD_out (a : List Int) (n : Nat) (h : a.length ≤ n) : gD a n = 0 := by
  rw [gD, List.getD_eq_getElem?_getD, List.getElem?_eq_none h]
  rfl
theorem gD_in (a : List Int) (n : Nat) (h : n < a.length) : gD a n = a[n] := by
  rw [gD, List.getD_eq_getElem?_getD, List.getElem?_eq_getElem h]
  rfl
theorem cvf_turn (a b : List Int) (n : Nat) : cvf a (gD b) n = cvf b (gD a) n := by
  rw [← cvf_congr a n (fun i _ => cvf_dl b i), cvf_comm a dl b n]
  exact cvf_congr b n (fun i _ => cvf_dl a i)
theorem Sh_congr {f g : Nat → Int} (n : Nat) (h : ∀ i, i < n → f i = g i) : Sh f n = Sh g n := by
  cases n with
  | zero => rfl
  | succ n => exact h n (by omega)
theorem dvM_back (a b : List Int) (hb0 : gD b 0 ≠ 0) (hb : b ≠ []) (ha : ∀ x ∈ a, -1000 ≤ x ∧ x ≤ 1000) : ∀ (m i : Nat), i + m = a.length → dvM (conv a b) (gD b 0) b.tail m (a.take i) = some a
  | 0, i, h => by
    rw [dvM, List.take_of_length_le (by omega)]
  | m + 1, i, h => by
    have hl : (a.take i).length = i := by rw [List.length_take]; omega
    have e : gD (conv a b) i - Sh (cvf b.tail (gD (a.take i))) i = gD b 0 * gD a i := by
      rw [gD_conv a b i hb, cvf_turn]
      have e1 : b = gD b 0 :: b.tail := by
        cases b with
        | nil => exact absurd rfl hb
        | cons x t => rfl
      have e2 : cvf b (gD a) i = gD b 0 * gD a i + Sh (cvf b.tail (gD a)) i := by
        have := cvf_cons (gD b 0) b.tail (gD a) i
        rw [← e1] at this
        exact this
      rw [e2, Sh_congr (g := cvf b.tail (gD a)) i (fun j hj => cvf_congr b.tail j (fun k hk => gD_take a i k (by omega)))]
      omega
    have hx := ha a[i] (List.getElem_mem (by omega))
    have e3 : Int.tdiv (gD b 0 * gD a i) (gD b 0) = gD a i := Int.mul_tdiv_cancel_left _ hb0
    have e4 : Int.tmod (gD b 0 * gD a i) (gD b 0) = 0 := Int.mul_tmod_right _ _
    simp only [dvM, hl, e, e3, e4]
    rw [gD_in a i (by omega)]
    rw [if_neg (by simp), if_neg (by omega)]
    have e5 : a.take i ++ [a[i]] = a.take (i + 1) := by simp
    rw [e5]
    exact dvM_back a b hb0 hb ha m (i + 1) (by omega)
theorem wts_ne {l : List Int} (h : wts l = true) : l ≠ [] := by
  intro e
  have := wts_len h
  rw [e] at this
  simp at this
theorem divW_back {a b : List Int} (ha : wts a = true) (hb : wts b = true) (hp : wts (conv a b) = true) (h0 : gD b 0 ≠ 0) : divW (conv a b) b = (a, true) := by
  have hbn := wts_ne hb
  have la := wts_len ha
  have lb := wts_len hb
  have e := conv_length a b hbn
  rw [divW, if_pos ⟨hp, hb, h0, by omega⟩]
  have h := dvM_back a b h0 hbn (wts_mem ha) a.length 0 (by omega)
  have e2 : (conv a b).length - b.length + 1 = a.length := by omega
  rw [e2]
  simp only [List.take_zero] at h
  rw [h]
  simp
theorem divW_good {a b q : List Int} (h : divW a b = (q, true)) : wts q = true ∧ conv q b = a ∧ wts a = true ∧ wts b = true := by
  unfold divW at h
  split at h
  · rename_i c
    split at h
    · simp at h
    · rename_i q' hq
      split at h
      · rename_i e
        simp at h
        subst h
        refine ⟨?_, e, c.1, c.2.1⟩
        have l1 := dvM_len _ _ _ _ _ _ hq
        have l2 := dvM_mem _ _ _ _ _ _ (fun x hx => by simp at hx) hq
        have la := wts_len c.1
        have lb := wts_len c.2.1
        simp only [wts, Bool.and_eq_true, decide_eq_true_eq, List.all_eq_true]
        simp at l1
        exact ⟨⟨by omega, by omega⟩, l2⟩
      · simp at h
  · simp at h
def pw (h : List Int) : Nat → List Int
  | 0 => [1]
  | j + 1 => conv (pw h j) h
theorem pw_ne {h : List Int} (hh : h ≠ []) : ∀ j, pw h j ≠ []
  | 0 => by simp [pw]
  | j + 1 => conv_ne (pw_ne hh j) hh
theorem pw_len {h : List Int} (hh : h ≠ []) : ∀ j, (pw h j).length = (h.length - 1) * j + 1
  | 0 => by simp [pw]
  | j + 1 => by
    have : 1 ≤ h.length := by cases h <;> simp_all
    rw [pw, conv_length _ _ hh, pw_len hh j, Nat.mul_add]
    omega
theorem conv_one {h : List Int} (hh : h ≠ []) : conv [1] h = h := by
  apply list_gD
  · rw [conv_length _ _ hh]
    simp
  · intro n
    rw [gD_conv _ _ n hh]
    cases n <;> simp [cvf]
theorem wts_iff {l : List Int} : wts l = true ↔ 1 ≤ l.length ∧ l.length ≤ 9 ∧ ∀ x ∈ l, -1000 ≤ x ∧ x ≤ 1000 := by
  simp only [wts, Bool.and_eq_true, decide_eq_true_eq, List.all_eq_true, and_assoc]
theorem cubes {a b c : Int} (h1 : -1000 ≤ a * a * a ∧ a * a * a ≤ 1000) (h3 : -1000 ≤ c * c * c ∧ c * c * c ≤ 1000) (h2 : -1000 ≤ 6 * a * b * c + b * b * b ∧ 6 * a * b * c + b * b * b ≤ 1000) :
    (-10 ≤ a ∧ a ≤ 10) ∧ (-10 ≤ c ∧ c ≤ 10) ∧ (-28 ≤ b ∧ b ≤ 28) := by
  have cube : ∀ x : Int, -1000 ≤ x * x * x → x * x * x ≤ 1000 → -10 ≤ x ∧ x ≤ 10 := by
    intro x g0 g1
    refine ⟨?_, ?_⟩
    · apply Int.le_of_not_gt
      intro g
      have a1 : 11 * 11 ≤ (-x) * (-x) := Int.mul_le_mul (by omega) (by omega) (by omega) (by omega)
      have a2 : 11 * 11 * 11 ≤ (-x) * (-x) * (-x) := Int.mul_le_mul a1 (by omega) (by omega) (by omega)
      have a3 : (-x) * (-x) * (-x) = -(x * x * x) := by grind
      omega
    · apply Int.le_of_not_gt
      intro g
      have a1 : 11 * 11 ≤ x * x := Int.mul_le_mul (by omega) (by omega) (by omega) (by omega)
      have a2 : 11 * 11 * 11 ≤ x * x * x := Int.mul_le_mul a1 (by omega) (by omega) (by omega)
      omega
  have ha := cube a h1.1 h1.2
  have hc := cube c h3.1 h3.2
  have hac : -100 ≤ a * c ∧ a * c ≤ 100 := by
    have h : (a * c).natAbs ≤ 10 * 10 := by
      rw [Int.natAbs_mul]
      exact Nat.mul_le_mul (by omega) (by omega)
    omega
  have e : 6 * a * b * c + b * b * b = b * (b * b + 6 * (a * c)) := by grind
  rw [e] at h2
  refine ⟨ha, hc, ?_, ?_⟩
  · apply Int.le_of_not_gt
    intro g
    have a1 : 29 * 29 ≤ (-b) * (-b) := Int.mul_le_mul (by omega) (by omega) (by omega) (by omega)
    have a3 : (-b) * (-b) = b * b := by grind
    have a4 : 29 * 241 ≤ (-b) * (b * b + 6 * (a * c)) := Int.mul_le_mul (by omega) (by omega) (by omega) (by omega)
    rw [Int.neg_mul] at a4
    omega
  · apply Int.le_of_not_gt
    intro g
    have a1 : 29 * 29 ≤ b * b := Int.mul_le_mul (by omega) (by omega) (by omega) (by omega)
    have a4 : 29 * 241 ≤ b * (b * b + 6 * (a * c)) := Int.mul_le_mul (by omega) (by omega) (by omega) (by omega)
    omega
theorem cvr (x y z : List Int) (h : Lf (cv x y) (x.length + y.length - 1) = z) (hy : y ≠ []) : conv x y = z := by
  rw [conv, if_neg hy, h]
theorem pw1_2 (a : Int) : pw [a] 2 = [a * a] := by
  simp only [pw, conv_one (h := [a]) (by simp)]
  refine cvr _ _ _ ?_ (by simp)
  simp [Lf, List.range_succ, cv]
theorem pw1_3 (a : Int) : pw [a] 3 = [a * a * a] := by
  rw [pw, pw1_2]
  refine cvr _ _ _ ?_ (by simp)
  simp [Lf, List.range_succ, cv]
theorem pw1_4 (a : Int) : pw [a] 4 = [a * a * a * a] := by
  rw [pw, pw1_3]
  refine cvr _ _ _ ?_ (by simp)
  simp [Lf, List.range_succ, cv]
theorem pw2_2 (a b : Int) : pw [a, b] 2 = [a * a, 2 * (a * b), b * b] := by
  simp only [pw, conv_one (h := [a, b]) (by simp)]
  refine cvr _ _ _ ?_ (by simp)
  simp [Lf, List.range_succ, cv]
  grind
theorem pw2_3 (a b : Int) : pw [a, b] 3 = [a * a * a, 3 * (a * a * b), 3 * (a * b * b), b * b * b] := by
  rw [pw, pw2_2]
  refine cvr _ _ _ ?_ (by simp)
  simp [Lf, List.range_succ, cv]
  grind
theorem pw2_4 (a b : Int) : pw [a, b] 4 = [a * a * a * a, 4 * (a * a * a * b), 6 * (a * a * b * b), 4 * (a * b * b * b), b * b * b * b] := by
  rw [pw, pw2_3]
  refine cvr _ _ _ ?_ (by simp)
  simp [Lf, List.range_succ, cv]
  grind
theorem pw3_2 (a b c : Int) : pw [a, b, c] 2 = [a * a, 2 * (a * b), b * b + 2 * (a * c), 2 * (b * c), c * c] := by
  simp only [pw, conv_one (h := [a, b, c]) (by simp)]
  refine cvr _ _ _ ?_ (by simp)
  simp [Lf, List.range_succ, cv]
  grind
theorem pw3_3 (a b c : Int) : pw [a, b, c] 3 = [a * a * a, 3 * (a * a * b), 3 * (a * a * c) + 3 * (a * b * b), 6 * a * b * c + b * b * b, 3 * (a * c * c) + 3 * (b * b * c), 3 * (b * c * c), c * c * c] := by
  rw [pw, pw3_2]
  refine cvr _ _ _ ?_ (by simp)
  simp [Lf, List.range_succ, cv]
  grind
theorem pw3_4 (a b c : Int) : ∃ y1 y3 y4 y5 y7, pw [a, b, c] 4 = [a * a * a * a, y1, 4 * (a * a * a * c) + 6 * (a * a * b * b), y3, y4, y5, 4 * (a * c * c * c) + 6 * (b * b * c * c), y7, c * c * c * c] ∧ y4 = b * b * b * b + 12 * (a * b * b * c) + 6 * (a * a * c * c) ∧ y3 = 4 * (a * b * b * b) + 12 * (a * a * b * c) ∧ y5 = 4 * (b * b * b * c) + 12 * (a * b * c * c) ∧ y1 = 4 * (a * a * a * b) ∧ y7 = 4 * (b * c * c * c) := by
  refine ⟨_, _, _, _, _, ?_, rfl, rfl, rfl, rfl, rfl⟩
  rw [pw, pw3_3]
  refine cvr _ _ _ ?_ (by simp)
  simp [Lf, List.range_succ, cv]
  grind
theorem fourth {x : Int} (h0 : x * x * x * x ≤ 1000) : -5 ≤ x ∧ x ≤ 5 := by
  refine ⟨?_, ?_⟩
  · apply Int.le_of_not_gt
    intro g
    have a1 : 6 * 6 ≤ (-x) * (-x) := Int.mul_le_mul (by omega) (by omega) (by omega) (by omega)
    have a2 : 6 * 6 * 6 ≤ (-x) * (-x) * (-x) := Int.mul_le_mul a1 (by omega) (by omega) (by omega)
    have a3 : 6 * 6 * 6 * 6 ≤ (-x) * (-x) * (-x) * (-x) := Int.mul_le_mul a2 (by omega) (by omega) (by omega)
    have a4 : (-x) * (-x) * (-x) * (-x) = x * x * x * x := by grind
    omega
  · apply Int.le_of_not_gt
    intro g
    have a1 : 6 * 6 ≤ x * x := Int.mul_le_mul (by omega) (by omega) (by omega) (by omega)
    have a2 : 6 * 6 * 6 ≤ x * x * x := Int.mul_le_mul a1 (by omega) (by omega) (by omega)
    have a3 : 6 * 6 * 6 * 6 ≤ x * x * x * x := Int.mul_le_mul a2 (by omega) (by omega) (by omega)
    omega
theorem mid13 {a b c : Int} (ha : -5 ≤ a ∧ a ≤ 5) (hc : -5 ≤ c ∧ c ≤ 5) (h0 : a ≠ 0) (h : 4 * (a * a * a * c) + 6 * (a * a * b * b) ≤ 1000) : -13 ≤ b ∧ b ≤ 13 := by
  have hb : b * b < 196 := by
    apply Int.lt_of_not_ge
    intro g
    have e1 : 4 * (a * a * a * c) + 6 * (a * a * b * b) = (a * a) * (4 * (a * c) + 6 * (b * b)) := by grind
    have hac : -25 ≤ a * c := by
      have h : (a * c).natAbs ≤ 5 * 5 := by
        rw [Int.natAbs_mul]
        exact Nat.mul_le_mul (by omega) (by omega)
      omega
    have haa : 1 ≤ a * a := by
      have : a * a ≠ 0 := Int.mul_ne_zero h0 h0
      have : 0 ≤ a * a := by
        rcases Int.le_total 0 a with g | g
        · exact Int.mul_nonneg g g
        · exact Int.mul_nonneg_of_nonpos_of_nonpos g g
      omega
    have := Int.mul_le_mul (a := 1) (b := 1076) (c := a * a) (d := 4 * (a * c) + 6 * (b * b)) haa (by omega) (by omega) (by omega)
    omega
  refine ⟨?_, ?_⟩
  · apply Int.le_of_not_gt
    intro g
    have a1 : 14 * 14 ≤ (-b) * (-b) := Int.mul_le_mul (by omega) (by omega) (by omega) (by omega)
    have a3 : (-b) * (-b) = b * b := by grind
    omega
  · apply Int.le_of_not_gt
    intro g
    have a1 : 14 * 14 ≤ b * b := Int.mul_le_mul (by omega) (by omega) (by omega) (by omega)
    omega
def okI (x : Int) : Bool := decide (x.natAbs ≤ 1000)
def fin34 (a b c : Int) : Bool :=
  !(okI (4 * (a * a * a * b)) && okI (4 * (a * a * a * c) + 6 * (a * a * b * b)) && okI (4 * (a * b * b * b) + 12 * (a * a * b * c)) && okI (b * b * b * b + 12 * (a * b * b * c) + 6 * (a * a * c * c)) && okI (4 * (b * b * b * c) + 12 * (a * b * c * c)) && okI (4 * (a * c * c * c) + 6 * (b * b * c * c)) && okI (4 * (b * c * c * c))) ||
  (okI (3 * (a * a * b)) && okI (3 * (a * a * c) + 3 * (a * b * b)) && okI (6 * a * b * c + b * b * b) && okI (3 * (a * c * c) + 3 * (b * b * c)) && okI (3 * (b * c * c)))
theorem fin_all : ((List.range 11).all fun a => (List.range 11).all fun c => (List.range 27).all fun b => fin34 ((a : Int) - 5) ((b : Int) - 13) ((c : Int) - 5)) = true := by decide +kernel
theorem fin_of {a b c : Int} (ha : -5 ≤ a ∧ a ≤ 5) (hc : -5 ≤ c ∧ c ≤ 5) (hb : -13 ≤ b ∧ b ≤ 13) : fin34 a b c = true := by
  have h := fin_all
  rw [List.all_eq_true] at h
  have h1 := h (a + 5).toNat (by simp; omega)
  rw [List.all_eq_true] at h1
  have h2 := h1 (c + 5).toNat (by simp; omega)
  rw [List.all_eq_true] at h2
  have h3 := h2 (b + 13).toNat (by simp; omega)
  rw [show (((a + 5).toNat : Nat) : Int) - 5 = a by omega, show (((c + 5).toNat : Nat) : Int) - 5 = c by omega, show (((b + 13).toNat : Nat) : Int) - 13 = b by omega] at h3
  exact h3
/-- what the program asks of a power's steps -/
def stepOkW (l : List Int) : Prop := l.length ≤ 9 ∧ ∀ x ∈ l, -1000000 ≤ x ∧ x ≤ 1000000
theorem okI_iff {x : Int} : okI x = true ↔ -1000 ≤ x ∧ x ≤ 1000 := by simp [okI]; omega
theorem m2 {x y A B : Int} (hx : -A ≤ x ∧ x ≤ A) (hy : -B ≤ y ∧ y ≤ B) (hA : 0 ≤ A) (hB : 0 ≤ B) : -(A * B) ≤ x * y ∧ x * y ≤ A * B := by
  have h : (x * y).natAbs ≤ A.toNat * B.toNat := by
    rw [Int.natAbs_mul]
    exact Nat.mul_le_mul (by omega) (by omega)
  have e : ((A.toNat * B.toNat : Nat) : Int) = A * B := by
    rw [Int.natCast_mul, Int.toNat_of_nonneg hA, Int.toNat_of_nonneg hB]
  omega
theorem cub5 {x : Int} (h : -5 ≤ x ∧ x ≤ 5) : -1000 ≤ x * x * x ∧ x * x * x ≤ 1000 := by
  have m1 := m2 (m2 h h (by omega) (by omega)) h (by omega) (by omega)
  omega
theorem pw_three {h : List Int} (hh : wts h = true) (hl : (pw h 3).length ≤ 9) (hk : wts (pw h 3) = true) : wts (pw h 2) = true := by
  have hne := wts_ne hh
  have l3 := pw_len hne 3
  rw [wts_iff] at hk
  match h, hh with
  | [a], _ =>
    rw [pw1_3] at hk
    rw [pw1_2, wts_iff]
    have := cubes (a := a) (b := 0) (c := 0) (by have := hk.2.2 (a * a * a) (by simp); omega) (by omega) (by omega)
    have m := m2 this.1 this.1 (by omega) (by omega)
    refine ⟨by simp, by simp, fun x hx => ?_⟩
    simp at hx
    subst hx
    omega
  | [a, b], _ =>
    rw [pw2_3] at hk
    rw [pw2_2, wts_iff]
    have h1 := hk.2.2 (a * a * a) (by simp)
    have h2 := hk.2.2 (b * b * b) (by simp)
    have := cubes (a := a) (b := 0) (c := b) (by omega) (by omega) (by omega)
    have m := m2 this.1 this.1 (by omega) (by omega)
    have m' := m2 this.1 this.2.1 (by omega) (by omega)
    have m'' := m2 this.2.1 this.2.1 (by omega) (by omega)
    refine ⟨by simp, by simp, fun x hx => ?_⟩
    simp at hx
    rcases hx with rfl | rfl | rfl <;> omega
  | [a, b, c], _ =>
    rw [pw3_3] at hk
    rw [pw3_2, wts_iff]
    have h1 := hk.2.2 (a * a * a) (by simp)
    have h2 := hk.2.2 (c * c * c) (by simp)
    have h3 := hk.2.2 (6 * a * b * c + b * b * b) (by simp)
    have := cubes (a := a) (b := b) (c := c) (by omega) (by omega) (by omega)
    have m1 := m2 this.1 this.1 (by omega) (by omega)
    have m2' := m2 this.1 this.2.1 (by omega) (by omega)
    have m3 := m2 this.2.1 this.2.1 (by omega) (by omega)
    have m4 := m2 this.1 this.2.2 (by omega) (by omega)
    have m5 := m2 this.2.2 this.2.1 (by omega) (by omega)
    have m6 := m2 this.2.2 this.2.2 (by omega) (by omega)
    refine ⟨by simp, by simp, fun x hx => ?_⟩
    simp at hx
    rcases hx with rfl | rfl | rfl | rfl | rfl <;> omega
  | a :: b :: c :: d :: t, _ =>
    simp at l3
    omega
theorem pw_four_1 {a : Int} (hk : 1 ≤ (pw [a] 4).length ∧ (pw [a] 4).length ≤ 9 ∧ ∀ x ∈ pw [a] 4, -1000 ≤ x ∧ x ≤ 1000) : wts (pw [a] 3) = true := by
  rw [pw1_4] at hk
  rw [pw1_3, wts_iff]
  have := fourth (x := a) (by have := hk.2.2 (a * a * a * a) (by simp); omega)
  have m := m2 (m2 this this (by omega) (by omega)) this (by omega) (by omega)
  refine ⟨by simp, by simp, fun x hx => ?_⟩
  simp at hx
  subst hx
  omega
theorem pw_four_2 {a b : Int} (hk : 1 ≤ (pw [a, b] 4).length ∧ (pw [a, b] 4).length ≤ 9 ∧ ∀ x ∈ pw [a, b] 4, -1000 ≤ x ∧ x ≤ 1000) : wts (pw [a, b] 3) = true := by
  rw [pw2_4] at hk
  rw [pw2_3, wts_iff]
  have ha := fourth (x := a) (by have := hk.2.2 (a * a * a * a) (by simp); omega)
  have hb := fourth (x := b) (by have := hk.2.2 (b * b * b * b) (by simp); omega)
  have m1 := m2 (m2 ha ha (by omega) (by omega)) ha (by omega) (by omega)
  have m2' := m2 (m2 ha ha (by omega) (by omega)) hb (by omega) (by omega)
  have m3 := m2 (m2 ha hb (by omega) (by omega)) hb (by omega) (by omega)
  have m4 := m2 (m2 hb hb (by omega) (by omega)) hb (by omega) (by omega)
  refine ⟨by simp, by simp, fun x hx => ?_⟩
  simp at hx
  rcases hx with rfl | rfl | rfl | rfl <;> omega
theorem pw_four_3 {a b c : Int} (hk : 1 ≤ (pw [a, b, c] 4).length ∧ (pw [a, b, c] 4).length ≤ 9 ∧ ∀ x ∈ pw [a, b, c] 4, -1000 ≤ x ∧ x ≤ 1000) : wts (pw [a, b, c] 3) = true := by
  obtain ⟨y1, y3, y4, y5, y7, e, e4, e3, e5, e1, e7⟩ := pw3_4 a b c
  rw [e] at hk
  rw [pw3_3, wts_iff]
  have ha := fourth (x := a) (by have := hk.2.2 (a * a * a * a) (by simp); omega)
  have hc := fourth (x := c) (by have := hk.2.2 (c * c * c * c) (by simp); omega)
  have h1 := hk.2.2 y1 (by simp)
  have h2 := hk.2.2 (4 * (a * a * a * c) + 6 * (a * a * b * b)) (by simp)
  have h3 := hk.2.2 y3 (by simp)
  have h4 := hk.2.2 y4 (by simp)
  have h5 := hk.2.2 y5 (by simp)
  have h6 := hk.2.2 (4 * (a * c * c * c) + 6 * (b * b * c * c)) (by simp)
  have h7 := hk.2.2 y7 (by simp)
  have hb : -13 ≤ b ∧ b ≤ 13 := by
    by_cases a0 : a = 0
    · by_cases c0 : c = 0
      · have : b * b * b * b ≤ 1000 := by
          rw [e4, a0, c0] at h4
          simp at h4
          omega
        have := fourth this
        omega
      · have e' : 4 * (a * c * c * c) + 6 * (b * b * c * c) = 4 * (c * c * c * a) + 6 * (c * c * b * b) := by grind
        exact mid13 hc ha c0 (by omega)
    · exact mid13 ha hc a0 h2.2
  have f := fin_of ha hc hb
  unfold fin34 at f
  rw [e1] at h1; rw [e3] at h3; rw [e4] at h4; rw [e5] at h5; rw [e7] at h7
  rw [okI_iff.2 h1, okI_iff.2 h2, okI_iff.2 h3, okI_iff.2 h4, okI_iff.2 h5, okI_iff.2 h6, okI_iff.2 h7] at f
  simp only [Bool.and_self, Bool.not_true, Bool.false_or, Bool.and_eq_true, okI_iff] at f
  obtain ⟨⟨⟨⟨f1, f2⟩, f3⟩, f4⟩, f5⟩ := f
  have g1 := cub5 ha
  have g2 := cub5 hc
  clear h1 h2 h3 h4 h5 h6 h7 hk e1 e3 e4 e5 e7 e
  refine ⟨by simp, by simp, fun x hx => ?_⟩
  simp only [List.mem_cons, List.not_mem_nil, or_false] at hx
  rcases hx with rfl | rfl | rfl | rfl | rfl | rfl | rfl <;> assumption
theorem pw_four {h : List Int} (hh : wts h = true) (hl : (pw h 4).length ≤ 9) (hk : wts (pw h 4) = true) : wts (pw h 3) = true := by
  have hne := wts_ne hh
  have l4 := pw_len hne 4
  rw [wts_iff] at hk
  rcases h with _ | ⟨a, _ | ⟨b, _ | ⟨c, _ | ⟨d, t⟩⟩⟩⟩
  · exact absurd rfl hne
  · exact pw_four_1 hk
  · exact pw_four_2 hk
  · exact pw_four_3 hk
  · simp only [List.length_cons] at l4
    omega
theorem pw_small : ([-1, 0, 1].all fun c => (List.range 9).all fun j => wts (pw [1, c] j)) = true := by decide +kernel
theorem pw_all {h : List Int} {k : Nat} (hh : wts h = true) (hk : k ≤ 4 ∨ k ≤ 8 ∧ ∃ c, (c = -1 ∨ c = 0 ∨ c = 1) ∧ h = [1, c]) (hw : wts (pw h k) = true) : ∀ j, j ≤ k → wts (pw h j) = true := by
  intro j hj
  rcases hk with hk | ⟨hk, c, hc, rfl⟩
  · have w0 : wts (pw h 0) = true := by
      show wts [1] = true
      decide
    have w1 : wts (pw h 1) = true := by
      show wts (conv [1] h) = true
      rw [conv_one (wts_ne hh)]
      exact hh
    have hl := (wts_iff.1 hw).2.1
    have hk' : k = 0 ∨ k = 1 ∨ k = 2 ∨ k = 3 ∨ k = 4 := by omega
    have hj' : j = 0 ∨ j = 1 ∨ j = 2 ∨ j = 3 ∨ j = 4 := by omega
    rcases hk' with rfl | rfl | rfl | rfl | rfl
    · obtain rfl : j = 0 := by omega
      exact w0
    · rcases hj' with rfl | rfl | rfl | rfl | rfl <;> first | assumption | omega
    · rcases hj' with rfl | rfl | rfl | rfl | rfl <;> first | assumption | omega
    · have w2 := pw_three hh hl hw
      rcases hj' with rfl | rfl | rfl | rfl | rfl <;> first | assumption | omega
    · have w3 := pw_four hh hl hw
      have w2 := pw_three hh (wts_iff.1 w3).2.1 w3
      rcases hj' with rfl | rfl | rfl | rfl | rfl <;> first | assumption | omega
  · have h := pw_small
    rw [List.all_eq_true] at h
    have h1 := h c (by simp; omega)
    rw [List.all_eq_true] at h1
    exact h1 j (by simp; omega)

theorem wt_prod {h s : List Int} {A B : Int} (hA : 0 ≤ A) (hB : 0 ≤ B) (hh : ∀ a ∈ h, -A ≤ a ∧ a ≤ A) (hs : ∀ x ∈ s, -B ≤ x ∧ x ≤ B) : ∀ a ∈ h, ∀ x ∈ s, -(A * B) ≤ a * x ∧ a * x ≤ A * B := by
  intro a ha x hx
  have h1 := hh a ha
  have h2 := hs x hx
  have h : (a * x).natAbs ≤ A.toNat * B.toNat := by
    rw [Int.natAbs_mul]
    exact Nat.mul_le_mul (by omega) (by omega)
  have e : ((A.toNat * B.toNat : Nat) : Int) = A * B := by
    rw [Int.natCast_mul, Int.toNat_of_nonneg hA, Int.toNat_of_nonneg hB]
  omega
theorem conv_len_le (h s : List Int) : (conv h s).length ≤ h.length + s.length := by
  by_cases c : s = []
  · rw [conv, if_pos c]; simp
  · rw [conv_length h s c]; omega

theorem spec_l1Own_eq (l : List Int) (hl : l.length ≤ 1000000) : spec_l1Own.f l = some l := by
  simp only [spec_l1Own.f, Option.bind_some]
  rw [if_pos (by simp; omega)]
  rfl

theorem shl_big {s : Nat} (h : s ≤ 62) : shl .i64 1 (s : Int) = 2 ^ s := by
  unfold shl
  have h1 : min ((s : Int)).toNat IntKind.i64.bits = s := by
    simp [IntKind.bits]; omega
  rw [h1, Int.one_mul, IntKind.wrap_i64]
  have g1 : (2 : Nat) ^ s ≤ 2 ^ 62 := Nat.pow_le_pow_right (by decide) h
  have g3 : (2 : Int) ^ s = (((2 : Nat) ^ s : Nat) : Int) := by simp
  have g2 : (2 : Nat) ^ 62 = 4611686018427387904 := by decide
  have g4 : 0 < (2 : Nat) ^ s := Nat.two_pow_pos s
  omega
theorem halfL {b : Int} (g : 2 ≤ b ∧ b ≤ 40) : (2 ≤ hf b ∧ hf b ≤ 549755813888) ∧ wrap64 (b - 1) = b - 1 ∧ 0 ≤ b - 1 ∧ shl .i64 1 (b - 1) = hf b ∧ 0 ≤ b ∧ shl .i64 1 b = 2 * hf b := by
  obtain ⟨n, rfl⟩ : ∃ n : Nat, b = ((n + 1 : Nat) : Int) := ⟨(b - 1).toNat, by omega⟩
  have e : ((n + 1 : Nat) : Int) - 1 = (n : Int) := by omega
  have eh : hf ((n + 1 : Nat) : Int) = 2 ^ n := by rw [hf, e, Int.toNat_natCast]
  have h1 : (2 : Nat) ^ n ≤ 2 ^ 39 := Nat.pow_le_pow_right (by decide) (by omega)
  have h2 : (2 : Nat) ^ 1 ≤ 2 ^ n := Nat.pow_le_pow_right (by decide) (by omega)
  have h3 : (2 : Int) ^ n = (((2 : Nat) ^ n : Nat) : Int) := by simp
  have h4 : (2 : Nat) ^ 39 = 549755813888 := by decide
  have h5 : (2 : Nat) ^ 1 = 2 := by decide
  rw [eh, e, shl_big (s := n) (by omega), shl_big (s := n + 1) (by omega), Int.pow_succ]
  refine ⟨⟨by omega, by omega⟩, w64 (by omega) (by omega), by omega, rfl, by omega, by omega⟩
theorem hf_mono {a b : Int} (h0 : 1 ≤ a) (h : a ≤ b) : hf a ≤ hf b := by
  have h1 : (2 : Nat) ^ (a - 1).toNat ≤ 2 ^ (b - 1).toNat := Nat.pow_le_pow_right (by decide) (by omega)
  have h3 : (2 : Int) ^ (a - 1).toNat = (((2 : Nat) ^ (a - 1).toNat : Nat) : Int) := by simp
  have h4 : (2 : Int) ^ (b - 1).toNat = (((2 : Nat) ^ (b - 1).toNat : Nat) : Int) := by simp
  unfold hf
  omega
theorem tmod_big (a n : Int) (hn : 0 < n) (hn2 : n ≤ 4000000000000) : Int.tmod (wrap64 (Int.tmod a n + n)) n = a % n := by
  have h0 := Int.emod_nonneg a (show n ≠ 0 by omega)
  have h1 := Int.emod_lt_of_pos a hn
  have e := Int.tmod_eq_emod (a := a) (b := n)
  have hb : Int.tmod a n = a % n ∨ Int.tmod a n = a % n - n := by
    rw [e]
    split
    · left; omega
    · right; omega
  rcases hb with hb | hb
  · rw [hb, w64 (n := a % n + n) (by omega) (by omega), Int.tmod_eq_emod_of_nonneg (by omega)]
    simp
  · rw [hb, Int.sub_add_cancel, w64 (n := a % n) (by omega) (by omega), Int.tmod_eq_emod_of_nonneg (by omega)]
    simp
theorem fit_two_eq {H x : Int} (hH : 1 ≤ H) : (if x % (2 * H) ≥ H then x % (2 * H) - 2 * H else x % (2 * H)) = fitH H true x := by
  rw [fitH_two H x hH]
  by_cases c : x % (2 * H) ≥ H
  · rw [if_pos c, if_pos (by omega)]
  · rw [if_neg c, if_neg (by omega)]

theorem impl_mod_big (a n : Int) (hn : 0 < n) (hn2 : n ≤ 4000000000000) : impl_mod.f a n = some (a % n) := by
  unfold impl_mod.f
  rw [if_neg (by omega), tmod_big a n hn hn2]
theorem impl_wrap_eq {b : Int} (x : Int) (g : 2 ≤ b ∧ b ≤ 40) (hx : -4000000000000000000 ≤ x ∧ x ≤ 4000000000000000000) : impl_wrap.f x b = some (fitH (hf b) true x) := by
  obtain ⟨h1, h2, h3, h4, h5, h6⟩ := halfL g
  have m0 := Int.emod_nonneg (x + hf b) (show 2 * hf b ≠ 0 by omega)
  have m1 := Int.emod_lt_of_pos (x + hf b) (show 0 < 2 * hf b by omega)
  unfold impl_wrap.f fitH
  rw [h2, if_pos h3, h4, if_pos rfl, w64 (n := x + hf b) (by omega) (by omega), w64 (n := 2 * hf b) (by omega) (by omega), impl_mod_big _ _ (by omega) (by omega)]
  simp only [Option.bind_some]
  rw [w64 (n := (x + hf b) % (2 * hf b) - hf b) (by omega) (by omega)]

theorem spec_cbWrap_eq {b : Int} (x : Int) (g : 2 ≤ b ∧ b ≤ 40) : spec_cbWrap.f x b = some (fitH (hf b) true x) := by
  obtain ⟨h1, h2, h3, h4, h5, h6⟩ := halfL g
  have m0 := Int.emod_nonneg x (show 2 * hf b ≠ 0 by omega)
  have m1 := Int.emod_lt_of_pos x (show 0 < 2 * hf b by omega)
  have hd : Int.tdiv (2 * hf b) 2 = hf b := by rw [Int.tdiv_eq_ediv_of_nonneg (by omega)]; omega
  unfold spec_cbWrap.f
  rw [if_pos h5, h6, if_neg (by omega), tmod_big _ _ (by omega) (by omega), hd, w64 (n := hf b) (by omega) (by omega), w64 (n := x % (2 * hf b) - 2 * hf b) (by omega) (by omega), ← fit_two_eq (by omega)]
  split <;> rfl

theorem laws_iWrap_eq {b : Int} (x : Int) (g : 2 ≤ b ∧ b ≤ 40) : laws_iWrap.f x b = some (fitH (hf b) true x) := by
  obtain ⟨h1, h2, h3, h4, h5, h6⟩ := halfL g
  have m0 := Int.emod_nonneg x (show 2 * hf b ≠ 0 by omega)
  have m1 := Int.emod_lt_of_pos x (show 0 < 2 * hf b by omega)
  have hd : Int.tdiv (2 * hf b) 2 = hf b := by rw [Int.tdiv_eq_ediv_of_nonneg (by omega)]; omega
  unfold laws_iWrap.f
  rw [if_pos h5, h6, if_neg (by omega), tmod_big _ _ (by omega) (by omega), hd, w64 (n := hf b) (by omega) (by omega), w64 (n := x % (2 * hf b) - 2 * hf b) (by omega) (by omega), ← fit_two_eq (by omega)]
  split <;> rfl

def sumE : Int → List Int → List Int
  | _, [] => []
  | a, x :: t => (a + x) :: sumE (a + x) t
def sumW (H : Int) : Int → List Int → List Int
  | _, [] => []
  | a, x :: t => fitH H true (a + x) :: sumW H (fitH H true (a + x)) t
def difL : Int → List Int → List Int
  | _, [] => []
  | p, x :: t => (x - p) :: difL x t
def fitL (H : Int) (l : List Int) : List Int := l.map (fitH H true)
theorem sumE_length : ∀ (l : List Int) (a : Int), (sumE a l).length = l.length
  | [], _ => rfl
  | x :: t, a => by simp [sumE, sumE_length t]
theorem sumW_length (H : Int) : ∀ (l : List Int) (a : Int), (sumW H a l).length = l.length
  | [], _ => rfl
  | x :: t, a => by simp [sumW, sumW_length H t]
theorem difL_length : ∀ (l : List Int) (p : Int), (difL p l).length = l.length
  | [], _ => rfl
  | x :: t, p => by simp [difL, difL_length t]
theorem fitL_length (H : Int) (l : List Int) : (fitL H l).length = l.length := by simp [fitL]
theorem fitL_mem {H : Int} (hH : 1 ≤ H) (l : List Int) : ∀ x ∈ fitL H l, -H ≤ x ∧ x ≤ H := by
  intro x hx
  simp only [fitL, List.mem_map] at hx
  obtain ⟨y, _, rfl⟩ := hx
  have := fitH_bd H true y hH
  omega
theorem sumW_eq (H : Int) : ∀ (l : List Int) (v a : Int), fitH H true v = fitH H true a → sumW H v l = fitL H (sumE a l)
  | [], _, _, _ => rfl
  | x :: t, v, a, h => by
    have e : fitH H true (v + x) = fitH H true (a + x) := by rw [← fitH_add, h, fitH_add]
    have ih := sumW_eq H t (fitH H true (v + x)) (a + x) (by rw [fit_fit, e])
    rw [sumW, ih, e]
    rfl
theorem gD_nil (n : Nat) : gD [] n = 0 := by simp [gD]
theorem gD_zero (x : Int) (t : List Int) : gD (x :: t) 0 = x := rfl
theorem gD_succ (x : Int) (t : List Int) (n : Nat) : gD (x :: t) (n + 1) = gD t n := by simp [gD]
theorem smz_cons (x : Int) (t : List Int) : ∀ n : Nat, smz (gD (x :: t)) (n + 1) = x + smz (gD t) n
  | 0 => by rw [smz, smz, smz, gD_zero, gD_succ]
  | n + 1 => by rw [smz, smz_cons x t n, smz, gD_succ]; omega
theorem gD_sumE : ∀ (l : List Int) (a : Int) (n : Nat), n < l.length → gD (sumE a l) n = a + smz (gD l) n
  | [], _, n, h => by simp at h
  | x :: t, a, 0, _ => by rw [sumE, gD_zero, smz, gD_zero]
  | x :: t, a, n + 1, h => by
    rw [sumE, gD_succ, gD_sumE t (a + x) n (by simp at h; omega), smz_cons]
    omega
theorem gD_difL : ∀ (l : List Int) (n : Nat), n < l.length → gD (difL 0 l) n = dfz (gD l) n := by
  have key : ∀ (l : List Int) (p : Int) (n : Nat), n + 1 < l.length → gD (difL p l) (n + 1) = gD l (n + 1) - gD l n := by
    intro l
    induction l with
    | nil => intro p n h; simp at h
    | cons x t ih =>
      intro p n h
      rw [difL, gD_succ, gD_succ]
      cases n with
      | zero =>
        cases t with
        | nil => simp at h
        | cons y u => rw [difL, gD_zero, gD_zero, gD_zero]
      | succ n => rw [ih x n (by simp at h; omega), gD_succ]
  intro l n h
  cases n with
  | zero =>
    cases l with
    | nil => simp at h
    | cons x t => rw [difL, gD_zero, dfz, gD_zero, Int.sub_zero]
  | succ n => rw [key l 0 n h, dfz]
theorem gD_fitL {H : Int} (hH : 1 ≤ H) (l : List Int) (n : Nat) : gD (fitL H l) n = fitH H true (gD l n) := by
  by_cases c : n < l.length
  · rw [gD_in _ n (by rw [fitL_length]; exact c), gD_in l n c]
    simp [fitL]
  · rw [gD_out _ n (by rw [fitL_length]; omega), gD_out l n (by omega), fitH_id H true 0 (by omega) (by omega)]
def WS (H : Int) : Nat → List Int → List Int
  | 0, l => l
  | k + 1, l => WS H k (fitL H (sumE 0 l))
def WC (H : Int) : Nat → List Int → List Int
  | 0, l => l
  | k + 1, l => WC H k (fitL H (difL 0 l))
theorem WS_length (H : Int) : ∀ (k : Nat) (l : List Int), (WS H k l).length = l.length
  | 0, _ => rfl
  | k + 1, l => by rw [WS, WS_length H k, fitL_length, sumE_length]
theorem WC_length (H : Int) : ∀ (k : Nat) (l : List Int), (WC H k l).length = l.length
  | 0, _ => rfl
  | k + 1, l => by rw [WC, WC_length H k, fitL_length, difL_length]
theorem gD_WS {H : Int} (hH : 1 ≤ H) : ∀ (k : Nat) (l : List Int) (n : Nat), n < l.length → fitH H true (gD (WS H k l) n) = fitH H true (itz smz k (gD l) n)
  | 0, _, _, _ => rfl
  | k + 1, l, n, h => by
    rw [WS, gD_WS hH k _ n (by rw [fitL_length, sumE_length]; exact h), itz]
    have e : ∀ i, i ≤ n → gD (fitL H (sumE 0 l)) i = (fun i => fitH H true (smz (gD l) i)) i := by
      intro i hi
      rw [gD_fitL hH, gD_sumE l 0 i (by omega), Int.zero_add]
    rw [itz_congr smz (fun n h => smz_congr n h) k _ _ n e]
    exact itz_fit H smz (fun n h => smz_congr n h) (smz_fit H) k (smz (gD l)) n
theorem gD_WC {H : Int} (hH : 1 ≤ H) : ∀ (k : Nat) (l : List Int) (n : Nat), n < l.length → fitH H true (gD (WC H k l) n) = fitH H true (itz dfz k (gD l) n)
  | 0, _, _, _ => rfl
  | k + 1, l, n, h => by
    rw [WC, gD_WC hH k _ n (by rw [fitL_length, difL_length]; exact h), itz]
    have e : ∀ i, i ≤ n → gD (fitL H (difL 0 l)) i = (fun i => fitH H true (dfz (gD l) i)) i := by
      intro i hi
      rw [gD_fitL hH, gD_difL l i (by omega)]
    rw [itz_congr dfz (fun n h => dfz_congr n h) k _ _ n e]
    exact itz_fit H dfz (fun n h => dfz_congr n h) (dfz_fit H) k (dfz (gD l)) n
theorem WS_fix {H : Int} (hH : 1 ≤ H) : ∀ (k : Nat) (l : List Int) (n : Nat), 1 ≤ k → n < l.length → fitH H true (gD (WS H k l) n) = gD (WS H k l) n
  | 0, _, _, h, _ => by omega
  | 1, l, n, _, h => by
    rw [WS, WS, gD_fitL hH, fit_fit]
  | k + 2, l, n, _, h => by
    rw [WS]
    exact WS_fix hH (k + 1) _ n (by omega) (by rw [fitL_length, sumE_length]; exact h)
theorem WC_fix {H : Int} (hH : 1 ≤ H) : ∀ (k : Nat) (l : List Int) (n : Nat), 1 ≤ k → n < l.length → fitH H true (gD (WC H k l) n) = gD (WC H k l) n
  | 0, _, _, h, _ => by omega
  | 1, l, n, _, h => by
    rw [WC, WC, gD_fitL hH, fit_fit]
  | k + 2, l, n, _, h => by
    rw [WC]
    exact WC_fix hH (k + 1) _ n (by omega) (by rw [fitL_length, difL_length]; exact h)

def boxL (R : Nat) : List Int := List.replicate R 1
theorem boxL_ne {R : Nat} (h : 1 ≤ R) : boxL R ≠ [] := by
  intro e
  have := congrArg List.length e
  simp [boxL] at this
  omega
theorem box_all : ((List.range 9).all fun R => (List.range 5).all fun k => R == 0 || ((pw (boxL R) k).all (fun x => decide (0 ≤ x) && decide (x ≤ 4096)) && decide ((pw (boxL R) k).length ≤ 29))) = true := by decide +kernel
theorem box_ok {R k : Nat} (hR : 1 ≤ R) (hR8 : R ≤ 8) (hk : k ≤ 4) : (∀ x ∈ pw (boxL R) k, 0 ≤ x ∧ x ≤ 4096) ∧ (pw (boxL R) k).length ≤ 29 := by
  have h := box_all
  rw [List.all_eq_true] at h
  have h1 := h R (by simp; omega)
  rw [List.all_eq_true] at h1
  have h2 := h1 k (by simp; omega)
  simp only [Bool.or_eq_true, beq_iff_eq, Bool.and_eq_true, List.all_eq_true, decide_eq_true_eq] at h2
  rcases h2 with h2 | h2
  · omega
  · exact ⟨h2.1, h2.2⟩
theorem cvf_pw {R : Nat} (hR : 1 ≤ R) : ∀ (k : Nat) (s : List Int) (n : Nat), s ≠ [] → cvf (pw (boxL R) k) (gD s) n = itz (cvf (boxL R)) k (gD s) n
  | 0, s, n, _ => by cases n <;> simp [pw, cvf, itz]
  | k + 1, s, n, hs => by
    rw [pw, cvf_conv (boxL_ne hR) (gD s) n s (fun _ => rfl), itz]
    have e : ∀ i, cvf (boxL R) (gD s) i = gD (conv (boxL R) s) i := fun i => (gD_conv _ _ i hs).symm
    rw [cvf_congr (g := gD (conv (boxL R) s)) _ n (fun i _ => e i), cvf_pw hR k _ n (conv_ne (boxL_ne hR) hs)]
    exact (itz_congr (cvf (boxL R)) (fun n h => cvf_congr _ n h) k _ _ n (fun i _ => e i)).symm
theorem impl_comb_l0 {R : Nat} (hR : 1 ≤ R) (hR8 : R ≤ 8) (K : Nat) (hK : K ≤ 4) : ∀ (d i : Nat), i + d = K → Ev (fun k => impl_comb.l0 k (R : Int) (pw (boxL R) i) (K : Int) (i : Int)) (pw (boxL R) K)
  | 0, i, h => by
    obtain rfl : i = K := by omega
    exact Ev.step (fun k => by simp only [impl_comb.l0]; rfl) (Ev.ff (by omega) (Ev.now _))
  | d + 1, i, h => by
    have e3 : wrap64 ((i : Int) + 1) = ((i + 1 : Nat) : Int) := by rw [w64 (n := (i : Int) + 1) (by omega) (by omega)]; omega
    have hb := box_ok hR hR8 (show i ≤ 4 by omega)
    have hrep : slices_Repeat_int_int.f [1] (R : Int) = some (boxL R) := by
      unfold slices_Repeat_int_int.f
      rw [if_pos (show [(1 : Int)].length = 1 from rfl), if_pos (by omega), if_pos (by omega), Int.toNat_natCast]
      rfl
    have hbox : ∀ x ∈ boxL R, -1 ≤ x ∧ x ≤ 1 := by
      intro x hx
      rw [List.eq_of_mem_replicate hx]
      exact ⟨by decide, by decide⟩
    have hbl : (boxL R).length = R := by simp [boxL]
    have hA := impl_answer_ev (pw (boxL R) i) (boxL R) (4096 * 1) (by omega) (by omega) (by omega) (wt_prod (by omega) (by omega) (fun x hx => by have := hb.1 x hx; omega) hbox) (by omega)
    refine Ev.step (fun k => by simp only [impl_comb.l0]; rfl) (Ev.tt (by omega) (Ev.dbind hrep (Ev.bind hA ?_)))
    rw [e3]
    exact impl_comb_l0 hR hR8 K hK d (i + 1) (by omega)
theorem impl_comb_ev {R K : Nat} (hR : 1 ≤ R) (hR8 : R ≤ 8) (hK : K ≤ 4) : Ev (fun k => impl_comb.f k (K : Int) (R : Int)) (pw (boxL R) K) := by
  simp only [impl_comb.f]
  exact impl_comb_l0 hR hR8 K hK K 0 (by omega)

theorem spec_cbBox_l1 {R : Nat} (hR8 : R ≤ 8) (K i : Int) (o r : List Int) (hend : Ev (fun k => (spec_weAnswer.f k (boxL R) o).bind fun t => spec_cbBox.l0 k K (R : Int) t (wrap64 (i + 1))) r) : ∀ (d j : Nat), j + d = R → Ev (fun k => spec_cbBox.l1 k K (R : Int) o i (List.replicate j 1 ++ List.replicate d 0) (R : Int) (j : Int)) r
  | 0, j, h => by
    obtain rfl : j = R := by omega
    refine Ev.step (fun k => by simp only [spec_cbBox.l1]; rfl) (Ev.ff (by omega) ?_)
    have e : List.replicate j (1 : Int) ++ List.replicate 0 0 = boxL j := by simp [boxL]
    rw [e]
    exact hend
  | d + 1, j, h => by
    have e3 : wrap64 ((j : Int) + 1) = ((j + 1 : Nat) : Int) := by rw [w64 (n := (j : Int) + 1) (by omega) (by omega)]; omega
    have e4 : (List.replicate j (1 : Int) ++ List.replicate (d + 1) 0).set ((j : Int)).toNat 1 = List.replicate (j + 1) 1 ++ List.replicate d 0 := by
      rw [Int.toNat_natCast, List.set_append_right _ _ (by simp), List.length_replicate, Nat.sub_self, List.replicate_succ, List.set_cons_zero, List.replicate_succ', List.append_assoc]
      rfl
    refine Ev.step (fun k => by simp only [spec_cbBox.l1]; rfl) ?_
    rw [e3, e4]
    exact Ev.tt (by omega) (Ev.tt (Int.natCast_nonneg _) (Ev.tt (by simp; omega) (spec_cbBox_l1 hR8 K i o r hend d (j + 1) (by omega))))
theorem spec_cbBox_l0 {R : Nat} (hR : 1 ≤ R) (hR8 : R ≤ 8) (K : Nat) (hK : K ≤ 4) : ∀ (d i : Nat), i + d = K → Ev (fun k => spec_cbBox.l0 k (K : Int) (R : Int) (pw (boxL R) i) (i : Int)) (pw (boxL R) K)
  | 0, i, h => by
    obtain rfl : i = K := by omega
    exact Ev.step (fun k => by simp only [spec_cbBox.l0]; rfl) (Ev.ff (by omega) (Ev.now _))
  | d + 1, i, h => by
    have e3 : wrap64 ((i : Int) + 1) = ((i + 1 : Nat) : Int) := by rw [w64 (n := (i : Int) + 1) (by omega) (by omega)]; omega
    have hb := box_ok hR hR8 (show i ≤ 4 by omega)
    have hbox : ∀ x ∈ boxL R, -1 ≤ x ∧ x ≤ 1 := by
      intro x hx
      rw [List.eq_of_mem_replicate hx]
      exact ⟨by decide, by decide⟩
    have hbl : (boxL R).length = R := by simp [boxL]
    have hA := spec_weAnswer_ev (boxL R) (pw (boxL R) i) (1 * 4096) (by omega) (by omega) (by omega) (wt_prod (by omega) (by omega) hbox (fun x hx => by have := hb.1 x hx; omega)) (by omega)
    have ec : conv (boxL R) (pw (boxL R) i) = pw (boxL R) (i + 1) := conv_comm (boxL_ne hR) (pw_ne (boxL_ne hR) i)
    rw [ec] at hA
    refine Ev.step (fun k => by simp only [spec_cbBox.l0]; rfl) (Ev.tt (by omega) (Ev.tt (by omega) (Ev.tt (by omega) (Ev.dbind rfl ?_))))
    rw [Int.toNat_natCast, List.length_replicate]
    have h1 := spec_cbBox_l1 hR8 (K : Int) (i : Int) (pw (boxL R) i) (pw (boxL R) K) (Ev.bind hA (by rw [e3]; exact spec_cbBox_l0 hR hR8 K hK d (i + 1) (by omega))) R 0 (by omega)
    simpa using h1
theorem spec_cbBox_ev {R K : Nat} (hR : 1 ≤ R) (hR8 : R ≤ 8) (hK : K ≤ 4) : Ev (fun k => spec_cbBox.f k (K : Int) (R : Int)) (pw (boxL R) K) := by
  simp only [spec_cbBox.f]
  exact spec_cbBox_l0 hR hR8 K hK K 0 (by omega)

def okB (l : List Int) : Prop := l.length ≤ 1000 ∧ ∀ x ∈ l, -1000000000000 ≤ x ∧ x ≤ 1000000000000
theorem fitL_okB {b : Int} (g : 2 ≤ b ∧ b ≤ 40) {l : List Int} (h : l.length ≤ 1000) : okB (fitL (hf b) l) := by
  obtain ⟨h1, -⟩ := halfL g
  refine ⟨by rw [fitL_length]; exact h, fun x hx => ?_⟩
  have := fitL_mem (by omega) l x hx
  omega
theorem WS_okB {b : Int} (g : 2 ≤ b ∧ b ≤ 40) : ∀ (k : Nat) (l : List Int), okB l → okB (WS (hf b) k l)
  | 0, _, h => h
  | k + 1, l, h => WS_okB g k _ (fitL_okB g (by rw [sumE_length]; exact h.1))
theorem WC_okB {b : Int} (g : 2 ≤ b ∧ b ≤ 40) : ∀ (k : Nat) (l : List Int), okB l → okB (WC (hf b) k l)
  | 0, _, h => h
  | k + 1, l, h => WC_okB g k _ (fitL_okB g (by rw [difL_length]; exact h.1))
theorem sig_okB {l : List Int} (h : sig l = true) : okB l := by
  have h1 := sig_len h
  refine ⟨by omega, fun x hx => ?_⟩
  have := sig_mem h x hx
  omega
theorem dropM_okB {l : List Int} (h : okB l) {R : Nat} (hR : 1 ≤ R) (f : Nat) : okB (dropM l R f) := by
  constructor
  · have := dropN_le (len := l.length) (first := f) hR
    have := h.1
    rw [dropM_length]
    omega
  · intro x hx
    simp only [dropM, Lf, List.mem_map] at hx
    obtain ⟨j, _, rfl⟩ := hx
    exact getD_all (M := 1000000000000) (by omega) h.2 _
theorem stuffM_mem (p : Nat) : ∀ (l : List Int) (x : Int), x ∈ stuffM p l → x = 0 ∨ x ∈ l
  | [], x, h => by simp [stuffM] at h
  | y :: t, x, h => by
    simp only [stuffM, List.mem_append, List.mem_cons, List.mem_replicate] at h
    rcases h with (h | h) | h
    · exact Or.inr (by simp [h])
    · exact Or.inl h.2
    · rcases stuffM_mem p t x h with h | h
      · exact Or.inl h
      · exact Or.inr (by simp [h])
theorem difL_bd : ∀ (l : List Int) (a : Int), (-1000000000000 ≤ a ∧ a ≤ 1000000000000) → (∀ x ∈ l, -1000000000000 ≤ x ∧ x ≤ 1000000000000) → ∀ y ∈ difL a l, -2000000000000 ≤ y ∧ y ≤ 2000000000000
  | [], _, _, _, y, hy => by simp [difL] at hy
  | x :: t, a, ha, h, y, hy => by
    have hx := h x (by simp)
    simp only [difL, List.mem_cons] at hy
    rcases hy with rfl | hy
    · omega
    · exact difL_bd t x hx (fun z hz => h z (by simp [hz])) y hy

theorem spec_wdSums_l0 {l : List Int} (hl : okB l) : ∀ (t p q : List Int) (a : Int), l = p ++ t → q.length = p.length → -(1000000000000 * (p.length : Int)) ≤ a → a ≤ 1000000000000 * (p.length : Int) → Ev (fun k => spec_wdSums.l0 k q a l (l.length : Int) (p.length : Int)) (q ++ sumE a t)
  | [], p, q, a, h, hq, _, _ => by
    subst h
    refine Ev.step (fun k => by simp only [spec_wdSums.l0]; rfl) ?_
    refine Ev.ff (by simp) ?_
    exact Ev.to (Ev.now _) (by simp [sumE])
  | x :: t, p, q, a, h, hq, h0, h1 => by
    have e1 : (p.length : Int) < (l.length : Int) := by rw [h]; exact lt_mid p t x
    have e2 : rd l (p.length : Int) = x := by rw [h]; exact rd_mid p t x
    have hp : p.length ≤ 1000 := by have := hl.1; omega
    have e3 : wrap64 ((p.length : Int) + 1) = ((p ++ [x]).length : Int) := w64_suc p x (by omega)
    have hx := hl.2 x (by rw [h]; simp)
    have e4 : wrap64 (a + x) = a + x := w64 (by omega) (by omega)
    have ih := spec_wdSums_l0 hl t (p ++ [x]) (q ++ [a + x]) (a + x) (by simp [h]) (by simp [hq]) (by simp; omega) (by simp; omega)
    rw [List.append_assoc] at ih
    refine Ev.step (fun k => by simp only [spec_wdSums.l0]; rfl) ?_
    rw [e2, e3, e4]
    exact Ev.tt e1 (Ev.tt (Int.natCast_nonneg _) (Ev.tt e1 (Ev.tt (by omega) ih)))
theorem spec_wdSums_ev {l : List Int} (hl : okB l) : Ev (fun k => spec_wdSums.f k l) (sumE 0 l) := by
  simp only [spec_wdSums.f]
  exact spec_wdSums_l0 hl l [] [] 0 rfl rfl (by simp) (by simp)

theorem spec_wdDiff_l0 {l : List Int} (hl : okB l) : ∀ (t p q : List Int) (a : Int), l = p ++ t → q.length = p.length → (-1000000000000 ≤ a ∧ a ≤ 1000000000000) → Ev (fun k => spec_wdDiff.l0 k q a l (l.length : Int) (p.length : Int)) (q ++ difL a t)
  | [], p, q, a, h, hq, _ => by
    subst h
    refine Ev.step (fun k => by simp only [spec_wdDiff.l0]; rfl) ?_
    refine Ev.ff (by simp) ?_
    exact Ev.to (Ev.now _) (by simp [difL])
  | x :: t, p, q, a, h, hq, h0 => by
    have e1 : (p.length : Int) < (l.length : Int) := by rw [h]; exact lt_mid p t x
    have e2 : rd l (p.length : Int) = x := by rw [h]; exact rd_mid p t x
    have hp : p.length ≤ 1000 := by have := hl.1; omega
    have e3 : wrap64 ((p.length : Int) + 1) = ((p ++ [x]).length : Int) := w64_suc p x (by omega)
    have hx := hl.2 x (by rw [h]; simp)
    have e4 : wrap64 (x - a) = x - a := w64 (by omega) (by omega)
    have ih := spec_wdDiff_l0 hl t (p ++ [x]) (q ++ [x - a]) x (by simp [h]) (by simp [hq]) hx
    rw [List.append_assoc] at ih
    refine Ev.step (fun k => by simp only [spec_wdDiff.l0]; rfl) ?_
    rw [e2, e3, e4]
    exact Ev.tt e1 (Ev.tt (Int.natCast_nonneg _) (Ev.tt e1 (Ev.tt (by omega) ih)))
theorem spec_wdDiff_ev {l : List Int} (hl : okB l) : Ev (fun k => spec_wdDiff.f k l) (difL 0 l) := by
  simp only [spec_wdDiff.f]
  exact spec_wdDiff_l0 hl l [] [] 0 rfl rfl (by omega)

theorem spec_cbWrapAll_l0 {b : Int} (g : 2 ≤ b ∧ b ≤ 40) {l : List Int} (hl : l.length ≤ 1000) : ∀ (t p q : List Int), l = p ++ t → q.length = p.length → Ev (fun k => spec_cbWrapAll.l0 k b q l (l.length : Int) (p.length : Int)) (q ++ fitL (hf b) t)
  | [], p, q, h, hq => by
    subst h
    refine Ev.step (fun k => by simp only [spec_cbWrapAll.l0]; rfl) ?_
    refine Ev.ff (by simp) ?_
    exact Ev.to (Ev.now _) (by simp [fitL])
  | x :: t, p, q, h, hq => by
    have e1 : (p.length : Int) < (l.length : Int) := by rw [h]; exact lt_mid p t x
    have e2 : rd l (p.length : Int) = x := by rw [h]; exact rd_mid p t x
    have hp : p.length ≤ 1000 := by omega
    have e3 : wrap64 ((p.length : Int) + 1) = ((p ++ [x]).length : Int) := w64_suc p x (by omega)
    have ih := spec_cbWrapAll_l0 g hl t (p ++ [x]) (q ++ [fitH (hf b) true x]) (by simp [h]) (by simp [hq])
    rw [List.append_assoc] at ih
    refine Ev.step (fun k => by simp only [spec_cbWrapAll.l0]; rfl) ?_
    rw [e2, e3]
    exact Ev.tt e1 (Ev.tt (Int.natCast_nonneg _) (Ev.tt e1 (Ev.dbind (spec_cbWrap_eq x g) (Ev.tt (by omega) ih))))
theorem spec_cbWrapAll_ev {b : Int} (g : 2 ≤ b ∧ b ≤ 40) {l : List Int} (hl : l.length ≤ 1000) : Ev (fun k => spec_cbWrapAll.f k l b) (fitL (hf b) l) := by
  simp only [spec_cbWrapAll.f]
  exact spec_cbWrapAll_l0 g hl l [] [] rfl rfl

theorem spec_cbSums_l0 {b : Int} (g : 2 ≤ b ∧ b ≤ 40) (K : Nat) (hK : K ≤ 4) : ∀ (d i : Nat) (l : List Int), i + d = K → okB l → Ev (fun k => spec_cbSums.l0 k l b (K : Int) (i : Int)) (WS (hf b) d l)
  | 0, i, l, h, _ => by
    obtain rfl : i = K := by omega
    refine Ev.step (fun k => by simp only [spec_cbSums.l0]; rfl) ?_
    exact Ev.ff (by omega) (Ev.now _)
  | d + 1, i, l, h, hl => by
    have e3 : wrap64 ((i : Int) + 1) = ((i + 1 : Nat) : Int) := by rw [w64 (n := (i : Int) + 1) (by omega) (by omega)]; omega
    have hn : (sumE 0 l).length ≤ 1000 := by rw [sumE_length]; exact hl.1
    refine Ev.step (fun k => by simp only [spec_cbSums.l0]; rfl) ?_
    rw [e3]
    exact Ev.tt (by omega) (Ev.bind (spec_wdSums_ev hl) (Ev.bind (spec_cbWrapAll_ev g hn) (spec_cbSums_l0 g K hK d (i + 1) _ (by omega) (fitL_okB g hn))))
theorem spec_cbSums_ev {b : Int} (g : 2 ≤ b ∧ b ≤ 40) {K : Nat} (hK : K ≤ 4) {l : List Int} (hl : okB l) : Ev (fun k => spec_cbSums.f k l b (K : Int)) (WS (hf b) K l) := by
  simp only [spec_cbSums.f]
  exact spec_cbSums_l0 g K hK K 0 l (by omega) hl

theorem spec_cbCombs_l0 {b : Int} (g : 2 ≤ b ∧ b ≤ 40) (K : Nat) (hK : K ≤ 4) : ∀ (d i : Nat) (l : List Int), i + d = K → okB l → Ev (fun k => spec_cbCombs.l0 k l b (K : Int) (i : Int)) (WC (hf b) d l)
  | 0, i, l, h, _ => by
    obtain rfl : i = K := by omega
    refine Ev.step (fun k => by simp only [spec_cbCombs.l0]; rfl) ?_
    exact Ev.ff (by omega) (Ev.now _)
  | d + 1, i, l, h, hl => by
    have e3 : wrap64 ((i : Int) + 1) = ((i + 1 : Nat) : Int) := by rw [w64 (n := (i : Int) + 1) (by omega) (by omega)]; omega
    have hn : (difL 0 l).length ≤ 1000 := by rw [difL_length]; exact hl.1
    refine Ev.step (fun k => by simp only [spec_cbCombs.l0]; rfl) ?_
    rw [e3]
    exact Ev.tt (by omega) (Ev.bind (spec_wdDiff_ev hl) (Ev.bind (spec_cbWrapAll_ev g hn) (spec_cbCombs_l0 g K hK d (i + 1) _ (by omega) (fitL_okB g hn))))
theorem spec_cbCombs_ev {b : Int} (g : 2 ≤ b ∧ b ≤ 40) {K : Nat} (hK : K ≤ 4) {l : List Int} (hl : okB l) : Ev (fun k => spec_cbCombs.f k l b (K : Int)) (WC (hf b) K l) := by
  simp only [spec_cbCombs.f]
  exact spec_cbCombs_l0 g K hK K 0 l (by omega) hl

theorem sClone_eq (l : List Int) (hl : l.length ≤ 1000000) : slices_Clone_int_int.f l = some l := by
  unfold slices_Clone_int_int.f
  simp only [Option.bind_some, List.length_nil, List.nil_append, Nat.zero_add]
  rw [if_pos (by omega)]

theorem impl_wSums_l1 {b : Int} (g : 2 ≤ b ∧ b ≤ 40) (K i : Int) {r : List Int} (n : Nat) (hn : n ≤ 1000) : ∀ (t q : List Int) (v : Int), q.length + t.length = n → (∀ x ∈ t, -1000000000000 ≤ x ∧ x ≤ 1000000000000) → -hf b ≤ v → v ≤ hf b → Ev (fun k => impl_wrappedSums.l0 k b (q ++ sumW (hf b) v t) K (wrap64 (i + 1))) r → Ev (fun k => impl_wrappedSums.l1 k b (q ++ t) v K i (n : Int) (q.length : Int)) r
  | [], q, v, h, _, _, _, hr => by
    simp only [List.length_nil] at h
    refine Ev.step (fun k => by simp only [impl_wrappedSums.l1]; rfl) ?_
    exact Ev.ff (by omega) (by simpa [sumW] using hr)
  | x :: t, q, v, h, hx, h0, h1, hr => by
    obtain ⟨hb, -⟩ := halfL g
    have e1 : (q.length : Int) < ((q ++ x :: t).length : Int) := lt_mid q t x
    have e2 : rd (q ++ x :: t) (q.length : Int) = x := rd_mid q t x
    simp only [List.length_cons] at h
    have hx0 := hx x (by simp)
    have e4 : wrap64 (v + x) = v + x := w64 (by omega) (by omega)
    have hv := fitH_bd (hf b) true (v + x) (by omega)
    have e3 : wrap64 ((q.length : Int) + 1) = ((q ++ [fitH (hf b) true (v + x)]).length : Int) := w64_suc q _ (by omega)
    have e5 : (q ++ x :: t).set ((q.length : Int)).toNat (fitH (hf b) true (v + x)) = (q ++ [fitH (hf b) true (v + x)]) ++ t := by
      rw [Int.toNat_natCast, List.set_append_right _ _ (Nat.le_refl _), Nat.sub_self, List.set_cons_zero, List.append_assoc]
      rfl
    have ih := impl_wSums_l1 g K i n hn t (q ++ [fitH (hf b) true (v + x)]) (fitH (hf b) true (v + x)) (by simp; omega) (fun y hy => hx y (by simp [hy])) (by omega) (by omega) (by rw [List.append_assoc]; exact hr)
    refine Ev.step (fun k => by simp only [impl_wrappedSums.l1]; rfl) ?_
    rw [e2, e3, e4]
    refine Ev.tt (by omega) (Ev.tt (Int.natCast_nonneg _) (Ev.tt e1 (Ev.dbind (impl_wrap_eq (v + x) g (by omega)) ?_)))
    rw [e5]
    exact ih
theorem impl_wSums_l0 {b : Int} (g : 2 ≤ b ∧ b ≤ 40) (K : Nat) (hK : K ≤ 4) : ∀ (d i : Nat) (l : List Int), i + d = K → okB l → Ev (fun k => impl_wrappedSums.l0 k b l (K : Int) (i : Int)) (WS (hf b) d l)
  | 0, i, l, h, _ => by
    obtain rfl : i = K := by omega
    refine Ev.step (fun k => by simp only [impl_wrappedSums.l0]; rfl) ?_
    exact Ev.ff (by omega) (Ev.now _)
  | d + 1, i, l, h, hl => by
    obtain ⟨hb, -⟩ := halfL g
    have e3 : wrap64 ((i : Int) + 1) = ((i + 1 : Nat) : Int) := by rw [w64 (n := (i : Int) + 1) (by omega) (by omega)]; omega
    have hn : (sumE 0 l).length ≤ 1000 := by rw [sumE_length]; exact hl.1
    have ih := impl_wSums_l0 g K hK d (i + 1) _ (by omega) (fitL_okB g hn)
    have h1 := impl_wSums_l1 g (K : Int) (i : Int) (r := WS (hf b) (d + 1) l) l.length hl.1 l [] 0 (by simp) hl.2 (by omega) (by omega) (by rw [e3, List.nil_append, sumW_eq (hf b) l 0 0 rfl]; exact ih)
    refine Ev.step (fun k => by simp only [impl_wrappedSums.l0]; rfl) ?_
    exact Ev.tt (by omega) h1
theorem impl_wSums_ev {b : Int} (g : 2 ≤ b ∧ b ≤ 40) {K : Nat} (hK : K ≤ 4) {l : List Int} (hl : okB l) : Ev (fun k => impl_wrappedSums.f k l b (K : Int)) (WS (hf b) K l) := by
  simp only [impl_wrappedSums.f]
  exact Ev.dbind (sClone_eq l (by have := hl.1; omega)) (impl_wSums_l0 g K hK K 0 l (by omega) hl)

theorem impl_diff_l0 {l : List Int} (hl : okB l) : ∀ (t p q : List Int) (a : Int), l = p ++ t → q.length = p.length → (-1000000000000 ≤ a ∧ a ≤ 1000000000000) → impl_at.f l (wrap64 ((p.length : Int) - 1)) = some a → Ev (fun k => impl_differences.l0 k l q l (l.length : Int) (p.length : Int)) (q ++ difL a t)
  | [], p, q, a, h, hq, _, _ => by
    subst h
    refine Ev.step (fun k => by simp only [impl_differences.l0]; rfl) ?_
    refine Ev.ff (by simp) ?_
    exact Ev.to (Ev.now _) (by simp [difL])
  | x :: t, p, q, a, h, hq, h0, ha => by
    have e1 : (p.length : Int) < (l.length : Int) := by rw [h]; exact lt_mid p t x
    have e2 : rd l (p.length : Int) = x := by rw [h]; exact rd_mid p t x
    have hp : p.length ≤ 1000 := by have := hl.1; omega
    have e3 : wrap64 ((p.length : Int) + 1) = ((p ++ [x]).length : Int) := w64_suc p x (by omega)
    have hx := hl.2 x (by rw [h]; simp)
    have e4 : wrap64 (x - a) = x - a := w64 (by omega) (by omega)
    have hat : impl_at.f l (wrap64 (((p ++ [x]).length : Int) - 1)) = some x := by
      have e : ((p ++ [x]).length : Int) - 1 = (p.length : Int) := by simp
      have e' := e2
      rw [rd_getD] at e'
      rw [e, w64 (n := (p.length : Int)) (by omega) (by omega), impl_at_eq l _ (by have := hl.1; omega), if_pos (Int.natCast_nonneg _), Int.toNat_natCast, e']
    have ih := impl_diff_l0 hl t (p ++ [x]) (q ++ [x - a]) x (by simp [h]) (by simp [hq]) hx hat
    rw [List.append_assoc] at ih
    refine Ev.step (fun k => by simp only [impl_differences.l0]; rfl) ?_
    rw [e2, e3]
    refine Ev.tt e1 (Ev.tt (Int.natCast_nonneg _) (Ev.tt e1 (Ev.dbind ha ?_)))
    rw [e4]
    exact Ev.tt (by omega) ih
theorem impl_diff_ev {l : List Int} (hl : okB l) : Ev (fun k => impl_differences.f k l) (difL 0 l) := by
  simp only [impl_differences.f]
  exact impl_diff_l0 hl l [] [] 0 rfl rfl (by omega) (by rw [impl_at_eq l _ (by have := hl.1; omega), if_neg (by simp only [List.length_nil]; unfold wrap64; omega)])

theorem impl_wCombs_l1 {b : Int} (g : 2 ≤ b ∧ b ≤ 40) (K i : Int) {r : List Int} (n : Nat) (hn : n ≤ 1000) : ∀ (t q : List Int), q.length + t.length = n → (∀ x ∈ t, -2000000000000 ≤ x ∧ x ≤ 2000000000000) → Ev (fun k => impl_wrappedCombs.l0 k b (q ++ fitL (hf b) t) K (wrap64 (i + 1))) r → Ev (fun k => impl_wrappedCombs.l1 k b (q ++ t) K i (n : Int) (q.length : Int)) r
  | [], q, h, _, hr => by
    simp only [List.length_nil] at h
    refine Ev.step (fun k => by simp only [impl_wrappedCombs.l1]; rfl) ?_
    exact Ev.ff (by omega) (by simpa [fitL] using hr)
  | x :: t, q, h, hx, hr => by
    obtain ⟨hb, -⟩ := halfL g
    have e1 : (q.length : Int) < ((q ++ x :: t).length : Int) := lt_mid q t x
    have e2 : rd (q ++ x :: t) (q.length : Int) = x := rd_mid q t x
    simp only [List.length_cons] at h
    have hx0 := hx x (by simp)
    have e3 : wrap64 ((q.length : Int) + 1) = ((q ++ [fitH (hf b) true x]).length : Int) := w64_suc q _ (by omega)
    have e5 : (q ++ x :: t).set ((q.length : Int)).toNat (fitH (hf b) true x) = (q ++ [fitH (hf b) true x]) ++ t := by
      rw [Int.toNat_natCast, List.set_append_right _ _ (Nat.le_refl _), Nat.sub_self, List.set_cons_zero, List.append_assoc]
      rfl
    have ih := impl_wCombs_l1 g K i n hn t (q ++ [fitH (hf b) true x]) (by simp; omega) (fun y hy => hx y (by simp [hy])) (by rw [List.append_assoc]; exact hr)
    refine Ev.step (fun k => by simp only [impl_wrappedCombs.l1]; rfl) ?_
    rw [e2, e3]
    refine Ev.tt (by omega) (Ev.tt (Int.natCast_nonneg _) (Ev.tt e1 (Ev.dbind (impl_wrap_eq x g (by omega)) ?_)))
    rw [e5]
    exact ih
theorem impl_wCombs_l0 {b : Int} (g : 2 ≤ b ∧ b ≤ 40) (K : Nat) (hK : K ≤ 4) : ∀ (d i : Nat) (l : List Int), i + d = K → okB l → Ev (fun k => impl_wrappedCombs.l0 k b l (K : Int) (i : Int)) (WC (hf b) d l)
  | 0, i, l, h, _ => by
    obtain rfl : i = K := by omega
    refine Ev.step (fun k => by simp only [impl_wrappedCombs.l0]; rfl) ?_
    exact Ev.ff (by omega) (Ev.now _)
  | d + 1, i, l, h, hl => by
    have e3 : wrap64 ((i : Int) + 1) = ((i + 1 : Nat) : Int) := by rw [w64 (n := (i : Int) + 1) (by omega) (by omega)]; omega
    have hn : (difL 0 l).length ≤ 1000 := by rw [difL_length]; exact hl.1
    have ih := impl_wCombs_l0 g K hK d (i + 1) _ (by omega) (fitL_okB g hn)
    have h1 := impl_wCombs_l1 g (K : Int) (i : Int) (r := WC (hf b) (d + 1) l) (difL 0 l).length hn (difL 0 l) [] (by simp) (difL_bd l 0 (by omega) hl.2) (by rw [e3, List.nil_append]; exact ih)
    refine Ev.step (fun k => by simp only [impl_wrappedCombs.l0]; rfl) ?_
    exact Ev.tt (by omega) (Ev.bind (impl_diff_ev hl) h1)
theorem impl_wCombs_ev {b : Int} (g : 2 ≤ b ∧ b ≤ 40) {K : Nat} (hK : K ≤ 4) {l : List Int} (hl : okB l) : Ev (fun k => impl_wrappedCombs.f k l b (K : Int)) (WC (hf b) K l) := by
  simp only [impl_wrappedCombs.f]
  exact Ev.dbind (sClone_eq l (by have := hl.1; omega)) (impl_wCombs_l0 g K hK K 0 l (by omega) hl)

def wrC (b : Int) (k R : Nat) (s : List Int) : List Int := WC (hf b) k (dropM (WS (hf b) k s) R (R - 1))
def combQ (k R : Int) : Bool := (decide (1 ≤ k) && decide (k ≤ 4)) && (decide (1 ≤ R) && decide (R ≤ 8))
theorem combQ_iff {k R : Int} : combQ k R = true ↔ (1 ≤ k ∧ k ≤ 4) ∧ (1 ≤ R ∧ R ≤ 8) := by simp [combQ]
def longQ (b : Int) : Bool := decide (2 ≤ b) && decide (b ≤ 40)
theorem longQ_iff {b : Int} : longQ b = true ↔ 2 ≤ b ∧ b ≤ 40 := by simp [longQ]
theorem r_one {R : Nat} (h : 1 ≤ R) (h8 : R ≤ 8) : wrap64 ((R : Int) - 1) = ((R - 1 : Nat) : Int) := by
  rw [w64 (n := (R : Int) - 1) (by omega) (by omega)]
  omega

theorem impl_isLong_eq (b : Int) : impl_isLong.f b = some (longQ b) := by
  unfold impl_isLong.f
  rw [impl_in_eq]
  rfl

theorem impl_isComb_eq (k R : Int) : impl_isComb.f k R = some (combQ k R) := by
  unfold impl_isComb.f combQ
  rw [impl_in_eq]
  simp only [Option.bind_some, impl_in_eq]
  by_cases c : (decide (1 ≤ k) && decide (k ≤ 4)) = true
  · rw [if_pos c, c, Bool.true_and]
  · rw [if_neg c, Bool.eq_false_iff.mpr c, Bool.false_and]

theorem spec_cbAsked_eq (k R : Int) : spec_cbAsked.f k R = some (combQ k R) := by
  unfold spec_cbAsked.f combQ
  rw [spec_l1In_eq]
  simp only [Option.bind_some, spec_l1In_eq]
  by_cases c : (decide (1 ≤ k) && decide (k ≤ 4)) = true
  · rw [if_pos c, c, Bool.true_and]
  · rw [if_neg c, Bool.eq_false_iff.mpr c, Bool.false_and]

theorem spec_cbBits_eq (b : Int) : spec_cbBits.f b = some (longQ b) := by
  unfold spec_cbBits.f
  rw [spec_l1In_eq]
  rfl

theorem spec_cbGood_ev (s : List Int) (k R : Int) (hs : s.length ≤ 1000000) : Ev (fun m => spec_cbGood.f m s k R) (sig s && combQ k R) := by
  simp only [spec_cbGood.f]
  refine Ev.bind (spec_wdSignal_ev s (by omega)) ?_
  by_cases c : sig s = true
  · refine Ev.tt c (Ev.dbind (spec_cbAsked_eq k R) ?_)
    exact Ev.to (Ev.now _) (by rw [c, Bool.true_and])
  · refine Ev.ff c ?_
    exact Ev.to (Ev.now _) (by rw [Bool.eq_false_iff.mpr c, Bool.false_and])

theorem iSameD_l0 (l m : List Int) (hlm : l.length = m.length) (hl : l.length ≤ 1000000) : ∀ (t p : List Int), l = p ++ t → p = m.take p.length → Ev (fun k => laws_iSame.l0 k l m (l.length : Int) (p.length : Int)) (decide (l = m))
  | [], p, h, hp => by
    have e : l = m := by
      have hpl : p.length = m.length := by rw [← hlm, h]; simp
      rw [hpl, List.take_length] at hp
      rw [h, List.append_nil]
      exact hp
    rw [decide_eq_true e]
    refine Ev.step (f := fun _ => some true) (fun k => ?_) (Ev.now _)
    subst h
    simp [laws_iSame.l0]
  | x :: t, p, h, hp => by
    have e1 : (p.length : Int) < (l.length : Int) := by rw [h]; exact lt_mid p t x
    have e2 : rd l (p.length : Int) = x := by rw [h]; exact rd_mid p t x
    have e3 : wrap64 ((p.length : Int) + 1) = ((p ++ [x]).length : Int) := nx_mid p t x (by rw [← h]; omega)
    have hpm : p.length < m.length := by omega
    have e4 : rd m (p.length : Int) = m[p.length] := by
      rw [rd_getD, List.getD_eq_getElem?_getD, List.getElem?_eq_getElem hpm]
      rfl
    refine Ev.step (fun k => by simp only [laws_iSame.l0]; rfl) ?_
    rw [e2, e3, e4]
    refine Ev.tt e1 (Ev.tt (Int.natCast_nonneg _) (Ev.tt e1 (Ev.tt (by omega) ?_)))
    by_cases c : x = m[p.length]
    · refine Ev.tt c (iSameD_l0 l m hlm hl t (p ++ [x]) (by simp [h]) ?_)
      rw [List.length_append, List.length_singleton, List.take_succ_eq_append_getElem hpm, ← hp, c]
    · refine Ev.ff c (Ev.to (Ev.now _) (decide_eq_false (fun e => c ?_)).symm)
      subst e
      have : (p ++ x :: t)[p.length]'(by simp) = x := by simp
      simp only [h] at *
      simp
theorem iSameD_ev (l m : List Int) (hl : l.length ≤ 1000000) : Ev (fun k => laws_iSame.f k l m) (decide (l = m)) := by
  simp only [laws_iSame.f]
  by_cases c : l.length = m.length
  · exact Ev.tt (by omega) (iSameD_l0 l m c hl l [] rfl rfl)
  · refine Ev.ff (by omega) (Ev.to (Ev.now _) (decide_eq_false (fun e => c (by rw [e]))).symm)

theorem impl_Bits_l0 {lo hi G : Int} (hG : -118784 ≤ G ∧ G ≤ 118784) (h0 : -32768 ≤ lo ∧ lo ≤ 32768) (h1 : -32768 ≤ hi ∧ hi ≤ 32768) : ∀ (d : Nat) (c : Int), 2 ≤ c → c + d = 41 → ∃ r, Ev (fun m => impl_BitsForComb.l0 m lo hi G c) r ∧ (r.2 = true → (2 ≤ r.1 ∧ r.1 ≤ 40) ∧ -(hf r.1) ≤ G * lo ∧ G * hi < hf r.1)
  | 0, c, hc, hd => by
    refine ⟨(0, false), Ev.step (fun k => by simp only [impl_BitsForComb.l0]; rfl) (Ev.ff (by omega) (Ev.now _)), by simp⟩
  | d + 1, c, hc, hd => by
    obtain ⟨b1, b2, b3, b4, -, -⟩ := halfL (b := c) ⟨hc, by omega⟩
    obtain ⟨r, ih, hr⟩ := impl_Bits_l0 hG h0 h1 d (c + 1) (by omega) (by omega)
    have m1 := m2 (x := G) (y := lo) (A := 118784) (B := 32768) hG h0 (by omega) (by omega)
    have m3 := m2 (x := G) (y := hi) (A := 118784) (B := 32768) hG h1 (by omega) (by omega)
    have e3 : wrap64 (c + 1) = c + 1 := w64 (by omega) (by omega)
    have e1 : wrap64 (G * lo) = G * lo := w64 (by omega) (by omega)
    have e2 : wrap64 (G * hi) = G * hi := w64 (by omega) (by omega)
    have e4 : wrap64 (-(hf c)) = -(hf c) := w64 (by omega) (by omega)
    by_cases p : G * lo ≥ -(hf c)
    · by_cases q : G * hi < hf c
      · refine ⟨(c, true), Ev.step (fun k => by simp only [impl_BitsForComb.l0]; rfl) ?_, fun _ => ⟨⟨hc, by omega⟩, p, q⟩⟩
        rw [b2, b4, e1, e2, e4]
        exact Ev.tt (by omega) (Ev.tt b3 (Ev.tt p (Ev.tt q (Ev.now _))))
      · refine ⟨r, Ev.step (fun k => by simp only [impl_BitsForComb.l0]; rfl) ?_, hr⟩
        rw [b2, b4, e1, e2, e4, e3]
        exact Ev.tt (by omega) (Ev.tt b3 (Ev.tt p (Ev.ff q ih)))
    · refine ⟨r, Ev.step (fun k => by simp only [impl_BitsForComb.l0]; rfl) ?_, hr⟩
      rw [b2, b4, e1, e2, e4, e3]
      exact Ev.tt (by omega) (Ev.tt b3 (Ev.ff p ih))
theorem impl_BitsForComb_ev {w k R : Int} (gw : goodB w = true) (e : combQ k R = true) : ∃ r, Ev (fun m => impl_BitsForComb.f m w k R) r ∧ (r.2 = true → (2 ≤ r.1 ∧ r.1 ≤ 40) ∧ -(hf r.1) ≤ sm (pw (boxL R.toNat) k.toNat) * (-(hf w)) ∧ sm (pw (boxL R.toNat) k.toNat) * (hf w - 1) < hf r.1) := by
  have e' := combQ_iff.1 e
  have hw := (half gw).1
  obtain ⟨k, rfl⟩ : ∃ n : Nat, k = (n : Int) := ⟨k.toNat, by omega⟩
  obtain ⟨R, rfl⟩ : ∃ n : Nat, R = (n : Int) := ⟨R.toNat, by omega⟩
  have hb := box_ok (R := R) (k := k) (by omega) (by omega) (by omega)
  have hs := sm_bd 4096 (by omega) (pw (boxL R) k) (fun x hx => by have := hb.1 x hx; omega)
  obtain ⟨r, h, hr⟩ := impl_Bits_l0 (lo := -(hf w)) (hi := hf w - 1) (G := sm (pw (boxL R) k)) (by omega) (by omega) (by omega) 39 2 (by omega) (by omega)
  refine ⟨r, ?_, by rw [Int.toNat_natCast, Int.toNat_natCast]; exact hr⟩
  simp only [impl_BitsForComb.f]
  refine Ev.dbind (impl_isWord_eq w false) ?_
  refine Ev.tt gw (Ev.dbind (impl_isComb_eq _ _) ?_)
  rw [e]
  refine Ev.step (fun k => by simp only [impl_BitsForComb.j0]; rfl) ?_
  refine Ev.ff (by simp) ?_
  refine Ev.dbind (impl_Word_ends_eq false gw) ?_
  exact Ev.bind (impl_comb_ev (by omega) (by omega) (by omega)) (Ev.bind (impl_sum_ev _ (by omega) (fun x hx => by have := hb.1 x hx; omega)) h)

theorem stages_ok {l : List Int} (hl : Bytes l) (a sd : Int) (h0 : 0 ≤ a) (h1 : a ≤ 1000000000) : ∃ k R a' sd', spec_l1Cur_stages.f l a sd = some (k, R, a', sd') ∧ a ≤ a' ∧ a' ≤ a + 10 := by
  obtain ⟨u, a1, sd1, e1, ha1, hb1, -⟩ := one_ok hl a sd 12 h0 (by omega) (by omega)
  unfold spec_l1Cur_stages.f
  rw [e1]
  simp only [Option.bind_some]
  by_cases c : u = true
  · obtain ⟨k, a2, sd2, e2, ha2, hb2, -⟩ := among_ok hl a1 sd1 [0, 1, 4, 5] (by omega) (by omega) (by decide) (by decide)
    obtain ⟨R, a3, sd3, e3, ha3, hb3, -⟩ := among_ok hl a2 sd2 [0, 1, 8, 9] (by omega) (by omega) (by decide) (by decide)
    refine ⟨k, R, a3, sd3, ?_, by omega, by omega⟩
    rw [if_pos c, e2]
    simp only [Option.bind_some]
    rw [e3]
    rfl
  · obtain ⟨k, a2, sd2, e2, ha2, hb2, -⟩ := pick_ok hl a1 sd1 3 (by omega) (by omega) (by omega)
    obtain ⟨R, a3, sd3, e3, ha3, hb3, -⟩ := pick_ok hl a2 sd2 4 (by omega) (by omega) (by omega)
    refine ⟨wrap64 (1 + k), wrap64 (1 + R), a3, sd3, ?_, by omega, by omega⟩
    rw [if_neg c, e2]
    simp only [Option.bind_some]
    rw [e3]
    rfl

theorem long_ok {l : List Int} (hl : Bytes l) (a sd : Int) (h0 : 0 ≤ a) (h1 : a ≤ 1000000000) : ∃ b a' sd', spec_l1Cur_long.f l a sd = some (b, a', sd') ∧ a ≤ a' ∧ a' ≤ a + 10 := by
  obtain ⟨u, a1, sd1, e1, ha1, hb1, -⟩ := one_ok hl a sd 12 h0 (by omega) (by omega)
  unfold spec_l1Cur_long.f
  rw [e1]
  simp only [Option.bind_some]
  by_cases c : u = true
  · obtain ⟨b, a2, sd2, e2, ha2, hb2, -⟩ := among_ok hl a1 sd1 [1, 2, 40, 41, 64, (-1)] (by omega) (by omega) (by decide) (by decide)
    refine ⟨b, a2, sd2, ?_, by omega, by omega⟩
    rw [if_pos c, e2]
    rfl
  · obtain ⟨b, a2, sd2, e2, ha2, hb2, -⟩ := pick_ok hl a1 sd1 14 (by omega) (by omega) (by omega)
    refine ⟨wrap64 (3 + b), a2, sd2, ?_, by omega, by omega⟩
    rw [if_neg c, e2]
    rfl

def wsM (s : List Int) (b k : Int) : List Int × Bool := if sig s = true ∧ longQ b = true ∧ combQ k 1 = true then (WS (hf b) k.toNat s, true) else ([], false)
def wcM (s : List Int) (b k : Int) : List Int × Bool := if sig s = true ∧ longQ b = true ∧ combQ k 1 = true then (WC (hf b) k.toNat s, true) else ([], false)
theorem impl_WrappedSums_ev (s : List Int) (b k : Int) (hs : s.length ≤ 1000000) : Ev (fun m => impl_WrappedSums.f m s b k) (wsM s b k) := by
  simp only [impl_WrappedSums.f]
  refine Ev.bind (impl_isSignal_ev s (by omega)) ?_
  by_cases c : sig s = true
  · refine Ev.tt c (Ev.dbind (impl_isLong_eq b) ?_)
    by_cases d : longQ b = true
    · refine Ev.tt d (Ev.dbind (impl_isComb_eq k 1) ?_)
      by_cases e : combQ k 1 = true
      · rw [wsM, if_pos ⟨c, d, e⟩]
        have e' := combQ_iff.1 e
        obtain ⟨k, rfl⟩ : ∃ n : Nat, k = (n : Int) := ⟨k.toNat, by omega⟩
        exact Ev.tt e (Ev.bind (impl_wSums_ev (longQ_iff.1 d) (by omega) (sig_okB c)) (Ev.now _))
      · rw [wsM, if_neg (fun h => e h.2.2)]
        exact Ev.ff e (Ev.now _)
    · rw [wsM, if_neg (fun h => d h.2.1)]
      exact Ev.ff d (Ev.now _)
  · rw [wsM, if_neg (fun h => c h.1)]
    exact Ev.ff c (Ev.now _)
theorem impl_WrappedCombs_ev (s : List Int) (b k : Int) (hs : s.length ≤ 1000000) : Ev (fun m => impl_WrappedCombs.f m s b k) (wcM s b k) := by
  simp only [impl_WrappedCombs.f]
  refine Ev.bind (impl_isSignal_ev s (by omega)) ?_
  by_cases c : sig s = true
  · refine Ev.tt c (Ev.dbind (impl_isLong_eq b) ?_)
    by_cases d : longQ b = true
    · refine Ev.tt d (Ev.dbind (impl_isComb_eq k 1) ?_)
      by_cases e : combQ k 1 = true
      · rw [wcM, if_pos ⟨c, d, e⟩]
        have e' := combQ_iff.1 e
        obtain ⟨k, rfl⟩ : ∃ n : Nat, k = (n : Int) := ⟨k.toNat, by omega⟩
        exact Ev.tt e (Ev.bind (impl_wCombs_ev (longQ_iff.1 d) (by omega) (sig_okB c)) (Ev.now _))
      · rw [wcM, if_neg (fun h => e h.2.2)]
        exact Ev.ff e (Ev.now _)
    · rw [wcM, if_neg (fun h => d h.2.1)]
      exact Ev.ff d (Ev.now _)
  · rw [wcM, if_neg (fun h => c h.1)]
    exact Ev.ff c (Ev.now _)
theorem spec_WrappedSums_ev (s : List Int) (b k : Int) (hs : s.length ≤ 1000000) : Ev (fun m => spec_WrappedSums.f m s b k) (wsM s b k) := by
  have no : Ev (fun m => spec_WrappedSums.j0 m s b k true) ([], false) := by
    refine Ev.step (fun k => by simp only [spec_WrappedSums.j0]; rfl) ?_
    exact Ev.tt (by simp) (Ev.now _)
  simp only [spec_WrappedSums.f]
  refine Ev.bind (spec_cbGood_ev s k 1 hs) ?_
  by_cases c : (sig s && combQ k 1) = true
  · have c' := c
    simp only [Bool.and_eq_true] at c'
    refine Ev.tt c (Ev.dbind (spec_cbBits_eq b) ?_)
    by_cases d : longQ b = true
    · rw [wsM, if_pos ⟨c'.1, d, c'.2⟩, d]
      have e' := combQ_iff.1 c'.2
      have hl := sig_len c'.1
      obtain ⟨k, rfl⟩ : ∃ n : Nat, k = (n : Int) := ⟨k.toNat, by omega⟩
      rw [Int.toNat_natCast]
      refine Ev.step (fun k => by simp only [spec_WrappedSums.j0]; rfl) ?_
      refine Ev.ff (by simp) (Ev.bind (spec_cbSums_ev (longQ_iff.1 d) (by omega) (sig_okB c'.1)) ?_)
      exact Ev.dbind (spec_l1Own_eq _ (by rw [WS_length]; omega)) (Ev.now _)
    · rw [wsM, if_neg (fun h => d h.2.1), Bool.eq_false_iff.mpr d]
      exact no
  · rw [wsM, if_neg (fun h => c (by rw [h.1, h.2.2]; rfl))]
    exact Ev.ff c no
theorem spec_WrappedCombs_ev (s : List Int) (b k : Int) (hs : s.length ≤ 1000000) : Ev (fun m => spec_WrappedCombs.f m s b k) (wcM s b k) := by
  have no : Ev (fun m => spec_WrappedCombs.j0 m s b k true) ([], false) := by
    refine Ev.step (fun k => by simp only [spec_WrappedCombs.j0]; rfl) ?_
    exact Ev.tt (by simp) (Ev.now _)
  simp only [spec_WrappedCombs.f]
  refine Ev.bind (spec_cbGood_ev s k 1 hs) ?_
  by_cases c : (sig s && combQ k 1) = true
  · have c' := c
    simp only [Bool.and_eq_true] at c'
    refine Ev.tt c (Ev.dbind (spec_cbBits_eq b) ?_)
    by_cases d : longQ b = true
    · rw [wcM, if_pos ⟨c'.1, d, c'.2⟩, d]
      have e' := combQ_iff.1 c'.2
      have hl := sig_len c'.1
      obtain ⟨k, rfl⟩ : ∃ n : Nat, k = (n : Int) := ⟨k.toNat, by omega⟩
      rw [Int.toNat_natCast]
      refine Ev.step (fun k => by simp only [spec_WrappedCombs.j0]; rfl) ?_
      refine Ev.ff (by simp) (Ev.bind (spec_cbCombs_ev (longQ_iff.1 d) (by omega) (sig_okB c'.1)) ?_)
      exact Ev.dbind (spec_l1Own_eq _ (by rw [WC_length]; omega)) (Ev.now _)
    · rw [wcM, if_neg (fun h => d h.2.1), Bool.eq_false_iff.mpr d]
      exact no
  · rw [wcM, if_neg (fun h => c (by rw [h.1, h.2.2]; rfl))]
    exact Ev.ff c no

def cnt (H : Int) : Int → List Int → Int
  | _, [] => 0
  | v, x :: t => (if fitH H true (v + x) = v + x then 0 else 1) + cnt H (fitH H true (v + x)) t
def lst (v : Int) (l : List Int) : Int := l.getLastD v
def cntS (H : Int) : Nat → List Int → Int
  | 0, _ => 0
  | k + 1, l => cnt H 0 l + cntS H k (sumW H 0 l)
theorem cnt_bd (H : Int) : ∀ (l : List Int) (v : Int), 0 ≤ cnt H v l ∧ cnt H v l ≤ l.length
  | [], v => by simp [cnt]
  | x :: t, v => by
    have ih := cnt_bd H t (fitH H true (v + x))
    simp only [cnt, List.length_cons]
    split <;> omega
theorem lst_cons (v y : Int) (l : List Int) : lst v (y :: l) = lst y l := by
  unfold lst
  exact List.getLastD_cons ..
theorem lst_snoc (v y : Int) (l : List Int) : lst v (l ++ [y]) = y := by simp [lst]
theorem sumW_snoc (H : Int) (x : Int) : ∀ (l : List Int) (v : Int), sumW H v (l ++ [x]) = sumW H v l ++ [fitH H true (lst v (sumW H v l) + x)]
  | [], v => by simp [sumW, lst]
  | y :: t, v => by
    have ih := sumW_snoc H x t (fitH H true (v + y))
    rw [List.cons_append, sumW, ih, sumW, lst_cons]
    rfl
theorem cnt_snoc (H : Int) (x : Int) : ∀ (l : List Int) (v : Int), cnt H v (l ++ [x]) = cnt H v l + (if fitH H true (lst v (sumW H v l) + x) = lst v (sumW H v l) + x then 0 else 1)
  | [], v => by simp [cnt, sumW, lst]
  | y :: t, v => by
    have ih := cnt_snoc H x t (fitH H true (v + y))
    have e : lst v (sumW H v (y :: t)) = lst (fitH H true (v + y)) (sumW H (fitH H true (v + y)) t) := by rw [sumW, lst_cons]
    rw [List.cons_append, cnt, ih, cnt, e]
    omega
/-- the states behind the samples: the last sum of each stage -/
def stS (H : Int) : Nat → List Int → List Int
  | 0, _ => []
  | k + 1, l => lst 0 (sumW H 0 l) :: stS H k (sumW H 0 l)
theorem stS_length (H : Int) : ∀ (k : Nat) (l : List Int), (stS H k l).length = k
  | 0, _ => rfl
  | k + 1, l => by simp [stS, stS_length H k]
theorem lst_bd {H : Int} (hH : 1 ≤ H) (l : List Int) : -H ≤ lst 0 (sumW H 0 l) ∧ lst 0 (sumW H 0 l) ≤ H := by
  have e := sumW_eq H l 0 0 rfl
  rw [e]
  unfold lst
  cases h : (fitL H (sumE 0 l)).getLast? with
  | none => rw [List.getLastD_eq_getLast?, h]; simp; omega
  | some y =>
    rw [List.getLastD_eq_getLast?, h]
    exact fitL_mem hH _ y (List.mem_of_getLast? h)
theorem cntS_bd (H : Int) : ∀ (k : Nat) (l : List Int), 0 ≤ cntS H k l ∧ cntS H k l ≤ k * l.length
  | 0, l => by simp [cntS]
  | k + 1, l => by
    have ih := cntS_bd H k (sumW H 0 l)
    have h := cnt_bd H l 0
    rw [sumW_length] at ih
    have e : ((k + 1 : Nat) : Int) * (l.length : Int) = (k : Int) * l.length + l.length := by rw [Int.natCast_add, Int.add_mul]; simp
    rw [cntS, e]
    omega
/-- one sample through the stages from here on, the count kept -/
theorem impl_Count_l1 {b : Int} (g : 2 ≤ b ∧ b ≤ 40) (K : Nat) (hK : K ≤ 4) (l : List Int) (i : Int) {r : Int × Bool} : ∀ (d : Nat) (p : List Int) (q : List Int) (x c : Int), q.length + d = K → (-1000000000000 ≤ x ∧ x ≤ 1000000000000) → 0 ≤ c → c + (d : Int) ≤ 1000000000 →
    Ev (fun m => impl_CountWraps.l0 m b (c + (cntS (hf b) d (p ++ [x]) - cntS (hf b) d p)) (q ++ stS (hf b) d (p ++ [x])) l (l.length : Int) (wrap64 (i + 1))) r →
    Ev (fun m => impl_CountWraps.l1 m b c (q ++ stS (hf b) d p) x l (l.length : Int) i (K : Int) (q.length : Int)) r
  | 0, p, q, x, c, h, hx, h0, h1, hr => by
    refine Ev.step (fun k => by simp only [impl_CountWraps.l1]; rfl) ?_
    refine Ev.ff (by omega) ?_
    simpa [stS, cntS] using hr
  | d + 1, p, q, x, c, h, hx, h0, h1, hr => by
    obtain ⟨hb, -⟩ := halfL g
    have bl := lst_bd (H := hf b) (by omega) p
    have e2 : rd (q ++ stS (hf b) (d + 1) p) (q.length : Int) = lst 0 (sumW (hf b) 0 p) := rd_mid q _ _
    have e1 : (q.length : Int) < ((q ++ stS (hf b) (d + 1) p).length : Int) := lt_mid q _ _
    have e4 : wrap64 (x + lst 0 (sumW (hf b) 0 p)) = x + lst 0 (sumW (hf b) 0 p) := w64 (by omega) (by omega)
    have ec : lst 0 (sumW (hf b) 0 p) + x = x + lst 0 (sumW (hf b) 0 p) := Int.add_comm _ _
    have hv := fitH_bd (hf b) true (x + lst 0 (sumW (hf b) 0 p)) (by omega)
    have e3 : wrap64 ((q.length : Int) + 1) = ((q ++ [fitH (hf b) true (x + lst 0 (sumW (hf b) 0 p))]).length : Int) := w64_suc q _ (by omega)
    have e5 : (q ++ stS (hf b) (d + 1) p).set ((q.length : Int)).toNat (fitH (hf b) true (x + lst 0 (sumW (hf b) 0 p))) = (q ++ [fitH (hf b) true (x + lst 0 (sumW (hf b) 0 p))]) ++ stS (hf b) d (sumW (hf b) 0 p) := by
      rw [Int.toNat_natCast, stS, List.set_append_right _ _ (Nat.le_refl _), Nat.sub_self, List.set_cons_zero, List.append_assoc]
      rfl
    have e6 : rd ((q ++ [fitH (hf b) true (x + lst 0 (sumW (hf b) 0 p))]) ++ stS (hf b) d (sumW (hf b) 0 p)) (q.length : Int) = fitH (hf b) true (x + lst 0 (sumW (hf b) 0 p)) := by
      rw [List.append_assoc]
      exact rd_mid q _ _
    have es : sumW (hf b) 0 (p ++ [x]) = sumW (hf b) 0 p ++ [fitH (hf b) true (x + lst 0 (sumW (hf b) 0 p))] := by rw [sumW_snoc, ec]
    have el : lst 0 (sumW (hf b) 0 p ++ [fitH (hf b) true (x + lst 0 (sumW (hf b) 0 p))]) = fitH (hf b) true (x + lst 0 (sumW (hf b) 0 p)) := by simp [lst]
    have en := cnt_snoc (hf b) x p 0
    rw [ec] at en
    simp only [stS, cntS, es, el, en] at hr
    refine Ev.step (fun k => by simp only [impl_CountWraps.l1]; rfl) ?_
    rw [e2, e3, e4]
    refine Ev.tt (by omega) (Ev.tt (Int.natCast_nonneg _) (Ev.tt e1 (Ev.dbind (impl_wrap_eq _ g (by omega)) ?_)))
    rw [e5]
    refine Ev.dbind rfl ?_
    rw [e6]
    by_cases w : fitH (hf b) true (x + lst 0 (sumW (hf b) 0 p)) = x + lst 0 (sumW (hf b) 0 p)
    · have w' := w
      rw [if_pos w] at hr
      refine Ev.tt w ?_
      refine impl_Count_l1 g K hK l i d (sumW (hf b) 0 p) _ _ c (by simp; omega) (by omega) h0 (by omega) ?_
      rw [List.append_assoc]
      refine Ev.to ?_ rfl
      have e7 : c + (cntS (hf b) d (sumW (hf b) 0 p ++ [fitH (hf b) true (x + lst 0 (sumW (hf b) 0 p))]) - cntS (hf b) d (sumW (hf b) 0 p)) = c + (cnt (hf b) 0 p + 0 + cntS (hf b) d (sumW (hf b) 0 p ++ [fitH (hf b) true (x + lst 0 (sumW (hf b) 0 p))]) - (cnt (hf b) 0 p + cntS (hf b) d (sumW (hf b) 0 p))) := by omega
      rw [e7]
      exact hr
    · rw [if_neg w] at hr
      refine Ev.ff w ?_
      rw [w64 (n := c + 1) (by omega) (by omega)]
      refine impl_Count_l1 g K hK l i d (sumW (hf b) 0 p) _ _ (c + 1) (by simp; omega) (by omega) (by omega) (by omega) ?_
      rw [List.append_assoc]
      have e7 : c + 1 + (cntS (hf b) d (sumW (hf b) 0 p ++ [fitH (hf b) true (x + lst 0 (sumW (hf b) 0 p))]) - cntS (hf b) d (sumW (hf b) 0 p)) = c + (cnt (hf b) 0 p + 1 + cntS (hf b) d (sumW (hf b) 0 p ++ [fitH (hf b) true (x + lst 0 (sumW (hf b) 0 p))]) - (cnt (hf b) 0 p + cntS (hf b) d (sumW (hf b) 0 p))) := by omega
      rw [e7]
      exact hr
theorem impl_Count_l0 {b : Int} (g : 2 ≤ b ∧ b ≤ 40) (K : Nat) (hK : K ≤ 4) {l : List Int} (hl : sig l = true) : ∀ (t p : List Int), l = p ++ t → Ev (fun m => impl_CountWraps.l0 m b (cntS (hf b) K p) (stS (hf b) K p) l (l.length : Int) (p.length : Int)) (cntS (hf b) K l, true)
  | [], p, h => by
    have e : p = l := by rw [h]; simp
    subst e
    refine Ev.step (fun k => by simp only [impl_CountWraps.l0]; rfl) ?_
    exact Ev.ff (by omega) (Ev.now _)
  | x :: t, p, h => by
    have hll := sig_len hl
    have e1 : (p.length : Int) < (l.length : Int) := by rw [h]; exact lt_mid p t x
    have e2 : rd l (p.length : Int) = x := by rw [h]; exact rd_mid p t x
    have e3 : wrap64 ((p.length : Int) + 1) = ((p ++ [x]).length : Int) := w64_suc p x (by omega)
    have hx := sig_mem hl x (by rw [h]; simp)
    have ih := impl_Count_l0 g K hK hl t (p ++ [x]) (by simp [h])
    have cb := cntS_bd (hf b) K p
    have hm : (K : Int) * (p.length : Int) ≤ 4 * 64 := by
      have := Nat.mul_le_mul hK (show p.length ≤ 64 by omega)
      have e : ((K * p.length : Nat) : Int) = (K : Int) * p.length := Int.natCast_mul _ _
      omega
    refine Ev.step (fun k => by simp only [impl_CountWraps.l0]; rfl) ?_
    rw [e2]
    refine Ev.tt e1 (Ev.tt (Int.natCast_nonneg _) (Ev.tt e1 ?_))
    have h1 := impl_Count_l1 g K hK l (p.length : Int) K p [] x (cntS (hf b) K p) (by simp) (by omega) (by omega) (by omega) (r := (cntS (hf b) K l, true)) (by
      rw [e3, List.nil_append]
      have e7 : cntS (hf b) K p + (cntS (hf b) K (p ++ [x]) - cntS (hf b) K p) = cntS (hf b) K (p ++ [x]) := by omega
      rw [e7]
      exact ih)
    rw [List.nil_append] at h1
    rw [stS_length]
    exact h1
theorem stS_nil (H : Int) : ∀ k : Nat, stS H k [] = List.replicate k 0
  | 0 => rfl
  | k + 1 => by rw [stS, sumW, stS_nil H k]; rfl
theorem cntS_nil (H : Int) : ∀ k : Nat, cntS H k [] = 0
  | 0 => rfl
  | k + 1 => by rw [cntS, sumW, cntS_nil H k]; rfl
def countM (s : List Int) (b k : Int) : Int × Bool := if sig s = true ∧ longQ b = true ∧ combQ k 1 = true then (cntS (hf b) k.toNat s, true) else (0, false)
theorem impl_CountWraps_ev (s : List Int) (b k : Int) (hs : s.length ≤ 1000000) : Ev (fun m => impl_CountWraps.f m s b k) (countM s b k) := by
  have no : Ev (fun m => impl_CountWraps.j0 m s b k true) (0, false) := by
    refine Ev.step (fun k => by simp only [impl_CountWraps.j0]; rfl) ?_
    exact Ev.tt (by simp) (Ev.now _)
  simp only [impl_CountWraps.f]
  refine Ev.bind (impl_isSignal_ev s (by omega)) ?_
  by_cases c : sig s = true
  · refine Ev.tt c (Ev.dbind (impl_isLong_eq b) ?_)
    by_cases d : longQ b = true
    · refine Ev.tt d (Ev.dbind (impl_isComb_eq k 1) ?_)
      by_cases e : combQ k 1 = true
      · rw [countM, if_pos ⟨c, d, e⟩, e]
        have e' := combQ_iff.1 e
        obtain ⟨k, rfl⟩ : ∃ n : Nat, k = (n : Int) := ⟨k.toNat, by omega⟩
        have h := impl_Count_l0 (longQ_iff.1 d) k (by omega) c s [] rfl
        rw [stS_nil, cntS_nil] at h
        refine Ev.step (fun k => by simp only [impl_CountWraps.j0]; rfl) ?_
        rw [Int.toNat_natCast]
        exact Ev.ff (by simp) (Ev.tt (Int.natCast_nonneg _) (Ev.tt (by omega) h))
      · rw [countM, if_neg (fun h => e h.2.2), Bool.eq_false_iff.mpr e]
        exact no
    · rw [countM, if_neg (fun h => d h.2.1)]
      exact Ev.ff d no
  · rw [countM, if_neg (fun h => c h.1)]
    exact Ev.ff c no
theorem spec_Count_l1 {b : Int} (g : 2 ≤ b ∧ b ≤ 40) (K i : Int) {l : List Int} (hl : okB l) {r : Int × Bool} : ∀ (t p q : List Int) (v c : Int), l = p ++ t → q.length = p.length → (-hf b ≤ v ∧ v ≤ hf b) → 0 ≤ c → c + (t.length : Int) ≤ 1000000000 →
    Ev (fun m => spec_CountWraps.l0 m (q ++ sumW (hf b) v t) b K (c + cnt (hf b) v t) (wrap64 (i + 1))) r → Ev (fun m => spec_CountWraps.l1 m b K c i v q l (l.length : Int) (p.length : Int)) r
  | [], p, q, v, c, h, hq, _, _, _, hr => by
    have e : p.length = l.length := by rw [h]; simp
    refine Ev.step (fun k => by simp only [spec_CountWraps.l1]; rfl) ?_
    exact Ev.ff (by omega) (by simpa [sumW, cnt] using hr)
  | x :: t, p, q, v, c, h, hq, hv, h0, h1, hr => by
    obtain ⟨hb, -⟩ := halfL g
    have e1 : (p.length : Int) < (l.length : Int) := by rw [h]; exact lt_mid p t x
    have e2 : rd l (p.length : Int) = x := by rw [h]; exact rd_mid p t x
    have hp : p.length ≤ 1000 := by have := hl.1; omega
    have e3 : wrap64 ((p.length : Int) + 1) = ((p ++ [x]).length : Int) := w64_suc p x (by omega)
    have hx := hl.2 x (by rw [h]; simp)
    have e4 : wrap64 (v + x) = v + x := w64 (by omega) (by omega)
    have hv2 := fitH_bd (hf b) true (v + x) (by omega)
    simp only [List.length_cons] at h1
    simp only [sumW, cnt] at hr
    refine Ev.step (fun k => by simp only [spec_CountWraps.l1]; rfl) ?_
    rw [e2, e3, e4]
    refine Ev.tt e1 (Ev.tt (Int.natCast_nonneg _) (Ev.tt e1 (Ev.dbind (spec_cbWrap_eq (v + x) g) ?_)))
    by_cases w : fitH (hf b) true (v + x) = v + x
    · rw [if_pos w] at hr
      refine Ev.tt w (Ev.tt (by omega) ?_)
      refine spec_Count_l1 g K i hl t (p ++ [x]) _ _ c (by simp [h]) (by simp [hq]) (by omega) h0 (by omega) ?_
      rw [List.append_assoc]
      have e7 : c + cnt (hf b) (fitH (hf b) true (v + x)) t = c + (0 + cnt (hf b) (fitH (hf b) true (v + x)) t) := by omega
      rw [e7]
      exact hr
    · rw [if_neg w] at hr
      refine Ev.ff w (Ev.tt (by omega) ?_)
      rw [w64 (n := c + 1) (by omega) (by omega)]
      refine spec_Count_l1 g K i hl t (p ++ [x]) _ _ (c + 1) (by simp [h]) (by simp [hq]) (by omega) (by omega) (by omega) ?_
      rw [List.append_assoc]
      have e7 : c + 1 + cnt (hf b) (fitH (hf b) true (v + x)) t = c + (1 + cnt (hf b) (fitH (hf b) true (v + x)) t) := by omega
      rw [e7]
      exact hr
theorem spec_Count_l0 {b : Int} (g : 2 ≤ b ∧ b ≤ 40) (K : Nat) (hK : K ≤ 4) : ∀ (d i : Nat) (l : List Int) (c : Int), i + d = K → okB l → 0 ≤ c → c ≤ 1000 * (i : Int) → Ev (fun m => spec_CountWraps.l0 m l b (K : Int) c (i : Int)) (c + cntS (hf b) d l, true)
  | 0, i, l, c, h, _, _, _ => by
    refine Ev.step (fun k => by simp only [spec_CountWraps.l0]; rfl) ?_
    exact Ev.ff (by omega) (Ev.to (Ev.now _) (by simp [cntS]))
  | d + 1, i, l, c, h, hl, h0, h1 => by
    obtain ⟨hb, -⟩ := halfL g
    have e3 : wrap64 ((i : Int) + 1) = ((i + 1 : Nat) : Int) := by rw [w64 (n := (i : Int) + 1) (by omega) (by omega)]; omega
    have cb := cnt_bd (hf b) l 0
    have hl1 := hl.1
    have ok : okB (sumW (hf b) 0 l) := by rw [sumW_eq (hf b) l 0 0 rfl]; exact fitL_okB g (by rw [sumE_length]; exact hl1)
    have ih := spec_Count_l0 g K hK d (i + 1) (sumW (hf b) 0 l) (c + cnt (hf b) 0 l) (by omega) ok (by omega) (by omega)
    refine Ev.step (fun k => by simp only [spec_CountWraps.l0]; rfl) ?_
    refine Ev.tt (by omega) ?_
    refine spec_Count_l1 g (K : Int) (i : Int) hl l [] [] 0 c rfl rfl (by omega) h0 (by omega) ?_
    rw [e3, List.nil_append]
    exact Ev.to ih (by rw [cntS, Int.add_assoc])
theorem spec_CountWraps_ev (s : List Int) (b k : Int) (hs : s.length ≤ 1000000) : Ev (fun m => spec_CountWraps.f m s b k) (countM s b k) := by
  have no : Ev (fun m => spec_CountWraps.j0 m s b k true) (0, false) := by
    refine Ev.step (fun k => by simp only [spec_CountWraps.j0]; rfl) ?_
    exact Ev.tt (by simp) (Ev.now _)
  simp only [spec_CountWraps.f]
  refine Ev.bind (spec_cbGood_ev s k 1 hs) ?_
  by_cases c : (sig s && combQ k 1) = true
  · have c' := c
    simp only [Bool.and_eq_true] at c'
    refine Ev.tt c (Ev.dbind (spec_cbBits_eq b) ?_)
    by_cases d : longQ b = true
    · rw [countM, if_pos ⟨c'.1, d, c'.2⟩, d]
      have e' := combQ_iff.1 c'.2
      obtain ⟨k, rfl⟩ : ∃ n : Nat, k = (n : Int) := ⟨k.toNat, by omega⟩
      rw [Int.toNat_natCast]
      have h := spec_Count_l0 (longQ_iff.1 d) k (by omega) k 0 s 0 (by omega) (sig_okB c'.1) (by omega) (by omega)
      refine Ev.step (fun k => by simp only [spec_CountWraps.j0]; rfl) ?_
      exact Ev.ff (by simp) (Ev.to h (by rw [Int.zero_add]))
    · rw [countM, if_neg (fun h => d h.2.1), Bool.eq_false_iff.mpr d]
      exact no
  · rw [countM, if_neg (fun h => c (by rw [h.1, h.2.2]; rfl))]
    exact Ev.ff c no

def dropS (l : List Int) (R f : Int) : List Int × Bool := if sig l = true ∧ (1 ≤ R ∧ R ≤ 8) ∧ (0 ≤ f ∧ f ≤ R - 1) then (dropM l R.toNat f.toNat, true) else ([], false)
theorem impl_DropSamples_ev (l : List Int) (R f : Int) (hl : l.length ≤ 1000000) : Ev (fun k => impl_DropSamples.f k l R f) (dropS l R f) := by
  simp only [impl_DropSamples.f]
  refine Ev.bind (impl_isSignal_ev l (by omega)) ?_
  by_cases c : sig l = true
  · refine Ev.tt c (Ev.dbind (impl_isRate_eq R) ?_)
    by_cases d : 1 ≤ R ∧ R ≤ 8
    · have hd : (decide (1 ≤ R) && decide (R ≤ 8)) = true := by simp [d.1, d.2]
      refine Ev.tt hd (Ev.dbind (impl_in_eq f 0 _) ?_)
      rw [w64 (n := R - 1) (by omega) (by omega)]
      by_cases e : 0 ≤ f ∧ f ≤ R - 1
      · have he : (decide (0 ≤ f) && decide (f ≤ R - 1)) = true := by simp [e.1, e.2]
        rw [dropS, if_pos ⟨c, d, e⟩]
        obtain ⟨R, rfl⟩ : ∃ n : Nat, R = (n : Int) := ⟨R.toNat, by omega⟩
        obtain ⟨f, rfl⟩ : ∃ n : Nat, f = (n : Int) := ⟨f.toNat, by omega⟩
        have := sig_len c
        exact Ev.tt he (Ev.bind (impl_drop_ev l R f (by omega) (by omega) (by omega) (by omega)) (Ev.now _))
      · rw [dropS, if_neg (fun h => e h.2.2)]
        refine Ev.ff ?_ (Ev.now _)
        simp only [Bool.and_eq_true, decide_eq_true_eq]
        exact e
    · rw [dropS, if_neg (fun h => d h.2.1)]
      refine Ev.ff ?_ (Ev.now _)
      simp only [Bool.and_eq_true, decide_eq_true_eq]
      exact d
  · rw [dropS, if_neg (fun h => c h.1)]
    exact Ev.ff c (Ev.now _)
theorem spec_DropSamples_ev (l : List Int) (R f : Int) (hl : l.length ≤ 1000000) : Ev (fun k => spec_DropSamples.f k l R f) (dropS l R f) := by
  simp only [spec_DropSamples.f]
  refine Ev.bind (spec_wdSignal_ev l (by omega)) ?_
  by_cases c : sig l = true
  · refine Ev.tt c (Ev.dbind (spec_l1In_eq R 1 8) ?_)
    by_cases d : 1 ≤ R ∧ R ≤ 8
    · have hd : (decide (1 ≤ R) && decide (R ≤ 8)) = true := by simp [d.1, d.2]
      refine Ev.tt hd (Ev.dbind (spec_l1In_eq f 0 _) ?_)
      rw [w64 (n := R - 1) (by omega) (by omega)]
      by_cases e : 0 ≤ f ∧ f ≤ R - 1
      · have he : (decide (0 ≤ f) && decide (f ≤ R - 1)) = true := by simp [e.1, e.2]
        rw [dropS, if_pos ⟨c, d, e⟩]
        obtain ⟨R, rfl⟩ : ∃ n : Nat, R = (n : Int) := ⟨R.toNat, by omega⟩
        obtain ⟨f, rfl⟩ : ∃ n : Nat, f = (n : Int) := ⟨f.toNat, by omega⟩
        have := sig_len c
        exact Ev.tt he (Ev.bind (spec_cbDrop_ev l R f (by omega) (by omega) (by omega) (by omega)) (Ev.now _))
      · rw [dropS, if_neg (fun h => e h.2.2)]
        refine Ev.ff ?_ (Ev.now _)
        simp only [Bool.and_eq_true, decide_eq_true_eq]
        exact e
    · rw [dropS, if_neg (fun h => d h.2.1)]
      refine Ev.ff ?_ (Ev.now _)
      simp only [Bool.and_eq_true, decide_eq_true_eq]
      exact d
  · rw [dropS, if_neg (fun h => c h.1)]
    exact Ev.ff c (Ev.now _)

theorem spec_StuffZeros_ev (l : List Int) (p : Int) (hl : l.length ≤ 1000000) : Ev (fun k => spec_StuffZeros.f k l p) (stuffZ l p) := by
  have no : Ev (fun m => spec_StuffZeros.j0 m l p true) ([], false) := by
    refine Ev.step (fun k => by simp only [spec_StuffZeros.j0]; rfl) ?_
    exact Ev.tt (by simp) (Ev.now _)
  simp only [spec_StuffZeros.f, stuffZ]
  refine Ev.bind (spec_wdSignal_ev l (by omega)) ?_
  by_cases c : sig l = true
  · refine Ev.tt c (Ev.dbind (spec_l1In_eq p 1 8) ?_)
    by_cases d : 1 ≤ p ∧ p ≤ 8
    · have hd : (decide (1 ≤ p) && decide (p ≤ 8)) = true := by simp [d.1, d.2]
      rw [if_pos ⟨c, d⟩, hd]
      obtain ⟨n, rfl⟩ : ∃ n : Nat, p = (n : Int) := ⟨p.toNat, by omega⟩
      have hs := sig_len c
      have hm : l.length * n ≤ 64 * 8 := Nat.mul_le_mul hs (by omega)
      have hsl := stuffM_length n (by omega) l
      refine Ev.step (fun k => by simp only [spec_StuffZeros.j0]; rfl) ?_
      refine Ev.ff (by simp) ?_
      rw [Int.toNat_natCast]
      exact Ev.bind (spec_cbStuff_ev l n (by omega) (by omega) (by omega)) (Ev.bind (spec_wdIf_ev _ (by omega)) (Ev.now _))
    · have hd : (decide (1 ≤ p) && decide (p ≤ 8)) = false := by simp; omega
      rw [if_neg (fun h => d h.2), hd]
      exact no
  · rw [if_neg (fun h => c h.1)]
    exact Ev.ff c no

theorem impl_run_l0 {l : List Int} (hl : okB l) : ∀ (t p q : List Int) (a : Int), l = p ++ t → q.length = p.length → -(1000000000000 * (p.length : Int)) ≤ a → a ≤ 1000000000000 * (p.length : Int) → Ev (fun k => impl_runningSums.l0 k q a l (l.length : Int) (p.length : Int)) (q ++ sumE a t)
  | [], p, q, a, h, hq, _, _ => by
    subst h
    refine Ev.step (fun k => by simp only [impl_runningSums.l0]; rfl) ?_
    refine Ev.ff (by simp) ?_
    exact Ev.to (Ev.now _) (by simp [sumE])
  | x :: t, p, q, a, h, hq, h0, h1 => by
    have e1 : (p.length : Int) < (l.length : Int) := by rw [h]; exact lt_mid p t x
    have e2 : rd l (p.length : Int) = x := by rw [h]; exact rd_mid p t x
    have hp : p.length ≤ 1000 := by have := hl.1; omega
    have e3 : wrap64 ((p.length : Int) + 1) = ((p ++ [x]).length : Int) := w64_suc p x (by omega)
    have hx := hl.2 x (by rw [h]; simp)
    have e4 : wrap64 (a + x) = a + x := w64 (by omega) (by omega)
    have ih := impl_run_l0 hl t (p ++ [x]) (q ++ [a + x]) (a + x) (by simp [h]) (by simp [hq]) (by simp; omega) (by simp; omega)
    rw [List.append_assoc] at ih
    refine Ev.step (fun k => by simp only [impl_runningSums.l0]; rfl) ?_
    rw [e2, e3, e4]
    exact Ev.tt e1 (Ev.tt (Int.natCast_nonneg _) (Ev.tt e1 (Ev.tt (by omega) ih)))
def runM (s : List Int) : List Int × Bool := if sig s = true then toldM (sumE 0 s) else ([], false)
theorem impl_RunningSums_ev (s : List Int) (hs : s.length ≤ 1000000) : Ev (fun k => impl_RunningSums.f k s) (runM s) := by
  simp only [impl_RunningSums.f, runM]
  refine Ev.bind (impl_isSignal_ev s (by omega)) ?_
  by_cases c : sig s = true
  · rw [if_pos c]
    have h : Ev (fun k => impl_runningSums.f k s) (sumE 0 s) := by
      simp only [impl_runningSums.f]
      exact impl_run_l0 (sig_okB c) s [] [] 0 rfl rfl (by simp) (by simp)
    exact Ev.tt c (Ev.bind h (Ev.bind (impl_told_ev _ (by rw [sumE_length]; omega)) (Ev.now _)))
  · rw [if_neg c]
    exact Ev.ff c (Ev.now _)

theorem gain_all : ((List.range 9).all fun R => (List.range 5).all fun k => R == 0 || (decide (sm (pw (boxL R) k) = (R : Int) ^ k) && decide ((pw (boxL R) k).length = k * (R - 1) + 1) && decide (evz (-1) (pw (boxL R) k) = if k = 0 then 1 else if R % 2 = 0 then 0 else 1) && decide ((pw (boxL R) k).reverse = pw (boxL R) k) && decide (gD (pw (boxL R) k) 0 = 1) && decide (1 ≤ (R : Int) ^ k) && decide ((R : Int) ^ k ≤ 4096))) = true := by decide +kernel
theorem gain_ok {R k : Nat} (hR : 1 ≤ R) (hR8 : R ≤ 8) (hk : k ≤ 4) : sm (pw (boxL R) k) = (R : Int) ^ k ∧ (pw (boxL R) k).length = k * (R - 1) + 1 ∧ (evz (-1) (pw (boxL R) k) = if k = 0 then 1 else if R % 2 = 0 then 0 else 1) ∧ (pw (boxL R) k).reverse = pw (boxL R) k ∧ gD (pw (boxL R) k) 0 = 1 ∧ 1 ≤ (R : Int) ^ k ∧ (R : Int) ^ k ≤ 4096 := by
  have h := gain_all
  rw [List.all_eq_true] at h
  have h1 := h R (by simp; omega)
  rw [List.all_eq_true] at h1
  have h2 := h1 k (by simp; omega)
  simp only [Bool.or_eq_true, beq_iff_eq, Bool.and_eq_true, decide_eq_true_eq] at h2
  rcases h2 with h2 | h2
  · omega
  · exact ⟨h2.1.1.1.1.1.1, h2.1.1.1.1.1.2, h2.1.1.1.1.2, h2.1.1.1.2, h2.1.1.2, h2.1.2, h2.2⟩
def boxM (k R : Int) : List Int × Bool := if combQ k R = true then (pw (boxL R.toNat) k.toNat, true) else ([], false)
def cgM (k R : Int) : Int × Bool := if combQ k R = true then (((R.toNat : Nat) : Int) ^ k.toNat, true) else (0, false)
theorem impl_BoxAnswer_ev (k R : Int) : Ev (fun m => impl_BoxAnswer.f m k R) (boxM k R) := by
  simp only [impl_BoxAnswer.f, boxM]
  refine Ev.dbind (impl_isComb_eq k R) ?_
  by_cases e : combQ k R = true
  · have e' := combQ_iff.1 e
    obtain ⟨k, rfl⟩ : ∃ n : Nat, k = (n : Int) := ⟨k.toNat, by omega⟩
    obtain ⟨R, rfl⟩ : ∃ n : Nat, R = (n : Int) := ⟨R.toNat, by omega⟩
    rw [if_pos e]
    exact Ev.tt e (Ev.bind (impl_comb_ev (by omega) (by omega) (by omega)) (Ev.now _))
  · rw [if_neg e]
    exact Ev.ff e (Ev.now _)
theorem spec_BoxAnswer_ev (k R : Int) : Ev (fun m => spec_BoxAnswer.f m k R) (boxM k R) := by
  simp only [spec_BoxAnswer.f, boxM]
  refine Ev.dbind (spec_cbAsked_eq k R) ?_
  by_cases e : combQ k R = true
  · have e' := combQ_iff.1 e
    obtain ⟨k, rfl⟩ : ∃ n : Nat, k = (n : Int) := ⟨k.toNat, by omega⟩
    obtain ⟨R, rfl⟩ : ∃ n : Nat, R = (n : Int) := ⟨R.toNat, by omega⟩
    rw [if_pos e]
    exact Ev.tt e (Ev.bind (spec_cbBox_ev (by omega) (by omega) (by omega)) (Ev.now _))
  · rw [if_neg e]
    exact Ev.ff e (Ev.now _)
theorem impl_gain_ev {k R : Nat} (hR : 1 ≤ R) (hR8 : R ≤ 8) (hk : k ≤ 4) : Ev (fun m => impl_sum.f m (pw (boxL R) k)) ((R : Int) ^ k) := by
  have hb := box_ok hR hR8 hk
  have hg := gain_ok hR hR8 hk
  exact Ev.to (impl_sum_ev _ (by omega) (fun x hx => by have := hb.1 x hx; omega)) hg.1
theorem impl_CombGain_ev (k R : Int) : Ev (fun m => impl_CombGain.f m k R) (cgM k R) := by
  simp only [impl_CombGain.f, cgM]
  refine Ev.dbind (impl_isComb_eq k R) ?_
  by_cases e : combQ k R = true
  · have e' := combQ_iff.1 e
    obtain ⟨k, rfl⟩ : ∃ n : Nat, k = (n : Int) := ⟨k.toNat, by omega⟩
    obtain ⟨R, rfl⟩ : ∃ n : Nat, R = (n : Int) := ⟨R.toNat, by omega⟩
    rw [if_pos e, Int.toNat_natCast, Int.toNat_natCast]
    exact Ev.tt e (Ev.bind (impl_comb_ev (by omega) (by omega) (by omega)) (Ev.bind (impl_gain_ev (by omega) (by omega) (by omega)) (Ev.now _)))
  · rw [if_neg e]
    exact Ev.ff e (Ev.now _)
theorem spec_cbGain_l0 {R : Nat} (hR : 1 ≤ R) (hR8 : R ≤ 8) (K : Nat) (hK : K ≤ 4) : ∀ (d i : Nat), i + d = K → Ev (fun m => spec_cbGain.l0 m (K : Int) (R : Int) ((R : Int) ^ i) (i : Int)) ((R : Int) ^ K)
  | 0, i, h => by
    obtain rfl : i = K := by omega
    refine Ev.step (fun k => by simp only [spec_cbGain.l0]; rfl) ?_
    exact Ev.ff (by omega) (Ev.now _)
  | d + 1, i, h => by
    have e3 : wrap64 ((i : Int) + 1) = ((i + 1 : Nat) : Int) := by rw [w64 (n := (i : Int) + 1) (by omega) (by omega)]; omega
    have hg := gain_ok hR hR8 (show i + 1 ≤ 4 by omega)
    have e4 : wrap64 ((R : Int) ^ i * (R : Int)) = (R : Int) ^ (i + 1) := by
      rw [← Int.pow_succ]
      exact w64 (n := (R : Int) ^ (i + 1)) (by omega) (by omega)
    refine Ev.step (fun k => by simp only [spec_cbGain.l0]; rfl) ?_
    rw [e3, e4]
    exact Ev.tt (by omega) (spec_cbGain_l0 hR hR8 K hK d (i + 1) (by omega))
theorem spec_cbGain_ev {k R : Nat} (hR : 1 ≤ R) (hR8 : R ≤ 8) (hk : k ≤ 4) : Ev (fun m => spec_cbGain.f m (k : Int) (R : Int)) ((R : Int) ^ k) := by
  simp only [spec_cbGain.f]
  have h := spec_cbGain_l0 hR hR8 k hk k 0 (by omega)
  simpa using h
theorem spec_CombGain_ev (k R : Int) : Ev (fun m => spec_CombGain.f m k R) (cgM k R) := by
  simp only [spec_CombGain.f, cgM]
  refine Ev.dbind (spec_cbAsked_eq k R) ?_
  by_cases e : combQ k R = true
  · have e' := combQ_iff.1 e
    obtain ⟨k, rfl⟩ : ∃ n : Nat, k = (n : Int) := ⟨k.toNat, by omega⟩
    obtain ⟨R, rfl⟩ : ∃ n : Nat, R = (n : Int) := ⟨R.toNat, by omega⟩
    rw [if_pos e, Int.toNat_natCast, Int.toNat_natCast]
    exact Ev.tt e (Ev.bind (spec_cbGain_ev (by omega) (by omega) (by omega)) (Ev.now _))
  · rw [if_neg e]
    exact Ev.ff e (Ev.now _)

def droopM (k R : Int) : Int × Int × Bool := if combQ k R = true then (if R % 2 = 0 then (0, 1, true) else (1, ((R.toNat : Nat) : Int) ^ k.toNat, true)) else (0, 0, false)
theorem su_size (x : Int) (h0 : 0 ≤ x) (h1 : x ≤ 1000000) : impl_size.f x = some x := by
  unfold impl_size.f mx
  rw [w64 (n := -x) (by omega) (by omega), if_neg (by omega)]
theorem su_lowest0 (G : Int) (h0 : 1 ≤ G) (h1 : G ≤ 4096) : Ev (fun m => impl_lowest.f m 0 G) (0, 1) := by
  have hg : Ev (fun m => impl_gcd.f m 0 G) G := by
    simp only [impl_gcd.f]
    refine Ev.dbind (su_size 0 (by omega) (by omega)) (Ev.dbind (su_size G (by omega) (by omega)) ?_)
    refine Ev.step (fun k => by simp only [impl_gcd.l0]; rfl) ?_
    refine Ev.ff (by omega) ?_
    rw [Int.zero_tmod]
    refine Ev.step (fun k => by simp only [impl_gcd.l0]; rfl) ?_
    exact Ev.tt (by simp) (Ev.now _)
  simp only [impl_lowest.f]
  refine Ev.bind hg (Ev.ff (by omega) (Ev.ff (by omega) ?_))
  refine Ev.to (Ev.now _) ?_
  rw [Int.zero_tdiv, Int.tdiv_self (by omega), w64 (n := 0) (by omega) (by omega), w64 (n := 1) (by omega) (by omega)]
theorem su_lowest1 (G : Int) (h0 : 1 ≤ G) (h1 : G ≤ 4096) : Ev (fun m => impl_lowest.f m 1 G) (1, G) := by
  have last : Ev (fun m => impl_gcd.l0 m 1 0) 1 := by
    refine Ev.step (fun k => by simp only [impl_gcd.l0]; rfl) ?_
    exact Ev.tt (by simp) (Ev.now _)
  have one : ∀ x : Int, Ev (fun m => impl_gcd.l0 m x 1) 1 := by
    intro x
    refine Ev.step (fun k => by simp only [impl_gcd.l0]; rfl) ?_
    refine Ev.ff (by omega) ?_
    rw [Int.tmod_one]
    exact last
  have hg : Ev (fun m => impl_gcd.f m 1 G) 1 := by
    simp only [impl_gcd.f]
    refine Ev.dbind (su_size 1 (by omega) (by omega)) (Ev.dbind (su_size G (by omega) (by omega)) ?_)
    by_cases c : G = 1
    · rw [c]
      exact one 1
    · refine Ev.step (fun k => by simp only [impl_gcd.l0]; rfl) ?_
      refine Ev.ff (by omega) ?_
      rw [Int.tmod_eq_of_lt (by omega) (by omega)]
      exact one G
  simp only [impl_lowest.f]
  refine Ev.bind hg (Ev.ff (by omega) (Ev.ff (by omega) ?_))
  refine Ev.to (Ev.now _) ?_
  rw [Int.tdiv_one, Int.tdiv_one, w64 (n := G) (by omega) (by omega), w64 (n := 1) (by omega) (by omega)]
theorem impl_Droop_l0 {l : List Int} (hl : l.length ≤ 29) (hb : ∀ x ∈ l, 0 ≤ x ∧ x ≤ 4096) (K R : Int) (r : Int × Int × Bool) : ∀ (t p : List Int) (o g : Int), l = p ++ t → (g = 1 ∨ g = -1) → -(4096 * (p.length : Int)) ≤ o → o ≤ 4096 * (p.length : Int) →
    Ev (fun k => (impl_comb.f k K R).bind fun t1 => (impl_sum.f k t1).bind fun t2 => (impl_lowest.f k (o + g * evz (-1) t) t2).bind fun b => some (b.1, b.2, true)) r → Ev (fun k => impl_BoxDroop.l0 k K R o g l (l.length : Int) (p.length : Int)) r
  | [], p, o, g, h, hg, h0, h1, hr => by
    have hp : p.length = l.length := by rw [h]; simp
    refine Ev.step (fun k => by simp only [impl_BoxDroop.l0]; rfl) ?_
    refine Ev.ff (by omega) ?_
    have e : o + g * evz (-1) [] = o := by simp [evz]
    rw [e] at hr
    exact hr
  | x :: t, p, o, g, h, hg, h0, h1, hr => by
    have e1 : (p.length : Int) < (l.length : Int) := by rw [h]; exact lt_mid p t x
    have e2 : rd l (p.length : Int) = x := by rw [h]; exact rd_mid p t x
    have e3 : wrap64 ((p.length : Int) + 1) = ((p ++ [x]).length : Int) := w64_suc p x (by omega)
    have hx := hb x (by rw [h]; simp)
    have hgx : g * x = x ∨ g * x = -x := by
      rcases hg with rfl | rfl
      · left; omega
      · right; omega
    have e4 : wrap64 (g * x) = g * x := w64 (by omega) (by omega)
    have e5 : wrap64 (o + g * x) = o + g * x := w64 (by omega) (by omega)
    have e6 : wrap64 (-g) = -g := w64 (by omega) (by omega)
    have hlen : ((p ++ [x]).length : Int) = (p.length : Int) + 1 := by simp
    have ev : o + g * evz (-1) (x :: t) = o + g * x + -g * evz (-1) t := by
      simp only [evz]
      grind
    rw [ev] at hr
    refine Ev.step (fun k => by simp only [impl_BoxDroop.l0]; rfl) ?_
    rw [e2, e3, e4, e5, e6]
    exact Ev.tt e1 (Ev.tt (Int.natCast_nonneg _) (Ev.tt e1 (impl_Droop_l0 hl hb K R r t (p ++ [x]) (o + g * x) (-g) (by simp [h]) (by omega) (by rw [hlen]; omega) (by rw [hlen]; omega) hr)))
theorem impl_BoxDroop_ev (k R : Int) : Ev (fun m => impl_BoxDroop.f m k R) (droopM k R) := by
  simp only [impl_BoxDroop.f, droopM]
  refine Ev.dbind (impl_isComb_eq k R) ?_
  by_cases e : combQ k R = true
  · have e' := combQ_iff.1 e
    obtain ⟨k, rfl⟩ : ∃ n : Nat, k = (n : Int) := ⟨k.toNat, by omega⟩
    obtain ⟨R, rfl⟩ : ∃ n : Nat, R = (n : Int) := ⟨R.toNat, by omega⟩
    rw [if_pos e, Int.toNat_natCast, Int.toNat_natCast]
    have hb := box_ok (R := R) (k := k) (by omega) (by omega) (by omega)
    have hg := gain_ok (R := R) (k := k) (by omega) (by omega) (by omega)
    have hc := impl_comb_ev (R := R) (K := k) (by omega) (by omega) (by omega)
    refine Ev.tt e (Ev.bind hc ?_)
    refine impl_Droop_l0 hb.2 hb.1 _ _ _ _ [] 0 1 rfl (.inl rfl) (by simp) (by simp) ?_
    have ev : 0 + 1 * evz (-1) (pw (boxL R) k) = if R % 2 = 0 then 0 else 1 := by
      rw [hg.2.2.1, if_neg (by omega)]
      split <;> rfl
    rw [ev]
    by_cases p : R % 2 = 0
    · rw [if_pos p, if_pos (by omega)]
      exact Ev.bind hc (Ev.bind (impl_gain_ev (by omega) (by omega) (by omega)) (Ev.bind (su_lowest0 _ hg.2.2.2.2.2.1 hg.2.2.2.2.2.2) (Ev.now _)))
    · rw [if_neg p, if_neg (by omega)]
      exact Ev.bind hc (Ev.bind (impl_gain_ev (by omega) (by omega) (by omega)) (Ev.bind (su_lowest1 _ hg.2.2.2.2.2.1 hg.2.2.2.2.2.2) (Ev.now _)))
  · rw [if_neg e]
    exact Ev.ff e (Ev.now _)
theorem su_abs (x : Int) (h0 : 0 ≤ x) (h1 : x ≤ 1000000) : spec_l1Abs.f x = some x := by
  unfold spec_l1Abs.f spec_l1Most.f
  rw [w64 (n := -x) (by omega) (by omega)]
  by_cases c : x > -x
  · rw [if_pos c]
    rfl
  · rw [if_neg c]
    simp only [Option.bind_some]
    congr 1
    omega
theorem su_droop0 (G : Int) (h0 : 1 ≤ G) (h1 : G ≤ 4096) : Ev (fun m => spec_BoxDroop.l1 m 0 G 0 G) (0, 1, true) := by
  refine Ev.step (fun k => by simp only [spec_BoxDroop.l1]; rfl) ?_
  refine Ev.tt (by omega) (Ev.ff (by omega) ?_)
  rw [Int.zero_tmod]
  refine Ev.step (fun k => by simp only [spec_BoxDroop.l1]; rfl) ?_
  refine Ev.ff (by omega) (Ev.ff (by omega) (Ev.to (Ev.now _) ?_))
  rw [Int.zero_tdiv, Int.tdiv_self (by omega), w64 (n := 0) (by omega) (by omega), w64 (n := 1) (by omega) (by omega)]
theorem su_droop1 (G : Int) (h0 : 1 ≤ G) (h1 : G ≤ 4096) : Ev (fun m => spec_BoxDroop.l1 m 1 G 1 G) (1, G, true) := by
  have last : Ev (fun m => spec_BoxDroop.l1 m 1 G 1 0) (1, G, true) := by
    refine Ev.step (fun k => by simp only [spec_BoxDroop.l1]; rfl) ?_
    refine Ev.ff (by omega) (Ev.ff (by omega) (Ev.to (Ev.now _) ?_))
    rw [Int.tdiv_one, Int.tdiv_one, w64 (n := G) (by omega) (by omega), w64 (n := 1) (by omega) (by omega)]
  have one : ∀ x : Int, Ev (fun m => spec_BoxDroop.l1 m 1 G x 1) (1, G, true) := by
    intro x
    refine Ev.step (fun k => by simp only [spec_BoxDroop.l1]; rfl) ?_
    refine Ev.tt (by omega) (Ev.ff (by omega) ?_)
    rw [Int.tmod_one]
    exact last
  by_cases c : G = 1
  · subst c
    exact one 1
  · refine Ev.step (fun k => by simp only [spec_BoxDroop.l1]; rfl) ?_
    refine Ev.tt (by omega) (Ev.ff (by omega) ?_)
    rw [Int.tmod_eq_of_lt (by omega) (by omega)]
    exact one G
def sg (n : Nat) : Int := if n % 2 = 0 then 1 else -1
theorem spec_Droop_l0 {l : List Int} (hl : l.length ≤ 29) (hb : ∀ x ∈ l, 0 ≤ x ∧ x ≤ 4096) (K R : Int) (r : Int × Int × Bool) : ∀ (t p : List Int) (o : Int), l = p ++ t → -(4096 * (p.length : Int)) ≤ o → o ≤ 4096 * (p.length : Int) →
    Ev (fun k => (spec_cbGain.f k K R).bind fun t1 => (spec_l1Abs.f (o + sg p.length * evz (-1) t)).bind fun t2 => spec_BoxDroop.l1 k (o + sg p.length * evz (-1) t) t1 t2 t1) r → Ev (fun k => spec_BoxDroop.l0 k K R o l (l.length : Int) (p.length : Int)) r
  | [], p, o, h, h0, h1, hr => by
    have hp : p.length = l.length := by rw [h]; simp
    refine Ev.step (fun k => by simp only [spec_BoxDroop.l0]; rfl) ?_
    refine Ev.ff (by omega) ?_
    have e : o + sg p.length * evz (-1) [] = o := by simp [evz]
    rw [e] at hr
    exact hr
  | x :: t, p, o, h, h0, h1, hr => by
    have e1 : (p.length : Int) < (l.length : Int) := by rw [h]; exact lt_mid p t x
    have e2 : rd l (p.length : Int) = x := by rw [h]; exact rd_mid p t x
    have hpl : p.length ≤ 29 := by omega
    have e3 : wrap64 ((p.length : Int) + 1) = ((p ++ [x]).length : Int) := w64_suc p x (by omega)
    have hx := hb x (by rw [h]; simp)
    have hlen : ((p ++ [x]).length : Int) = (p.length : Int) + 1 := by simp
    have e4 : wrap64 (1 - wrap64 (Int.tmod (p.length : Int) 2 * 2)) = sg p.length := by
      have e : Int.tmod (p.length : Int) 2 = ((p.length % 2 : Nat) : Int) := tm p.length 2
      rw [e]
      unfold sg
      by_cases c : p.length % 2 = 0
      · rw [if_pos c, c]
        unfold wrap64
        omega
      · have c1 : p.length % 2 = 1 := by omega
        rw [if_neg c, c1]
        unfold wrap64
        omega
    have hsg : sg p.length = 1 ∨ sg p.length = -1 := by
      unfold sg
      split
      · exact .inl rfl
      · exact .inr rfl
    have hs2 : sg (p ++ [x]).length = -(sg p.length) := by
      have e : (p ++ [x]).length = p.length + 1 := by simp
      rw [e]
      unfold sg
      by_cases c : p.length % 2 = 0
      · rw [if_pos c, if_neg (by omega)]
      · rw [if_neg c, if_pos (by omega)]
        rfl
    have hgx : x * sg p.length = x ∨ x * sg p.length = -x := by
      rcases hsg with h | h
      · rw [h]; left; omega
      · rw [h]; right; omega
    have e5 : wrap64 (x * sg p.length) = x * sg p.length := w64 (by omega) (by omega)
    have e6 : wrap64 (o + x * sg p.length) = o + x * sg p.length := w64 (by omega) (by omega)
    have ev : o + sg p.length * evz (-1) (x :: t) = o + x * sg p.length + sg (p ++ [x]).length * evz (-1) t := by
      rw [hs2]
      simp only [evz]
      grind
    rw [ev] at hr
    refine Ev.step (fun k => by simp only [spec_BoxDroop.l0]; rfl) ?_
    rw [e2, e3, e4, e5, e6]
    exact Ev.tt e1 (Ev.tt (Int.natCast_nonneg _) (Ev.tt e1 (spec_Droop_l0 hl hb K R r t (p ++ [x]) (o + x * sg p.length) (by simp [h]) (by rw [hlen]; omega) (by rw [hlen]; omega) hr)))
theorem spec_BoxDroop_ev (k R : Int) : Ev (fun m => spec_BoxDroop.f m k R) (droopM k R) := by
  simp only [spec_BoxDroop.f, droopM]
  refine Ev.dbind (spec_cbAsked_eq k R) ?_
  by_cases e : combQ k R = true
  · have e' := combQ_iff.1 e
    obtain ⟨k, rfl⟩ : ∃ n : Nat, k = (n : Int) := ⟨k.toNat, by omega⟩
    obtain ⟨R, rfl⟩ : ∃ n : Nat, R = (n : Int) := ⟨R.toNat, by omega⟩
    rw [if_pos e, Int.toNat_natCast, Int.toNat_natCast]
    have hb := box_ok (R := R) (k := k) (by omega) (by omega) (by omega)
    have hg := gain_ok (R := R) (k := k) (by omega) (by omega) (by omega)
    refine Ev.tt e (Ev.bind (spec_cbBox_ev (by omega) (by omega) (by omega)) ?_)
    refine spec_Droop_l0 hb.2 hb.1 _ _ _ _ [] 0 rfl (by simp) (by simp) ?_
    have ev : 0 + sg ([] : List Int).length * evz (-1) (pw (boxL R) k) = if R % 2 = 0 then 0 else 1 := by
      rw [hg.2.2.1, if_neg (by omega)]
      split <;> rfl
    rw [ev]
    by_cases p : R % 2 = 0
    · rw [if_pos p, if_pos (by omega)]
      exact Ev.bind (spec_cbGain_ev (by omega) (by omega) (by omega)) (Ev.dbind (su_abs 0 (by omega) (by omega)) (su_droop0 _ hg.2.2.2.2.2.1 hg.2.2.2.2.2.2))
    · rw [if_neg p, if_neg (by omega)]
      exact Ev.bind (spec_cbGain_ev (by omega) (by omega) (by omega)) (Ev.dbind (su_abs 1 (by omega) (by omega)) (su_droop1 _ hg.2.2.2.2.2.1 hg.2.2.2.2.2.2))
  · rw [if_neg e]
    exact Ev.ff e (Ev.now _)

def bL (T : Int) : Nat → Int → Int × Bool
  | 0, _ => (0, false)
  | d + 1, c => if T ≤ hf c then (c, true) else bL T d (c + 1)
def bitsM (w k R : Int) : Int × Bool := if goodB w = true ∧ combQ k R = true then bL (((R.toNat : Nat) : Int) ^ k.toNat * hf w) 39 2 else (0, false)
theorem su_shlm {G : Int} {n : Nat} (h0 : 0 ≤ G) (h1 : G ≤ 4096) (hn : n ≤ 15) : shl .i64 G (n : Int) = G * 2 ^ n := by
  unfold shl
  have e : min ((n : Int)).toNat IntKind.i64.bits = n := by
    simp [IntKind.bits]
    omega
  have g1 : (2 : Nat) ^ n ≤ 2 ^ 15 := Nat.pow_le_pow_right (by decide) hn
  have g2 : (2 : Nat) ^ 15 = 32768 := by decide
  have g3 : (2 : Int) ^ n = (((2 : Nat) ^ n : Nat) : Int) := by simp
  have g6 : (2 : Int) ^ n ≤ 32768 := by
    rw [g3]
    exact Int.ofNat_le.2 (by omega)
  have g7 : (0 : Int) < 2 ^ n := Int.pow_pos (by decide)
  have g4 : G * 2 ^ n ≤ 4096 * 32768 := Int.mul_le_mul h1 (by omega) (by omega) (by omega)
  have g5 : 0 ≤ G * 2 ^ n := Int.mul_nonneg h0 (by omega)
  rw [e, IntKind.wrap_i64]
  omega
theorem impl_bits_eq {w G : Int} (gw : goodB w = true) (hG : 1 ≤ G ∧ G ≤ 4096) : ∀ (d : Nat) (c : Int), 2 ≤ c → c + d = 41 → Ev (fun m => impl_BitsForComb.l0 m (-(hf w)) (hf w - 1) G c) (bL (G * hf w) d c)
  | 0, c, hc, hd => by
    refine Ev.step (fun k => by simp only [impl_BitsForComb.l0]; rfl) ?_
    exact Ev.ff (by omega) (Ev.now _)
  | d + 1, c, hc, hd => by
    have hw := (half gw).1
    obtain ⟨b1, b2, b3, b4, -, -⟩ := halfL (b := c) ⟨hc, by omega⟩
    have ih := impl_bits_eq gw hG d (c + 1) (by omega) (by omega)
    have e3 : wrap64 (c + 1) = c + 1 := w64 (by omega) (by omega)
    have m0 : 0 ≤ G * hf w := Int.mul_nonneg (by omega) (by omega)
    have m1 : G * hf w ≤ 4096 * 32768 := Int.mul_le_mul hG.2 hw.2 (by omega) (by omega)
    have m2' : G * (-(hf w)) = -(G * hf w) := Int.mul_neg _ _
    have m3 : G * (hf w - 1) = G * hf w - G := by rw [Int.mul_sub, Int.mul_one]
    have e1 : wrap64 (-(G * hf w)) = -(G * hf w) := w64 (by omega) (by omega)
    have e2 : wrap64 (G * hf w - G) = G * hf w - G := w64 (by omega) (by omega)
    have e4 : wrap64 (-(hf c)) = -(hf c) := w64 (by omega) (by omega)
    refine Ev.step (fun k => by simp only [impl_BitsForComb.l0]; rfl) ?_
    rw [b2, b4, m2', m3, e1, e2, e4, e3, bL]
    refine Ev.tt (by omega) (Ev.tt b3 ?_)
    by_cases p : G * hf w ≤ hf c
    · rw [if_pos p]
      exact Ev.tt (by omega) (Ev.tt (by omega) (Ev.now _))
    · rw [if_neg p]
      exact Ev.ff (by omega) ih
theorem impl_Bits_ev (w k R : Int) : Ev (fun m => impl_BitsForComb.f m w k R) (bitsM w k R) := by
  have no : Ev (fun m => impl_BitsForComb.j0 m k R true w false) (0, false) := by
    refine Ev.step (fun k => by simp only [impl_BitsForComb.j0]; rfl) ?_
    exact Ev.tt (by simp) (Ev.now _)
  simp only [impl_BitsForComb.f]
  refine Ev.dbind (impl_isWord_eq w false) ?_
  by_cases gw : goodB w = true
  · refine Ev.tt gw (Ev.dbind (impl_isComb_eq _ _) ?_)
    by_cases e : combQ k R = true
    · have e' := combQ_iff.1 e
      rw [bitsM, if_pos ⟨gw, e⟩, e]
      obtain ⟨k, rfl⟩ : ∃ n : Nat, k = (n : Int) := ⟨k.toNat, by omega⟩
      obtain ⟨R, rfl⟩ : ∃ n : Nat, R = (n : Int) := ⟨R.toNat, by omega⟩
      rw [Int.toNat_natCast, Int.toNat_natCast]
      have hg := gain_ok (R := R) (k := k) (by omega) (by omega) (by omega)
      refine Ev.step (fun k => by simp only [impl_BitsForComb.j0]; rfl) ?_
      refine Ev.ff (by simp) ?_
      refine Ev.dbind (impl_Word_ends_eq false gw) ?_
      exact Ev.bind (impl_comb_ev (by omega) (by omega) (by omega)) (Ev.bind (impl_gain_ev (by omega) (by omega) (by omega)) (impl_bits_eq gw ⟨hg.2.2.2.2.2.1, hg.2.2.2.2.2.2⟩ 39 2 (by omega) (by omega)))
    · rw [bitsM, if_neg (fun h => e h.2), Bool.eq_false_iff.mpr e]
      exact no
  · rw [bitsM, if_neg (fun h => gw h.1)]
    exact Ev.ff gw no
theorem spec_bits_eq {T : Int} : ∀ (d : Nat) (c : Int), 2 ≤ c → c + d = 41 → Ev (fun m => spec_BitsForComb.l0 m T c) (bL T d c)
  | 0, c, hc, hd => by
    refine Ev.step (fun k => by simp only [spec_BitsForComb.l0]; rfl) ?_
    exact Ev.ff (by omega) (Ev.now _)
  | d + 1, c, hc, hd => by
    obtain ⟨b1, b2, b3, b4, -, -⟩ := halfL (b := c) ⟨hc, by omega⟩
    have ih := spec_bits_eq (T := T) d (c + 1) (by omega) (by omega)
    have e3 : wrap64 (c + 1) = c + 1 := w64 (by omega) (by omega)
    refine Ev.step (fun k => by simp only [spec_BitsForComb.l0]; rfl) ?_
    rw [b2, b4, e3, bL]
    refine Ev.tt (by omega) (Ev.tt b3 ?_)
    by_cases p : T ≤ hf c
    · rw [if_pos p]
      exact Ev.tt p (Ev.now _)
    · rw [if_neg p]
      exact Ev.ff p ih
theorem su_shl {G w : Int} (gw : goodB w = true) (h0 : 0 ≤ G) (h1 : G ≤ 4096) : shl .i64 G (w - 1) = G * hf w := by
  have g := goodB_iff.1 gw
  obtain ⟨n, hn⟩ : ∃ n : Nat, w - 1 = (n : Int) := ⟨(w - 1).toNat, by omega⟩
  rw [hf, hn, Int.toNat_natCast]
  exact su_shlm h0 h1 (by omega)
theorem spec_Bits_ev (w k R : Int) : Ev (fun m => spec_BitsForComb.f m w k R) (bitsM w k R) := by
  have no : Ev (fun m => spec_BitsForComb.j0 m w k R true) (0, false) := by
    refine Ev.step (fun k => by simp only [spec_BitsForComb.j0]; rfl) ?_
    exact Ev.tt (by simp) (Ev.now _)
  simp only [spec_BitsForComb.f]
  refine Ev.dbind (spec_l1In_eq w 2 16) ?_
  by_cases gw : goodB w = true
  · refine Ev.tt gw (Ev.dbind (spec_cbAsked_eq _ _) ?_)
    by_cases e : combQ k R = true
    · have e' := combQ_iff.1 e
      rw [bitsM, if_pos ⟨gw, e⟩, e]
      obtain ⟨k, rfl⟩ : ∃ n : Nat, k = (n : Int) := ⟨k.toNat, by omega⟩
      obtain ⟨R, rfl⟩ : ∃ n : Nat, R = (n : Int) := ⟨R.toNat, by omega⟩
      rw [Int.toNat_natCast, Int.toNat_natCast]
      have hg := gain_ok (R := R) (k := k) (by omega) (by omega) (by omega)
      obtain ⟨-, b2, b3, -, -, -⟩ := half gw
      refine Ev.step (fun k => by simp only [spec_BitsForComb.j0]; rfl) ?_
      refine Ev.ff (by simp) (Ev.bind (spec_cbGain_ev (by omega) (by omega) (by omega)) ?_)
      rw [b2, su_shl gw (by omega) (by omega)]
      exact Ev.tt b3 (spec_bits_eq 39 2 (by omega) (by omega))
    · rw [bitsM, if_neg (fun h => e h.2), Bool.eq_false_iff.mpr e]
      exact no
  · rw [bitsM, if_neg (fun h => gw h.1)]
    exact Ev.ff gw no
theorem bL_ok (T : Int) : ∀ (d : Nat) (c : Int), (bL T d c).2 = true → c ≤ (bL T d c).1 ∧ (bL T d c).1 < c + d ∧ T ≤ hf (bL T d c).1 ∧ ((bL T d c).1 = c ∨ hf ((bL T d c).1 - 1) < T)
  | 0, c, h => by simp [bL] at h
  | d + 1, c, h => by
    rw [bL] at *
    by_cases p : T ≤ hf c
    · rw [if_pos p]
      exact ⟨Int.le_refl _, by omega, p, .inl rfl⟩
    · rw [if_neg p] at *
      obtain ⟨a1, a2, a3, a4⟩ := bL_ok T d (c + 1) h
      refine ⟨by omega, by omega, a3, .inr ?_⟩
      rcases a4 with a4 | a4
      · rw [a4, Int.add_sub_cancel]
        omega
      · exact a4

theorem shM_fit {x b M : Int} (m : Int) (hb : 0 < b) (h0 : -M * b ≤ x) (h1 : x ≤ M * b) : -M ≤ shM x b m ∧ shM x b m ≤ M := by
  have l0 : -M ≤ x / b := Int.le_ediv_of_mul_le hb h0
  have l1 : x / b ≤ M := Int.ediv_le_of_le_mul hb h1
  have l2 : 0 < x % b → x / b < M := by
    intro h
    refine Int.ediv_lt_of_lt_mul hb ?_
    by_cases c : x = M * b
    · rw [c, Int.mul_emod_left] at h
      omega
    · omega
  unfold shM
  split
  · rename_i c
    have := l2 c.2.2
    omega
  · split
    · rename_i c
      have := l2 c.2.2
      omega
    · omega
def blk (l : List Int) (Z i : Nat) : List Int := (l.take (i * Z + Z)).drop (i * Z)
def meansM (l : List Int) (Z : Nat) (m : Int) : List Int := Lf (fun i => shM (sm (blk l Z i)) (Z : Int) m) (l.length / Z)
theorem blk_ok {l : List Int} (hl : sig l = true) (Z i : Nat) : (blk l Z i).length ≤ Z ∧ ∀ x ∈ blk l Z i, -100000 ≤ x ∧ x ≤ 100000 := by
  constructor
  · rw [blk, List.length_drop, List.length_take]
    omega
  · intro x hx
    exact sig_mem hl x (List.mem_of_mem_take (List.mem_of_mem_drop hx))
theorem blk_sm {l : List Int} (hl : sig l = true) {Z : Nat} (hZ : Z ≤ 8) (i : Nat) : -100000 * (Z : Int) ≤ sm (blk l Z i) ∧ sm (blk l Z i) ≤ 100000 * (Z : Int) := by
  obtain ⟨h1, h2⟩ := blk_ok hl Z i
  have h := sm_bd 100000 (by omega) _ h2
  omega
theorem means_sig {l : List Int} (hl : sig l = true) {Z : Nat} (hZ0 : 1 ≤ Z) (hZ : Z ≤ 8) (m : Int) : sig (meansM l Z m) = true := by
  rw [sig_iff]
  constructor
  · rw [meansM, Lf_length]
    have := sig_len hl
    have := Nat.div_le_self l.length Z
    omega
  · intro x hx
    simp only [meansM, Lf, List.mem_map] at hx
    obtain ⟨j, _, rfl⟩ := hx
    have h := blk_sm hl hZ j
    exact shM_fit m (by omega) h.1 h.2
theorem impl_Mean_l1 {l : List Int} (hl : sig l = true) {s : Nat} (hs : s ≤ 3) (m : Int) : ∀ (d i : Nat), i + d = l.length / 2 ^ s → Ev (fun k => impl_MeanBlocks.l1 k l ((2 ^ s : Nat) : Int) m (s : Int) (Lf (fun i => shM (sm (blk l (2 ^ s) i)) ((2 ^ s : Nat) : Int) m) i) ((i * 2 ^ s : Nat) : Int)) (toldM (meansM l (2 ^ s) m)) := by
  have z0 : 0 < 2 ^ s := Nat.two_pow_pos s
  have z8 : 2 ^ s ≤ 2 ^ 3 := Nat.pow_le_pow_right (by decide) hs
  have z3 : (2 : Int) ^ s = ((2 ^ s : Nat) : Int) := by simp
  have hll := sig_len hl
  intro d
  induction d with
  | zero =>
    intro i h
    have hi : i = l.length / 2 ^ s := h
    have hlt : l.length < i * 2 ^ s + 2 ^ s := by
      rw [hi]
      have h1 := Nat.div_add_mod l.length (2 ^ s)
      have h2 := Nat.mod_lt l.length z0
      rw [Nat.mul_comm] at h1
      omega
    have him : i * 2 ^ s ≤ l.length := by rw [hi]; exact Nat.div_mul_le_self _ _
    have e1 : wrap64 (((i * 2 ^ s : Nat) : Int) + ((2 ^ s : Nat) : Int)) = ((i * 2 ^ s + 2 ^ s : Nat) : Int) := w64_nat _ _ (by omega)
    refine Ev.step (fun k => by simp only [impl_MeanBlocks.l1]; rfl) ?_
    rw [e1]
    refine Ev.ff (by omega) ?_
    have e2 : Lf (fun i => shM (sm (blk l (2 ^ s) i)) ((2 ^ s : Nat) : Int) m) i = meansM l (2 ^ s) m := by rw [meansM, ← hi]
    rw [e2]
    have hml := sig_len (means_sig hl z0 (show 2 ^ s ≤ 8 by omega) m)
    exact Ev.bind (impl_told_ev _ (by omega)) (Ev.now _)
  | succ d ih =>
    intro i h
    have hle : i * 2 ^ s + 2 ^ s ≤ l.length := by
      have h1 : (i + 1) * 2 ^ s ≤ l.length := (Nat.le_div_iff_mul_le z0).1 (by omega)
      rw [Nat.add_mul, Nat.one_mul] at h1
      exact h1
    have e1 : wrap64 (((i * 2 ^ s : Nat) : Int) + ((2 ^ s : Nat) : Int)) = ((i * 2 ^ s + 2 ^ s : Nat) : Int) := w64_nat _ _ (by omega)
    obtain ⟨b1, b2⟩ := blk_ok hl (2 ^ s) i
    have b3 := blk_sm hl (show 2 ^ s ≤ 8 by omega) i
    have hii : i ≤ l.length := by
      have h1 : i * 1 ≤ i * 2 ^ s := Nat.mul_le_mul_left i z0
      omega
    have h1 : Ev (fun k => impl_sum.f k ((l.take (i * 2 ^ s + 2 ^ s)).drop (i * 2 ^ s))) (sm (blk l (2 ^ s) i)) := impl_sum_ev (blk l (2 ^ s) i) (by omega) (fun x hx => by have := b2 x hx; omega)
    have h2 := impl_shifted_ev (sm (blk l (2 ^ s) i)) s m (by omega) (by omega)
    rw [z3] at h2
    have e3 : ((i * 2 ^ s + 2 ^ s : Nat) : Int) = (((i + 1) * 2 ^ s : Nat) : Int) := by rw [Nat.add_mul, Nat.one_mul]
    refine Ev.step (fun k => by simp only [impl_MeanBlocks.l1]; rfl) ?_
    rw [e1, Int.toNat_natCast, Int.toNat_natCast]
    refine Ev.tt (by omega) (Ev.tt (Int.natCast_nonneg _) (Ev.tt (by omega) (Ev.bind h1 (Ev.bind h2 (Ev.tt (by rw [Lf_length]; omega) ?_)))))
    have h3 := ih (i + 1) (by omega)
    rw [Lf_succ, ← e3] at h3
    exact h3
theorem spec_Mean_l1 {l : List Int} (hl : sig l = true) {s : Nat} (hs : s ≤ 3) (m : Int) : ∀ (d i : Nat), i + d = l.length / 2 ^ s → Ev (fun k => spec_MeanBlocks.l1 k l ((2 ^ s : Nat) : Int) m (s : Int) (Lf (fun i => shM (sm (blk l (2 ^ s) i)) ((2 ^ s : Nat) : Int) m) i) ((i * 2 ^ s : Nat) : Int)) (meansM l (2 ^ s) m, true) := by
  have z0 : 0 < 2 ^ s := Nat.two_pow_pos s
  have z8 : 2 ^ s ≤ 2 ^ 3 := Nat.pow_le_pow_right (by decide) hs
  have z3 : (2 : Int) ^ s = ((2 ^ s : Nat) : Int) := by simp
  have hll := sig_len hl
  intro d
  induction d with
  | zero =>
    intro i h
    have hi : i = l.length / 2 ^ s := h
    have hlt : l.length < i * 2 ^ s + 2 ^ s := by
      rw [hi]
      have h1 := Nat.div_add_mod l.length (2 ^ s)
      have h2 := Nat.mod_lt l.length z0
      rw [Nat.mul_comm] at h1
      omega
    have him : i * 2 ^ s ≤ l.length := by rw [hi]; exact Nat.div_mul_le_self _ _
    have e1 : wrap64 (((i * 2 ^ s : Nat) : Int) + ((2 ^ s : Nat) : Int)) = ((i * 2 ^ s + 2 ^ s : Nat) : Int) := w64_nat _ _ (by omega)
    refine Ev.step (fun k => by simp only [spec_MeanBlocks.l1]; rfl) ?_
    rw [e1]
    refine Ev.ff (by omega) ?_
    have e2 : Lf (fun i => shM (sm (blk l (2 ^ s) i)) ((2 ^ s : Nat) : Int) m) i = meansM l (2 ^ s) m := by rw [meansM, ← hi]
    rw [e2]
    exact Ev.now _
  | succ d ih =>
    intro i h
    have hle : i * 2 ^ s + 2 ^ s ≤ l.length := by
      have h1 : (i + 1) * 2 ^ s ≤ l.length := (Nat.le_div_iff_mul_le z0).1 (by omega)
      rw [Nat.add_mul, Nat.one_mul] at h1
      exact h1
    have e1 : wrap64 (((i * 2 ^ s : Nat) : Int) + ((2 ^ s : Nat) : Int)) = ((i * 2 ^ s + 2 ^ s : Nat) : Int) := w64_nat _ _ (by omega)
    obtain ⟨b1, b2⟩ := blk_ok hl (2 ^ s) i
    have b3 := blk_sm hl (show 2 ^ s ≤ 8 by omega) i
    have hii : i ≤ l.length := by
      have h1 : i * 1 ≤ i * 2 ^ s := Nat.mul_le_mul_left i z0
      omega
    have h1 : Ev (fun k => spec_wdSum.f k ((l.take (i * 2 ^ s + 2 ^ s)).drop (i * 2 ^ s))) (sm (blk l (2 ^ s) i)) := spec_wdSum_ev (blk l (2 ^ s) i) (by omega) (fun x hx => by have := b2 x hx; omega)
    have h2 := spec_wdShift_ev (sm (blk l (2 ^ s) i)) s m (by omega) (by omega)
    rw [z3] at h2
    have e3 : ((i * 2 ^ s + 2 ^ s : Nat) : Int) = (((i + 1) * 2 ^ s : Nat) : Int) := by rw [Nat.add_mul, Nat.one_mul]
    refine Ev.step (fun k => by simp only [spec_MeanBlocks.l1]; rfl) ?_
    rw [e1, Int.toNat_natCast, Int.toNat_natCast]
    refine Ev.tt (by omega) (Ev.tt (Int.natCast_nonneg _) (Ev.tt (by omega) (Ev.bind h1 (Ev.bind h2 (Ev.tt (by rw [Lf_length]; omega) ?_)))))
    have h3 := ih (i + 1) (by omega)
    rw [Lf_succ, ← e3] at h3
    exact h3
def meanM (l : List Int) (Z m : Int) : List Int × Bool := if sig l = true ∧ (Z = 1 ∨ Z = 2 ∨ Z = 4 ∨ Z = 8) ∧ (0 ≤ m ∧ m ≤ 2) then (meansM l Z.toNat m, true) else ([], false)
theorem su_isShift (m : Int) : impl_isShift.f 0 m = some (modeOk 0 m) := by
  unfold impl_isShift.f modeOk
  rw [impl_in_eq]
  simp only [Option.bind_some, impl_in_eq]
  rfl
theorem two_lt {i s : Nat} (h : i < s) : (2 : Int) ^ i < 2 ^ s := by
  have h1 : (2 : Nat) ^ i < 2 ^ s := Nat.pow_lt_pow_right (by decide) h
  have e1 : (2 : Int) ^ i = ((2 ^ i : Nat) : Int) := by simp
  have e2 : (2 : Int) ^ s = ((2 ^ s : Nat) : Int) := by simp
  rw [e1, e2]
  exact Int.ofNat_lt.2 h1
theorem impl_Mean_l0 {l : List Int} {s : Nat} (hs : s ≤ 3) (m : Int) (r : List Int × Bool) (hr : Ev (fun k => impl_MeanBlocks.l1 k l ((2 : Int) ^ s) m (s : Int) [] 0) r) : ∀ (d i : Nat), i + d = s → Ev (fun k => impl_MeanBlocks.l0 k l ((2 : Int) ^ s) m (i : Int)) r
  | 0, i, h => by
    obtain rfl : i = s := by omega
    refine Ev.step (fun k => by simp only [impl_MeanBlocks.l0]; rfl) ?_
    rw [shl_big (by omega)]
    exact Ev.tt (Int.natCast_nonneg _) (Ev.ff (by omega) hr)
  | d + 1, i, h => by
    have e3 : wrap64 ((i : Int) + 1) = ((i + 1 : Nat) : Int) := by rw [w64 (n := (i : Int) + 1) (by omega) (by omega)]; omega
    refine Ev.step (fun k => by simp only [impl_MeanBlocks.l0]; rfl) ?_
    rw [shl_big (by omega), e3]
    exact Ev.tt (Int.natCast_nonneg _) (Ev.tt (two_lt (by omega)) (impl_Mean_l0 hs m r hr d (i + 1) (by omega)))
theorem spec_Mean_l0 {l : List Int} {s : Nat} (hs : s ≤ 3) (m : Int) (r : List Int × Bool) (hr : Ev (fun k => spec_MeanBlocks.j1 k l ((2 : Int) ^ s) m (s : Int)) r) : ∀ (d i : Nat), i + d = s → Ev (fun k => spec_MeanBlocks.l0 k l ((2 : Int) ^ s) m (i : Int)) r
  | 0, i, h => by
    obtain rfl : i = s := by omega
    refine Ev.step (fun k => by simp only [spec_MeanBlocks.l0]; rfl) ?_
    rw [shl_big (by omega)]
    exact Ev.tt (Int.natCast_nonneg _) (Ev.ff (by omega) hr)
  | d + 1, i, h => by
    have e3 : wrap64 ((i : Int) + 1) = ((i + 1 : Nat) : Int) := by rw [w64 (n := (i : Int) + 1) (by omega) (by omega)]; omega
    refine Ev.step (fun k => by simp only [spec_MeanBlocks.l0]; rfl) ?_
    rw [shl_big (by omega), e3]
    exact Ev.tt (Int.natCast_nonneg _) (Ev.tt (two_lt (by omega)) (Ev.tt (by omega) (spec_Mean_l0 hs m r hr d (i + 1) (by omega))))
theorem spec_Mean_no {l : List Int} {Z m : Int} {r : List Int × Bool} (hj : ∀ j : Nat, j ≤ 10 → Ev (fun k => spec_MeanBlocks.j1 k l Z m (j : Int)) r) : ∀ (d i : Nat), i + d = 10 → Ev (fun k => spec_MeanBlocks.l0 k l Z m (i : Int)) r
  | 0, i, h => by
    refine Ev.step (fun k => by simp only [spec_MeanBlocks.l0]; rfl) ?_
    refine Ev.tt (Int.natCast_nonneg _) ?_
    by_cases c : shl .i64 1 (i : Int) < Z
    · exact Ev.tt c (Ev.ff (by omega) (hj i (by omega)))
    · exact Ev.ff c (hj i (by omega))
  | d + 1, i, h => by
    have e3 : wrap64 ((i : Int) + 1) = ((i + 1 : Nat) : Int) := by rw [w64 (n := (i : Int) + 1) (by omega) (by omega)]; omega
    refine Ev.step (fun k => by simp only [spec_MeanBlocks.l0]; rfl) ?_
    refine Ev.tt (Int.natCast_nonneg _) ?_
    by_cases c : shl .i64 1 (i : Int) < Z
    · rw [e3]
      exact Ev.tt c (Ev.tt (by omega) (spec_Mean_no hj d (i + 1) (by omega)))
    · exact Ev.ff c (hj i (by omega))
theorem mode_eq (s m : Int) (h : 0 ≤ s ∧ s ≤ 20) : modeOk s m = (decide (0 ≤ m) && decide (m ≤ 2)) := by
  simp [modeOk, h.1, h.2]
theorem pow_of {Z : Int} (h : Z = 1 ∨ Z = 2 ∨ Z = 4 ∨ Z = 8) : ∃ s : Nat, s ≤ 3 ∧ Z = 2 ^ s ∧ Z.toNat = 2 ^ s := by
  rcases h with rfl | rfl | rfl | rfl
  · exact ⟨0, by omega, rfl, rfl⟩
  · exact ⟨1, by omega, rfl, rfl⟩
  · exact ⟨2, by omega, rfl, rfl⟩
  · exact ⟨3, by omega, rfl, rfl⟩
theorem and_pow {Z : Int} (h : 1 ≤ Z ∧ Z ≤ 8) : (Go.bits .and .i64 Z (wrap64 (Z - 1)) != 0) = !(decide (Z = 1 ∨ Z = 2 ∨ Z = 4 ∨ Z = 8)) := by
  obtain rfl | rfl | rfl | rfl | rfl | rfl | rfl | rfl : Z = 1 ∨ Z = 2 ∨ Z = 3 ∨ Z = 4 ∨ Z = 5 ∨ Z = 6 ∨ Z = 7 ∨ Z = 8 := by omega
  all_goals decide +kernel
theorem impl_MeanBlocks_ev (l : List Int) (Z m : Int) (hl : l.length ≤ 1000000) : Ev (fun k => impl_MeanBlocks.f k l Z m) (meanM l Z m) := by
  have no : Ev (fun k => impl_MeanBlocks.j0 k l Z m true) ([], false) := by
    refine Ev.step (fun k => by simp only [impl_MeanBlocks.j0]; rfl) ?_
    exact Ev.tt (by simp) (Ev.now _)
  simp only [impl_MeanBlocks.f]
  refine Ev.bind (impl_isSignal_ev l (by omega)) ?_
  by_cases c : sig l = true
  · refine Ev.tt c (Ev.dbind (impl_isRate_eq Z) ?_)
    by_cases d : 1 ≤ Z ∧ Z ≤ 8
    · have hd : (decide (1 ≤ Z) && decide (Z ≤ 8)) = true := by simp [d.1, d.2]
      refine Ev.tt hd (Ev.dbind (su_isShift m) ?_)
      rw [mode_eq 0 m (by omega), and_pow d]
      by_cases e : 0 ≤ m ∧ m ≤ 2
      · have he : (decide (0 ≤ m) && decide (m ≤ 2)) = true := by simp [e.1, e.2]
        refine Ev.tt he ?_
        by_cases p : Z = 1 ∨ Z = 2 ∨ Z = 4 ∨ Z = 8
        · rw [meanM, if_pos ⟨c, p, e⟩, decide_eq_true p]
          obtain ⟨s, hs, hz, hzn⟩ := pow_of p
          have h1 := impl_Mean_l1 c hs m (l.length / 2 ^ s) 0 (by omega)
          have z3 : (2 : Int) ^ s = ((2 ^ s : Nat) : Int) := by simp
          rw [Nat.zero_mul, ← z3, toldM, if_pos (means_sig c (Nat.two_pow_pos s) (by have := Nat.pow_le_pow_right (show 0 < 2 by decide) hs; omega) m)] at h1
          rw [hzn, hz]
          refine Ev.step (fun k => by simp only [impl_MeanBlocks.j0]; rfl) ?_
          exact Ev.ff (by simp) (impl_Mean_l0 hs m _ h1 s 0 (by omega))
        · rw [meanM, if_neg (fun h => p h.2.1), decide_eq_false p]
          exact no
      · rw [meanM, if_neg (fun h => e h.2.2)]
        refine Ev.ff ?_ no
        simp only [Bool.and_eq_true, decide_eq_true_eq]
        exact e
    · rw [meanM, if_neg (fun h => d (by omega))]
      refine Ev.ff ?_ no
      simp only [Bool.and_eq_true, decide_eq_true_eq]
      exact d
  · rw [meanM, if_neg (fun h => c h.1)]
    exact Ev.ff c no
theorem spec_MeanBlocks_ev (l : List Int) (Z m : Int) (hl : l.length ≤ 1000000) : Ev (fun k => spec_MeanBlocks.f k l Z m) (meanM l Z m) := by
  have no : ∀ j : Nat, Ev (fun k => spec_MeanBlocks.j2 k l Z m (j : Int) true) ([], false) := by
    intro j
    refine Ev.step (fun k => by simp only [spec_MeanBlocks.j2]; rfl) ?_
    exact Ev.tt (by simp) (Ev.now _)
  simp only [spec_MeanBlocks.f]
  by_cases g : sig l = true ∧ (Z = 1 ∨ Z = 2 ∨ Z = 4 ∨ Z = 8) ∧ (0 ≤ m ∧ m ≤ 2)
  · rw [meanM, if_pos g]
    obtain ⟨s, hs, hz, hzn⟩ := pow_of g.2.1
    have h1 := spec_Mean_l1 g.1 hs m (l.length / 2 ^ s) 0 (by omega)
    have z3 : (2 : Int) ^ s = ((2 ^ s : Nat) : Int) := by simp
    rw [Nat.zero_mul, ← z3] at h1
    have hZ : 1 ≤ Z ∧ Z ≤ 8 := by omega
    have hd : (decide (1 ≤ Z) && decide (Z ≤ 8)) = true := by simp [hZ.1, hZ.2]
    have hm : (decide (0 ≤ m) && decide (m ≤ 2)) = true := by simp [g.2.2.1, g.2.2.2]
    rw [hzn]
    rw [hz] at hd ⊢
    refine spec_Mean_l0 hs m _ ?_ s 0 (by omega)
    refine Ev.step (fun k => by simp only [spec_MeanBlocks.j1]; rfl) ?_
    refine Ev.bind (spec_wdSignal_ev l (by omega)) (Ev.tt g.1 (Ev.dbind (spec_l1In_eq _ 1 8) (Ev.tt hd ?_)))
    rw [shl_big (by omega)]
    refine Ev.tt (Int.natCast_nonneg _) (Ev.tt rfl (Ev.dbind (spec_wdMode_eq _ m) ?_))
    rw [mode_eq _ m (by omega), hm]
    refine Ev.step (fun k => by simp only [spec_MeanBlocks.j2]; rfl) ?_
    exact Ev.ff (by simp) h1
  · rw [meanM, if_neg g]
    refine spec_Mean_no (fun j hj => ?_) 10 0 (by omega)
    refine Ev.step (fun k => by simp only [spec_MeanBlocks.j1]; rfl) ?_
    refine Ev.bind (spec_wdSignal_ev l (by omega)) ?_
    by_cases c : sig l = true
    · refine Ev.tt c (Ev.dbind (spec_l1In_eq Z 1 8) ?_)
      by_cases d : 1 ≤ Z ∧ Z ≤ 8
      · have hd : (decide (1 ≤ Z) && decide (Z ≤ 8)) = true := by simp [d.1, d.2]
        refine Ev.tt hd ?_
        rw [shl_big (by omega)]
        refine Ev.tt (Int.natCast_nonneg _) ?_
        by_cases p : (2 : Int) ^ j = Z
        · refine Ev.tt p (Ev.dbind (spec_wdMode_eq _ m) ?_)
          have hj3 : j ≤ 3 := by
            by_cases q : j ≤ 3
            · exact q
            · have := two_lt (i := 3) (s := j) (by omega)
              have e : (2 : Int) ^ 3 = 8 := by decide
              omega
          have hp : Z = 1 ∨ Z = 2 ∨ Z = 4 ∨ Z = 8 := by
            rw [← p]
            obtain rfl | rfl | rfl | rfl : j = 0 ∨ j = 1 ∨ j = 2 ∨ j = 3 := by omega
            all_goals decide
          have hm : (decide (0 ≤ m) && decide (m ≤ 2)) = false := by
            rw [Bool.eq_false_iff]
            intro h
            simp only [Bool.and_eq_true, decide_eq_true_eq] at h
            exact g ⟨c, hp, h⟩
          rw [mode_eq _ m (by omega), hm]
          exact no j
        · exact Ev.ff p (no j)
      · refine Ev.ff ?_ (no j)
        simp only [Bool.and_eq_true, decide_eq_true_eq]
        exact d
    · exact Ev.ff c (no j)

theorem drawSums_ok {l : List Int} (hl : Bytes l) : ∃ s b k, Ev (fun m => spec_DrawWrappedSums.f m l) (s, b, k) ∧ s.length ≤ 100001 := by
  obtain ⟨k, R, a1, sd1, e1, ha1, hb1⟩ := stages_ok hl 0 0 (by omega) (by omega)
  obtain ⟨s, a2, sd2, e2, hs, ha2, hb2⟩ := signal_ok hl a1 sd1 12 60 (by omega) (by omega) (by omega) (by omega)
  obtain ⟨b, a3, sd3, e3, ha3, hb3⟩ := long_ok hl a2 sd2 (by omega) (by omega)
  refine ⟨s, b, k, ?_, hs⟩
  simp only [spec_DrawWrappedSums.f]
  exact Ev.dbind e1 (Ev.bind e2 (Ev.dbind e3 (Ev.now _)))

theorem drawBox_ok {l : List Int} (hl : Bytes l) : ∃ k R, spec_DrawBoxAnswer.f l = some (k, R) := by
  obtain ⟨k, R, a1, sd1, e1, ha1, hb1⟩ := stages_ok hl 0 0 (by omega) (by omega)
  refine ⟨k, R, ?_⟩
  unfold spec_DrawBoxAnswer.f
  rw [e1]
  rfl

theorem drawDrop_ok {l : List Int} (hl : Bytes l) : ∃ s R f, Ev (fun m => spec_DrawDropSamples.f m l) (s, R, f) ∧ s.length ≤ 100001 := by
  obtain ⟨s, a1, sd1, e1, hs, ha1, hb1⟩ := signal_ok hl 0 0 16 40 (by omega) (by omega) (by omega) (by omega)
  obtain ⟨u, a2, sd2, e2, ha2, hb2, -⟩ := pick_ok hl a1 sd1 10 (by omega) (by omega) (by omega)
  obtain ⟨v, a3, sd3, e3, ha3, hb3, -⟩ := pick_ok hl a2 sd2 5 (by omega) (by omega) (by omega)
  obtain ⟨x, a4, sd4, e4, ha4, hb4, -⟩ := pick_ok hl a3 sd3 9 (by omega) (by omega) (by omega)
  refine ⟨s, u, wrap64 (v - wrap64 (Int.tdiv x 8)), ?_, hs⟩
  simp only [spec_DrawDropSamples.f]
  exact Ev.bind e1 (Ev.dbind e2 (Ev.dbind e3 (Ev.dbind e4 (Ev.now _))))

theorem drawStuff_ok {l : List Int} (hl : Bytes l) : ∃ s R, Ev (fun m => spec_DrawStuffZeros.f m l) (s, R) ∧ s.length ≤ 100001 := by
  obtain ⟨s, a1, sd1, e1, hs, ha1, hb1⟩ := signal_ok hl 0 0 14 40 (by omega) (by omega) (by omega) (by omega)
  obtain ⟨u, a2, sd2, e2, ha2, hb2, -⟩ := pick_ok hl a1 sd1 10 (by omega) (by omega) (by omega)
  refine ⟨s, u, ?_, hs⟩
  simp only [spec_DrawStuffZeros.f]
  exact Ev.bind e1 (Ev.dbind e2 (Ev.now _))

theorem drawMean_ok {l : List Int} (hl : Bytes l) : ∃ s Z m, Ev (fun k => spec_DrawMeanBlocks.f k l) (s, Z, m) ∧ s.length ≤ 100001 ∧ Z ≤ 16 := by
  obtain ⟨s, a1, sd1, e1, hs, ha1, hb1⟩ := signal_ok hl 0 0 16 40 (by omega) (by omega) (by omega) (by omega)
  obtain ⟨Z, a2, sd2, e2, ha2, hb2, hz⟩ := among_ok hl a1 sd1 [1, 2, 4, 8, 2, 4, 3, 0, 16] (by omega) (by omega) (by decide) (by decide)
  obtain ⟨m, a3, sd3, e3, ha3, hb3, -⟩ := mode_ok hl a2 sd2 (by omega) (by omega)
  refine ⟨s, Z, m, ?_, hs, ?_⟩
  · simp only [spec_DrawMeanBlocks.f]
    exact Ev.bind e1 (Ev.dbind e2 (Ev.dbind e3 (Ev.now _)))
  · simp at hz
    omega

theorem drawBits_ok {l : List Int} (hl : Bytes l) : ∃ w k R, spec_DrawBitsForComb.f l = some (w, k, R) := by
  obtain ⟨k, R, a1, sd1, e1, ha1, hb1⟩ := stages_ok hl 0 0 (by omega) (by omega)
  obtain ⟨w, a2, sd2, e2, ha2, hb2, -⟩ := pick_ok hl a1 sd1 18 (by omega) (by omega) (by omega)
  refine ⟨w, k, R, ?_⟩
  unfold spec_DrawBitsForComb.f
  rw [e1]
  simp only [Option.bind_some]
  rw [e2]
  rfl

theorem gD_dropM (l : List Int) {R : Nat} (hR : 1 ≤ R) (f j : Nat) (h : f + j * R < l.length) : gD (dropM l R f) j = gD l (f + j * R) := by
  have h2 : j < dropN l.length R f := (dropN_lt hR).2 h
  rw [dropM, gD_Lf, if_pos h2]
  rfl
theorem gD_rep0 (k m : Nat) : gD (List.replicate k 0) m = 0 := by
  by_cases c : m < k
  · rw [gD_in _ m (by simp; exact c)]
    simp
  · rw [gD_out _ m (by simp; omega)]
theorem gD_stuffM {R : Nat} (hR : 1 ≤ R) : ∀ (l : List Int) (n : Nat), gD (stuffM R l) n = uz R (gD l) n
  | [], n => by
    rw [stuffM, gD_nil, uz]
    split
    · rw [gD_nil]
    · rfl
  | x :: t, n => by
    have hlen : (x :: List.replicate (R - 1) (0 : Int)).length = R := by simp; omega
    rw [stuffM]
    by_cases c : n < R
    · have e : gD ((x :: List.replicate (R - 1) 0) ++ stuffM R t) n = gD (x :: List.replicate (R - 1) 0) n := by
        unfold gD
        rw [List.getD_eq_getElem?_getD, List.getD_eq_getElem?_getD, List.getElem?_append_left (by rw [hlen]; exact c)]
      rw [e]
      cases n with
      | zero => rw [gD_zero, uz, if_pos (Nat.zero_mod R), Nat.zero_div, gD_zero]
      | succ m => rw [gD_succ, gD_rep0, uz, Nat.mod_eq_of_lt c, if_neg (by omega)]
    · have e : gD ((x :: List.replicate (R - 1) 0) ++ stuffM R t) n = gD (stuffM R t) (n - R) := by
        unfold gD
        rw [List.getD_eq_getElem?_getD, List.getD_eq_getElem?_getD, List.getElem?_append_right (by rw [hlen]; omega), hlen]
      obtain ⟨m, rfl⟩ : ∃ m, n = m + R := ⟨n - R, by omega⟩
      rw [e, gD_stuffM hR t, Nat.add_sub_cancel]
      unfold uz
      rw [Nat.add_mod_right, Nat.add_div_right m (by omega), gD_succ]
theorem stuffZ_iff {s : List Int} {R : Int} : (stuffZ s R).2 = true ↔ sig s = true ∧ (1 ≤ R ∧ R ≤ 8) ∧ (s.length : Int) * R ≤ 64 := by
  unfold stuffZ
  by_cases c : sig s = true ∧ 1 ≤ R ∧ R ≤ 8
  · rw [if_pos c]
    have h1 := stuffM_length R.toNat (by omega) s
    have h2 : ((s.length * R.toNat : Nat) : Int) = (s.length : Int) * R := by
      rw [Int.natCast_mul, Int.toNat_of_nonneg (by omega)]
    unfold toldM
    by_cases d : sig (stuffM R.toNat s) = true
    · rw [if_pos d]
      have := sig_len d
      exact ⟨fun _ => ⟨c.1, c.2, by omega⟩, fun _ => rfl⟩
    · rw [if_neg d]
      refine ⟨fun h => absurd h (by simp), fun h => absurd ?_ d⟩
      rw [sig_iff]
      exact ⟨by omega, stuffM_sig _ _ (sig_mem c.1)⟩
  · rw [if_neg c]
    exact ⟨fun h => absurd h (by simp), fun h => absurd ⟨h.1, h.2.1⟩ c⟩
theorem stuffZ_eq {s : List Int} {R : Int} (h : (stuffZ s R).2 = true) : stuffZ s R = (stuffM R.toNat s, true) := by
  have h1 := stuffZ_iff.1 h
  unfold stuffZ at *
  rw [if_pos ⟨h1.1, h1.2.1⟩] at *
  unfold toldM at *
  by_cases d : sig (stuffM R.toNat s) = true
  · rw [if_pos d]
  · rw [if_neg d] at h
    exact absurd h (by simp)
theorem law_j13 (w k R : Int) : Ev (fun m => laws_FnSumsUndone.j13 m w k R (bitsM w k R).1 (bitsM w k R).2 false) true := by
  refine Ev.step (fun k => by simp only [laws_FnSumsUndone.j13]; rfl) ?_
  refine Ev.ff (by simp) ?_
  by_cases c : (bitsM w k R).2 = true
  · refine Ev.tt c ?_
    have hcg := impl_CombGain_ev k R
    unfold bitsM at *
    by_cases g : goodB w = true ∧ combQ k R = true
    · rw [if_pos g] at *
      have e' := combQ_iff.1 g.2
      rw [cgM, if_pos g.2] at hcg
      have hg := gain_ok (R := R.toNat) (k := k.toNat) (by omega) (by omega) (by omega)
      obtain ⟨a1, a2, a3, a4⟩ := bL_ok _ 39 2 c
      obtain ⟨-, b2, b3, -, -, -⟩ := half g.1
      generalize hc : (bL (((R.toNat : Nat) : Int) ^ k.toNat * hf w) 39 2).1 = q at *
      obtain ⟨-, c2, c3, c4, -, -⟩ := halfL (b := q) (by omega)
      refine Ev.bind hcg (Ev.tt rfl ?_)
      rw [b2, c2, c4, su_shl g.1 (by omega) (by omega)]
      refine Ev.tt b3 (Ev.tt c3 (Ev.tt a3 ?_))
      by_cases d : q = 2
      · exact Ev.tt d (Ev.now _)
      · have e2 : wrap64 (q - 2) = q - 1 - 1 := by rw [w64 (n := q - 2) (by omega) (by omega)]; omega
        obtain ⟨-, d2, d3, d4, -, -⟩ := halfL (b := q - 1) (by omega)
        refine Ev.ff d ?_
        rw [e2, d4]
        refine Ev.tt (by omega) (Ev.to (Ev.now _) (decide_eq_true ?_))
        rcases a4 with a4 | a4
        · exact absurd a4 d
        · exact a4
    · rw [if_neg g] at c
      exact absurd c (by simp)
  · exact Ev.ff c (Ev.now _)
theorem meanM_len (l : List Int) (Z m : Int) : (meanM l Z m).1.length ≤ 64 := by
  unfold meanM
  split
  · rename_i g
    have h : 1 ≤ Z ∧ Z ≤ 8 := by omega
    exact sig_len (means_sig g.1 (by omega) (by omega) m)
  · simp
theorem law_j12 {l : List Int} (hl : Bytes l) : Ev (fun k => laws_FnSumsUndone.j12 k l) true := by
  obtain ⟨s, Z, m, hd, hs, hZ⟩ := drawMean_ok hl
  obtain ⟨w, k, R, hd2⟩ := drawBits_ok hl
  have h1 := impl_MeanBlocks_ev s Z m (by omega)
  have h2 := spec_MeanBlocks_ev s Z m (by omega)
  have h3 := impl_Bits_ev w k R
  have h4 := spec_Bits_ev w k R
  have lm := meanM_len s Z m
  refine Ev.step (fun k => by simp only [laws_FnSumsUndone.j12]; rfl) ?_
  refine Ev.bind hd (Ev.bind h1 (Ev.bind h2 (Ev.dbind hd2 (Ev.bind h3 (Ev.bind h4 ?_)))))
  refine Ev.ff (by simp) (Ev.bind (laws_iSame_ev _ (by omega)) ?_)
  refine Ev.tt rfl ?_
  refine Ev.ff (by simp) ?_
  refine Ev.tt rfl ?_
  by_cases c : (meanM s Z m).2 = true
  · refine Ev.tt c ?_
    unfold meanM at *
    by_cases g : sig s = true ∧ (Z = 1 ∨ Z = 2 ∨ Z = 4 ∨ Z = 8) ∧ (0 ≤ m ∧ m ≤ 2)
    · rw [if_pos g] at *
      have hs2 := sig_len g.1
      have hZ0 : Z ≠ 0 := by
        intro h
        omega
      refine Ev.ff hZ0 ?_
      have lm' : (meansM s Z.toNat m).length ≤ 64 := lm
      have e1 : ((meansM s Z.toNat m).length : Int) = (s.length : Int) / Z := by
        rw [meansM, Lf_length, Int.natCast_ediv, Int.toNat_of_nonneg (by omega)]
      have e2 : wrap64 ((s.length : Int) / Z) = (s.length : Int) / Z := by
        rw [← e1]
        exact w64 (n := ((meansM s Z.toNat m).length : Int)) (by omega) (by omega)
      rw [e2, ← e1, bne_self_eq_false]
      exact law_j13 w k R
    · rw [if_neg g] at c
      exact absurd c (by simp)
  · exact Ev.ff c (law_j13 w k R)
theorem drop_stuff {R : Nat} (hR : 1 ≤ R) (s : List Int) : dropM (stuffM R s) R 0 = s := by
  have hl : (stuffM R s).length = s.length * R := stuffM_length R hR s
  have hd : dropN (stuffM R s).length R 0 = s.length := by
    rw [hl]
    unfold dropN
    rw [Nat.sub_zero, Nat.add_sub_assoc hR, Nat.mul_comm]
    rw [Nat.mul_add_div (by omega), Nat.div_eq_of_lt (by omega), Nat.add_zero]
  apply list_gD
  · rw [dropM_length, hd]
  · intro n
    by_cases c : n < s.length
    · have h : 0 + n * R < (stuffM R s).length := by
        rw [hl, Nat.zero_add]
        exact Nat.mul_lt_mul_of_pos_right c (by omega)
      rw [gD_dropM _ hR _ _ h, gD_stuffM hR, Nat.zero_add, uz, if_pos (Nat.mul_mod_left _ _), Nat.mul_div_cancel _ (by omega)]
    · rw [gD_out _ n (by rw [dropM_length, hd]; omega), gD_out _ n (by omega)]
theorem sm_stuff (R : Nat) : ∀ s : List Int, sm (stuffM R s) = sm s
  | [] => rfl
  | x :: t => by
    have h0 : ∀ n : Nat, sm (List.replicate n 0) = 0 := by
      intro n
      induction n with
      | zero => rfl
      | succ n ih => rw [List.replicate_succ, sm, ih]; rfl
    rw [stuffM, sm_app, sm, h0, sm, sm_stuff R t]
    omega
theorem stuffZ_len (s : List Int) (R : Int) : (stuffZ s R).1.length ≤ 64 := by
  unfold stuffZ
  split
  · exact toldM_len _
  · simp
theorem law_j11 {l : List Int} (hl : Bytes l) (s : List Int) (R : Int) (hs : s.length ≤ 100001) : Ev (fun k => laws_FnSumsUndone.j11 k l s R (stuffZ s R).1 (stuffZ s R).2 false) true := by
  have lz := stuffZ_len s R
  refine Ev.step (fun k => by simp only [laws_FnSumsUndone.j11]; rfl) ?_
  refine Ev.ff (by simp) ?_
  by_cases c : (stuffZ s R).2 = true
  · have z := stuffZ_iff.1 c
    have e := stuffZ_eq c
    have hz : sig (stuffM R.toNat s) = true := by
      have h := e
      unfold stuffZ at h
      rw [if_pos ⟨z.1, z.2.1⟩] at h
      unfold toldM at h
      by_cases d : sig (stuffM R.toNat s) = true
      · exact d
      · rw [if_neg d] at h
        simp at h
    rw [e] at lz ⊢
    refine Ev.tt rfl ?_
    have hd := impl_DropSamples_ev (stuffM R.toNat s) R 0 (by have := sig_len hz; omega)
    rw [dropS, if_pos ⟨hz, z.2.1, by omega⟩, show (0 : Int).toNat = 0 from rfl, drop_stuff (by omega)] at hd
    have hsl := stuffM_length R.toNat (by omega) s
    have hsz := sig_len hz
    have hss := sig_len z.1
    refine Ev.bind hd (Ev.tt rfl (Ev.bind (laws_iSame_ev s (by omega)) (Ev.tt rfl ?_)))
    refine Ev.bind (laws_iSum_ev (stuffM R.toNat s) (by omega) (fun x hx => by have := sig_mem hz x hx; omega)) (Ev.bind (laws_iSum_ev s (by omega) (fun x hx => by have := sig_mem z.1 x hx; omega)) ?_)
    refine Ev.tt (sm_stuff _ s) (Ev.tt ?_ (law_j12 hl))
    show ((stuffM R.toNat s).length : Int) = _
    have e3 : R * (s.length : Int) = ((s.length * R.toNat : Nat) : Int) := by
      rw [Int.natCast_mul, Int.toNat_of_nonneg (by omega), Int.mul_comm]
    rw [e3, w64 (n := ((s.length * R.toNat : Nat) : Int)) (by omega) (by omega), hsl]
  · exact Ev.ff c (law_j12 hl)
theorem dropS_len (l : List Int) (R f : Int) : (dropS l R f).1.length ≤ 64 := by
  unfold dropS
  split
  · rename_i g
    have := dropN_le (len := l.length) (rate := R.toNat) (first := f.toNat) (by omega)
    have := sig_len g.1
    rw [dropM_length]
    omega
  · simp
theorem law_j10 {l : List Int} (hl : Bytes l) : Ev (fun k => laws_FnSumsUndone.j10 k l) true := by
  obtain ⟨t, R, f, hd, ht⟩ := drawDrop_ok hl
  obtain ⟨s, Q, hd2, hs⟩ := drawStuff_ok hl
  have h1 := impl_DropSamples_ev t R f (by omega)
  have h2 := spec_DropSamples_ev t R f (by omega)
  have h3 := impl_StuffZeros_ev s Q (by omega)
  have h4 := spec_StuffZeros_ev s Q (by omega)
  have l1 := dropS_len t R f
  have l2 := stuffZ_len s Q
  refine Ev.step (fun k => by simp only [laws_FnSumsUndone.j10]; rfl) ?_
  refine Ev.bind hd (Ev.bind h1 (Ev.bind h2 (Ev.bind hd2 (Ev.bind h3 (Ev.bind h4 ?_)))))
  refine Ev.ff (by simp) (Ev.bind (laws_iSame_ev _ (by omega)) ?_)
  refine Ev.tt rfl ?_
  refine Ev.ff (by simp) (Ev.bind (laws_iSame_ev _ (by omega)) ?_)
  exact law_j11 hl s Q hs
theorem gD_rev (l : List Int) (i : Nat) (h : i < l.length) : gD l.reverse i = gD l (l.length - 1 - i) := by
  rw [gD_in _ i (by simp; exact h), gD_in _ (l.length - 1 - i) (by omega), List.getElem_reverse]
theorem law_l2 {l : List Int} (hl : Bytes l) {B : List Int} (hB : B.length ≤ 1000) (hr : B.reverse = B) : ∀ (d i : Nat), i + d = B.length → Ev (fun k => laws_FnSumsUndone.l2 k l B (B.length : Int) (i : Int)) true
  | 0, i, h => by
    refine Ev.step (fun k => by simp only [laws_FnSumsUndone.l2]; rfl) ?_
    exact Ev.ff (by omega) (law_j10 hl)
  | d + 1, i, h => by
    have e3 : wrap64 ((i : Int) + 1) = ((i + 1 : Nat) : Int) := by rw [w64 (n := (i : Int) + 1) (by omega) (by omega)]; omega
    have e4 : wrap64 (wrap64 ((B.length : Int) - 1) - (i : Int)) = ((B.length - 1 - i : Nat) : Int) := by
      rw [w64 (n := (B.length : Int) - 1) (by omega) (by omega), w64 (n := (B.length : Int) - 1 - (i : Int)) (by omega) (by omega)]
      omega
    have e5 : rd B (i : Int) = rd B ((B.length - 1 - i : Nat) : Int) := by
      have h1 := gD_rev B i (by omega)
      rw [hr] at h1
      rw [rd_getD, rd_getD]
      exact h1
    refine Ev.step (fun k => by simp only [laws_FnSumsUndone.l2]; rfl) ?_
    rw [e3, e4]
    exact Ev.tt (by omega) (Ev.tt (Int.natCast_nonneg _) (Ev.tt (by omega) (Ev.tt (Int.natCast_nonneg _) (Ev.tt (by omega) (Ev.tt e5 (law_l2 hl hB hr d (i + 1) (by omega)))))))
theorem law_j8 {l : List Int} (hl : Bytes l) {B : List Int} (hB : B.length ≤ 1000) (hr : B.reverse = B) : Ev (fun k => laws_FnSumsUndone.j8 k l B false) true := by
  refine Ev.step (fun k => by simp only [laws_FnSumsUndone.j8]; rfl) ?_
  exact Ev.ff (by simp) (law_l2 hl hB hr B.length 0 (by omega))
theorem j7_ar {R k n : Nat} (hR : 1 ≤ R) (hR8 : R ≤ 8) (hk : k ≤ 4) (hn : n = k * (R - 1) + 1) : wrap64 (wrap64 ((k : Int) * wrap64 ((R : Int) - 1)) + 1) = (n : Int) := by
  have hm : k * (R - 1) ≤ 4 * 7 := Nat.mul_le_mul (by omega) (by omega)
  have e2 : wrap64 ((k : Int) * ((R - 1 : Nat) : Int)) = ((k * (R - 1) : Nat) : Int) := by
    rw [← Int.natCast_mul]
    exact w64n (by omega)
  rw [r_one hR hR8, e2, hn]
  generalize k * (R - 1) = q at *
  rw [w64 (n := (q : Int) + 1) (by omega) (by omega)]
  omega
theorem law_j7 {l : List Int} (hl : Bytes l) (k R : Int) : Ev (fun m => laws_FnSumsUndone.j7 m l k R (boxM k R).1 (boxM k R).2 (cgM k R).1 (droopM k R).1 (droopM k R).2.1 false) true := by
  refine Ev.step (fun k => by simp only [laws_FnSumsUndone.j7]; rfl) ?_
  refine Ev.ff (by simp) ?_
  by_cases e : combQ k R = true
  · have e' := combQ_iff.1 e
    obtain ⟨k, rfl⟩ : ∃ n : Nat, k = (n : Int) := ⟨k.toNat, by omega⟩
    obtain ⟨R, rfl⟩ : ∃ n : Nat, R = (n : Int) := ⟨R.toNat, by omega⟩
    have k4 : k ≤ 4 := by omega
    have r1 : 1 ≤ R := by omega
    have r8 : R ≤ 8 := by omega
    clear e'
    rw [boxM, if_pos e, cgM, if_pos e, droopM, if_pos e, Int.toNat_natCast, Int.toNat_natCast]
    have hb := box_ok r1 r8 k4
    obtain ⟨g1, g2, -, g4, g5, -, -⟩ := gain_ok r1 r8 k4
    have ar := j7_ar r1 r8 k4 g2
    generalize (R : Int) ^ k = G at *
    generalize pw (boxL R) k = B at *
    clear g2 e
    have hB : B.length ≤ 29 := hb.2
    have j8 := law_j8 hl (B := B) (by omega) g4
    have hne : 0 < (B.length : Int) := by
      cases B with
      | nil => simp [gD] at g5
      | cons x t => rw [List.length_cons]; omega
    have e4 : rd B 0 = 1 := (rd_getD B 0).trans g5
    have e5 : Int.tmod (R : Int) 2 = ((R % 2 : Nat) : Int) := tm R 2
    refine Ev.tt rfl (Ev.bind (laws_iSum_ev B (by omega) (fun x hx => by have := hb.1 x hx; omega)) (Ev.tt g1 ?_))
    rw [ar, e4, e5]
    refine Ev.tt rfl (Ev.tt hne (Ev.tt rfl ?_))
    by_cases p : R % 2 = 0
    · rw [if_pos (show (R : Int) % 2 = 0 by omega), p]
      exact Ev.ff (by simp) (Ev.ff (by simp) j8)
    · have p1 : R % 2 = 1 := by omega
      rw [if_neg (show ¬ (R : Int) % 2 = 0 by omega), p1]
      refine Ev.ff (by simp) (Ev.tt rfl (Ev.tt rfl ?_))
      rw [bne_self_eq_false]
      exact j8
  · rw [boxM, if_neg e]
    exact Ev.ff (by simp) (law_j10 hl)
theorem boxM_len (k R : Int) : (boxM k R).1.length ≤ 29 := by
  unfold boxM
  split
  · rename_i e
    have e' := combQ_iff.1 e
    exact (box_ok (by omega) (by omega) (by omega)).2
  · simp
theorem law_j6 {l : List Int} (hl : Bytes l) : Ev (fun k => laws_FnSumsUndone.j6 k l) true := by
  obtain ⟨k, R, hd⟩ := drawBox_ok hl
  have h1 := impl_BoxAnswer_ev k R
  have h2 := spec_BoxAnswer_ev k R
  have h3 := impl_CombGain_ev k R
  have h4 := spec_CombGain_ev k R
  have h5 := impl_BoxDroop_ev k R
  have h6 := spec_BoxDroop_ev k R
  have lb := boxM_len k R
  have q1 : (cgM k R).2 = (boxM k R).2 := by
    unfold cgM boxM
    split <;> rfl
  have q2 : (droopM k R).2.2 = (boxM k R).2 := by
    unfold droopM boxM
    split
    · split <;> rfl
    · rfl
  refine Ev.step (fun k => by simp only [laws_FnSumsUndone.j6]; rfl) ?_
  refine Ev.dbind hd (Ev.bind h1 (Ev.bind h2 (Ev.bind h3 (Ev.bind h4 (Ev.bind h5 (Ev.bind h6 ?_))))))
  refine Ev.ff (by simp) (Ev.bind (laws_iSame_ev _ (by omega)) ?_)
  refine Ev.tt rfl ?_
  refine Ev.ff (by simp) ?_
  refine Ev.tt rfl ?_
  refine Ev.ff (by simp) ?_
  refine Ev.tt rfl ?_
  refine Ev.tt rfl ?_
  refine Ev.ff (by rw [q1]; simp) ?_
  rw [q2, bne_self_eq_false]
  exact law_j7 hl k R
theorem cnt_zero (H : Int) : ∀ (l : List Int) (v : Int), cnt H v l = 0 → sumW H v l = sumE v l
  | [], _, _ => rfl
  | x :: t, v, h => by
    have hb := cnt_bd H t (fitH H true (v + x))
    simp only [cnt] at h
    have c : fitH H true (v + x) = v + x := by
      by_cases c : fitH H true (v + x) = v + x
      · exact c
      · rw [if_neg c] at h
        omega
    rw [if_pos c, Int.zero_add, c] at h
    rw [sumW, sumE, c, cnt_zero H t (v + x) h]
theorem law_j4 {l : List Int} (hl : Bytes l) {s : List Int} {b k : Int} (hs : sig s = true) (hq : combQ k 1 = true) : Ev (fun m => laws_FnSumsUndone.j4 m l s k (WS (hf b) k.toNat s) (cntS (hf b) k.toNat s)) true := by
  have hsl := sig_len hs
  have no : Ev (fun m => laws_FnSumsUndone.j5 m l s (WS (hf b) k.toNat s) false) true := by
    refine Ev.step (fun k => by simp only [laws_FnSumsUndone.j5]; rfl) ?_
    exact Ev.ff (by simp) (law_j6 hl)
  refine Ev.step (fun k => by simp only [laws_FnSumsUndone.j4]; rfl) ?_
  by_cases c : k = 1
  · refine Ev.tt c ?_
    by_cases d : cntS (hf b) k.toNat s = 0
    · have ed : (cntS (hf b) k.toNat s == 0) = true := by rw [d]; rfl
      rw [ed]
      refine Ev.step (fun k => by simp only [laws_FnSumsUndone.j5]; rfl) ?_
      refine Ev.tt (by simp) (Ev.bind (impl_RunningSums_ev s (by omega)) ?_)
      rw [runM, if_pos hs]
      by_cases e : sig (sumE 0 s) = true
      · rw [toldM, if_pos e]
        have k1 : k.toNat = 1 := by omega
        rw [k1] at d ⊢
        have hc : cnt (hf b) 0 s = 0 := by simpa [cntS] using d
        have ew : WS (hf b) 1 s = sumE 0 s := by
          rw [WS, WS, ← sumW_eq (hf b) s 0 0 rfl, cnt_zero _ _ _ hc]
        rw [ew]
        exact Ev.tt rfl (Ev.bind (laws_iSame_ev _ (by rw [sumE_length]; omega)) (Ev.tt rfl (law_j6 hl)))
      · rw [toldM, if_neg e]
        exact Ev.ff (by simp) (law_j6 hl)
    · have ed : (cntS (hf b) k.toNat s == 0) = false := beq_eq_false_iff_ne.mpr d
      rw [ed]
      exact no
  · exact Ev.ff c no
theorem WC_WS {b : Int} (g : 2 ≤ b ∧ b ≤ 40) {k : Nat} (hk : 1 ≤ k) (s : List Int) : WC (hf b) k (WS (hf b) k s) = fitL (hf b) s := by
  obtain ⟨hb, -⟩ := halfL g
  apply list_gD
  · rw [WC_length, WS_length, fitL_length]
  · intro n
    by_cases c : n < s.length
    · have A : ∀ f : Nat → Int, fitH (hf b) true (itz dfz k (fun i => fitH (hf b) true (f i)) n) = fitH (hf b) true (itz dfz k f n) := fun f => itz_fit (hf b) dfz (fun n h => dfz_congr n h) (dfz_fit (hf b)) k f n
      rw [← WC_fix (by omega) k _ n hk (by rw [WS_length]; exact c), gD_WC (by omega) k _ n (by rw [WS_length]; exact c), ← A, gD_fitL (by omega)]
      have e : itz dfz k (fun i => fitH (hf b) true (gD (WS (hf b) k s) i)) n = itz dfz k (fun i => fitH (hf b) true (itz smz k (gD s) i)) n :=
        itz_congr dfz (fun n h => dfz_congr n h) k _ _ n (fun i hi => gD_WS (by omega) k s i (by omega))
      rw [e, A, itz_inv dfz smz (fun n h => dfz_congr n h) (fun f n => dfz_smz f n)]
    · rw [gD_out _ n (by rw [WC_length, WS_length]; omega), gD_out _ n (by rw [fitL_length]; omega)]
theorem WS_WC {b : Int} (g : 2 ≤ b ∧ b ≤ 40) {k : Nat} (hk : 1 ≤ k) (s : List Int) : WS (hf b) k (WC (hf b) k s) = fitL (hf b) s := by
  obtain ⟨hb, -⟩ := halfL g
  apply list_gD
  · rw [WS_length, WC_length, fitL_length]
  · intro n
    by_cases c : n < s.length
    · have A : ∀ f : Nat → Int, fitH (hf b) true (itz smz k (fun i => fitH (hf b) true (f i)) n) = fitH (hf b) true (itz smz k f n) := fun f => itz_fit (hf b) smz (fun n h => smz_congr n h) (smz_fit (hf b)) k f n
      rw [← WS_fix (by omega) k _ n hk (by rw [WC_length]; exact c), gD_WS (by omega) k _ n (by rw [WC_length]; exact c), ← A, gD_fitL (by omega)]
      have e : itz smz k (fun i => fitH (hf b) true (gD (WC (hf b) k s) i)) n = itz smz k (fun i => fitH (hf b) true (itz dfz k (gD s) i)) n :=
        itz_congr smz (fun n h => smz_congr n h) k _ _ n (fun i hi => gD_WC (by omega) k s i (by omega))
      rw [e, A, itz_inv smz dfz (fun n h => smz_congr n h) (fun f n => smz_dfz f n)]
    · rw [gD_out _ n (by rw [WS_length, WC_length]; omega), gD_out _ n (by rw [fitL_length]; omega)]
theorem rd_fitL' (H : Int) (p t : List Int) (x : Int) : rd (fitL H (p ++ x :: t)) (p.length : Int) = fitH H true x := by
  have e : fitL H (p ++ x :: t) = fitL H p ++ fitH H true x :: fitL H t := by simp [fitL]
  have h := rd_mid (fitL H p) (fitL H t) (fitH H true x)
  rw [fitL_length] at h
  rw [e]
  exact h
theorem law_l1 {l : List Int} (hl : Bytes l) {s : List Int} {b k : Int} (g : 2 ≤ b ∧ b ≤ 40) (hs : sig s = true) (hq : combQ k 1 = true) : ∀ (t p : List Int), s = p ++ t →
    Ev (fun m => laws_FnSumsUndone.l1 m l s b k (WS (hf b) k.toNat s) (cntS (hf b) k.toNat s) (fitL (hf b) s) s (s.length : Int) (p.length : Int)) true
  | [], p, h => by
    have hp : p.length = s.length := by rw [h]; simp
    refine Ev.step (fun k => by simp only [laws_FnSumsUndone.l1]; rfl) ?_
    exact Ev.ff (by omega) (law_j4 hl hs hq)
  | x :: t, p, h => by
    have hsl := sig_len hs
    have e1 : (p.length : Int) < (s.length : Int) := by rw [h]; exact lt_mid p t x
    have e2 : rd s (p.length : Int) = x := by rw [h]; exact rd_mid p t x
    have e3 : wrap64 ((p.length : Int) + 1) = ((p ++ [x]).length : Int) := w64_suc p x (by omega)
    have e4 : rd (fitL (hf b) s) (p.length : Int) = fitH (hf b) true x := by rw [h]; exact rd_fitL' _ p t x
    have ih := law_l1 hl g hs hq t (p ++ [x]) (by simp [h])
    refine Ev.step (fun k => by simp only [laws_FnSumsUndone.l1]; rfl) ?_
    rw [e2, e3, e4]
    exact Ev.tt e1 (Ev.tt (Int.natCast_nonneg _) (Ev.tt e1 (Ev.tt (by rw [fitL_length]; exact e1) (Ev.dbind (laws_iWrap_eq x g) (Ev.tt rfl ih)))))
theorem law_j2 {l : List Int} (hl : Bytes l) {s : List Int} {b k : Int} (g : longQ b = true) (hs : sig s = true) (hq : combQ k 1 = true) : Ev (fun m => laws_FnSumsUndone.j2 m l s b k (WS (hf b) k.toNat s) (WC (hf b) k.toNat s) (cntS (hf b) k.toNat s)) true := by
  have hsl := sig_len hs
  have q := combQ_iff.1 hq
  refine Ev.step (fun k => by simp only [laws_FnSumsUndone.j2]; rfl) ?_
  refine Ev.bind (impl_WrappedSums_ev (WC (hf b) k.toNat s) b k (by rw [WC_length]; omega)) ?_
  by_cases c : sig (WC (hf b) k.toNat s) = true
  · rw [wsM, if_pos ⟨c, g, hq⟩, WS_WC (longQ_iff.1 g) (by omega) s]
    exact Ev.tt rfl (law_l1 hl (longQ_iff.1 g) hs hq s [] rfl)
  · rw [wsM, if_neg (fun h => c h.1)]
    exact Ev.ff (by simp) (law_j4 hl hs hq)
theorem law_l0 {l : List Int} (hl : Bytes l) {s : List Int} {b k : Int} (g : longQ b = true) (hs : sig s = true) (hq : combQ k 1 = true) : ∀ (t p : List Int), s = p ++ t →
    Ev (fun m => laws_FnSumsUndone.l0 m l s b k (WS (hf b) k.toNat s) (WC (hf b) k.toNat s) (cntS (hf b) k.toNat s) (fitL (hf b) s) s (s.length : Int) (p.length : Int)) true
  | [], p, h => by
    have hp : p.length = s.length := by rw [h]; simp
    refine Ev.step (fun k => by simp only [laws_FnSumsUndone.l0]; rfl) ?_
    exact Ev.ff (by omega) (law_j2 hl g hs hq)
  | x :: t, p, h => by
    have hsl := sig_len hs
    have e1 : (p.length : Int) < (s.length : Int) := by rw [h]; exact lt_mid p t x
    have e2 : rd s (p.length : Int) = x := by rw [h]; exact rd_mid p t x
    have e3 : wrap64 ((p.length : Int) + 1) = ((p ++ [x]).length : Int) := w64_suc p x (by omega)
    have e4 : rd (fitL (hf b) s) (p.length : Int) = fitH (hf b) true x := by rw [h]; exact rd_fitL' _ p t x
    have ih := law_l0 hl g hs hq t (p ++ [x]) (by simp [h])
    refine Ev.step (fun k => by simp only [laws_FnSumsUndone.l0]; rfl) ?_
    rw [e2, e3, e4]
    exact Ev.tt e1 (Ev.tt (Int.natCast_nonneg _) (Ev.tt e1 (Ev.tt (by rw [fitL_length]; exact e1) (Ev.dbind (laws_iWrap_eq x (longQ_iff.1 g)) (Ev.tt rfl ih)))))
theorem FnSumsUndone : laws_FnSumsUndone.Pure := by
  intro l1 l2 m1 m2 m3 n1 n2 n3
  apply Ev.rounds
  simp only [laws_FnSumsUndone.f]
  refine Ev.dbind (laws_big_eq l1 l2 (by omega) (by omega)) ?_
  by_cases hb : 1048576 < l1.length + l2.length
  · exact Ev.tt (by simpa using hb) (Ev.now _)
  refine Ev.ff (by simpa using hb) ?_
  have B1 := bytes_of (l := l1) (by omega) m3
  have B2 := bytes_of (l := l2) (by omega) n3
  obtain ⟨s, b, k, hd, hs⟩ := drawSums_ok B1
  have h1 := impl_WrappedSums_ev s b k (by omega)
  have h2 := spec_WrappedSums_ev s b k (by omega)
  have h3 := impl_WrappedCombs_ev s b k (by omega)
  have h4 := spec_WrappedCombs_ev s b k (by omega)
  have h5 := impl_CountWraps_ev s b k (by omega)
  have h6 := spec_CountWraps_ev s b k (by omega)
  by_cases c : sig s = true ∧ longQ b = true ∧ combQ k 1 = true
  · have hsl := sig_len c.1
    have q := combQ_iff.1 c.2.2
    rw [wsM, if_pos c] at h1 h2
    rw [wcM, if_pos c] at h3 h4
    rw [countM, if_pos c] at h5 h6
    refine Ev.bind hd (Ev.bind h1 (Ev.bind h2 (Ev.bind h3 (Ev.bind h4 (Ev.bind h5 (Ev.bind h6 ?_))))))
    refine Ev.ff (by simp) (Ev.bind (laws_iSame_ev _ (by rw [WS_length]; omega)) ?_)
    refine Ev.tt rfl ?_
    refine Ev.ff (by simp) (Ev.bind (laws_iSame_ev _ (by rw [WC_length]; omega)) ?_)
    refine Ev.tt rfl ?_
    refine Ev.ff (by simp) (Ev.tt rfl ?_)
    refine Ev.ff (by simp) ?_
    refine Ev.step (fun k => by simp only [laws_FnSumsUndone.j0]; rfl) ?_
    refine Ev.ff (by simp) (Ev.tt (by simp) ?_)
    refine Ev.bind (impl_WrappedCombs_ev (WS (hf b) k.toNat s) b k (by rw [WS_length]; omega)) ?_
    by_cases d : sig (WS (hf b) k.toNat s) = true
    · rw [wcM, if_pos ⟨d, c.2.1, c.2.2⟩, WC_WS (longQ_iff.1 c.2.1) (by omega) s]
      exact Ev.tt rfl (law_l0 B2 c.2.1 c.1 c.2.2 s [] rfl)
    · rw [wcM, if_neg (fun h => d h.1)]
      exact Ev.ff (by simp) (law_j2 B2 c.2.1 c.1 c.2.2)
  · rw [wsM, if_neg c] at h1 h2
    rw [wcM, if_neg c] at h3 h4
    rw [countM, if_neg c] at h5 h6
    refine Ev.bind hd (Ev.bind h1 (Ev.bind h2 (Ev.bind h3 (Ev.bind h4 (Ev.bind h5 (Ev.bind h6 ?_))))))
    refine Ev.ff (by simp) (Ev.bind (laws_iSame_ev _ (by simp)) ?_)
    refine Ev.tt rfl ?_
    refine Ev.ff (by simp) (Ev.bind (laws_iSame_ev _ (by simp)) ?_)
    refine Ev.tt rfl ?_
    refine Ev.ff (by simp) (Ev.tt rfl ?_)
    refine Ev.ff (by simp) ?_
    refine Ev.step (fun k => by simp only [laws_FnSumsUndone.j0]; rfl) ?_
    exact Ev.ff (by simp) (Ev.ff (by simp) (law_j6 B2))

end Go.Proofs.Ytjplcongellcmaa.Pure
