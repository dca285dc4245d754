/- FnPairsRun: the plain law behind the statement FnPairsRun. No condition. -/
import Derived.Test.YtjplcongellcmaaPFnPairsRunx21
namespace Go.Proofs.Ytjplcongellcmaa.Pure
open Go.RowKit Go.Proofs.Ytjplcongellcmaa.PFnPairsRun Go.Proofs.YtjplcongellcmaaW.PrintWords Go.Proofs.YtjplcongellcmaaW.PrintLast Go.Proofs.YtjplcongellcmaaW.PrintMore
set_option linter.unusedVariables false
set_option linter.unusedSimpArgs false

theorem w64 {n : Int} (h1 : -9223372036854775808 ≤ n) (h2 : n ≤ 9223372036854775807) : wrap64 n = n := by
  unfold wrap64
  omega
theorem Ev.to {α : Type} {g : Nat → Option α} {r r' : α} (h : Ev g r) (e : r = r') : Ev g r' := e ▸ h
theorem Ev.const {α : Type} {g : Option α} {r : α} (h : g = some r) : Ev (fun _ => g) r := ⟨0, fun _ _ => h⟩
theorem Ev.dbind {α β : Type} {g : Option α} {f : Nat → α → Option β} {a : α} {r : β} (h : g = some a) (k : Ev (fun n => f n a) r) : Ev (fun n => g.bind (f n)) r :=
  Ev.bind (g := fun _ => g) (Ev.const h) k
theorem Ev.tt {α : Type} {c : Prop} {_ : Decidable c} {g f : Nat → Option α} {r : α} (h : c) (k : Ev g r) : Ev (fun n => if c then g n else f n) r := by
  simpa only [if_pos h] using k
theorem Ev.ff {α : Type} {c : Prop} {_ : Decidable c} {g f : Nat → Option α} {r : α} (h : ¬ c) (k : Ev f r) : Ev (fun n => if c then g n else f n) r := by
  simpa only [if_neg h] using k
theorem rd_mid (p t : List Int) (x : Int) : rd (p ++ x :: t) (p.length : Int) = x := by
  simp [rd]
theorem lt_mid {α : Type} (p t : List α) (x : α) : (p.length : Int) < ((p ++ x :: t).length : Int) := by
  simp
  omega
theorem nx_mid {α : Type} (p t : List α) (x : α) (h : (p ++ x :: t).length ≤ 140737488351232) : wrap64 ((p.length : Int) + 1) = ((p ++ [x]).length : Int) := by
  simp at h ⊢
  exact w64 (by omega) (by omega)
theorem ap_mid {α : Type} (p t : List α) (x : α) : p ++ x :: t = (p ++ [x]) ++ t := by simp
theorem w64_nat (a b : Nat) (h : a + b ≤ 1000000000) : wrap64 ((a : Int) + (b : Int)) = ((a + b : Nat) : Int) := by
  rw [w64 (n := (a : Int) + (b : Int)) (by omega) (by omega)]
  omega
theorem w64_suc {α : Type} (q : List α) (x : α) (h : q.length ≤ 1000000000) : wrap64 ((q.length : Int) + 1) = ((q ++ [x]).length : Int) := by
  rw [w64 (n := (q.length : Int) + 1) (by omega) (by omega)]
  simp
theorem ar1 {a b c d : Nat} (h1 : a + 1 ≤ c) (h2 : b + 1 ≤ d) : ((a + b : Nat) : Int) < ((c + d - 1 : Nat) : Int) := by omega
theorem ar2 {a b c d : Nat} (h1 : a + 1 ≤ c) (h2 : b + 1 ≤ d) : a + b < c + d - 1 := by omega
theorem ar3 (a b : Nat) : ¬ (a ≤ a + b ∧ a + b - a < b) := by omega
theorem ar4 {v M : Int} (h : -M ≤ v ∧ v ≤ M) (hm : M ≤ 4000000000000000000) : wrap64 v = v := w64 (by omega) (by omega)
theorem ar5 {c v P M H : Int} (hc : -P ≤ c ∧ c ≤ P) (hv : -M ≤ v ∧ v ≤ M) (hp : P + M ≤ H) (hH : H ≤ 4000000000000000000) : wrap64 (c + v) = c + v := w64 (by omega) (by omega)
theorem ar6 {a b : Nat} {M : Int} (h : a + 1 ≤ b) (hM : 0 ≤ M) : (a : Int) * M + M ≤ (b : Int) * M := by
  have h1 : ((a : Int) + 1) * M ≤ (b : Int) * M := Int.mul_le_mul_of_nonneg_right (by omega) hM
  rw [Int.add_mul, Int.one_mul] at h1
  exact h1
theorem ar7 {a b c d : Nat} (h1 : a + 1 ≤ c) (h2 : b + 1 ≤ d) (h : c + d ≤ 100000000) : a + b ≤ 1000000000 := by omega
theorem ar8 {a c d : Nat} (h1 : a + 1 ≤ c) (h : c + d ≤ 100000000) : a ≤ 1000000000 := by omega
theorem tm (a b : Nat) : Int.tmod (a : Int) (b : Int) = ((a % b : Nat) : Int) := (Int.ofNat_tmod a b).symm
theorem td (a b : Nat) : Int.tdiv (a : Int) (b : Int) = ((a / b : Nat) : Int) := (Int.ofNat_tdiv a b).symm
theorem w64n {a : Nat} (h : a ≤ 1000000000) : wrap64 (a : Int) = (a : Int) := w64 (by omega) (by omega)

def backOf (n : Int) : Int × Bool := if n = 3 then (-1, true) else if n = 4 then (0, true) else if n = 6 then (1, true) else (0, false)
def tnF (c : Int) : List Int → Int → Int → Int × Int
  | [], y, z => (y, z)
  | x :: t, y, z => tnF c t (wrap64 ((wrap64 (x + (wrap64 (c * y)))) - z)) y
def sig (l : List Int) : Bool := decide (l.length ≤ 64) && l.all fun x => decide (-100000 ≤ x) && decide (x ≤ 100000)
def toneStates (l : List Int) (n : Int) : Int × Int × Bool := if (backOf n).2 = true then (if sig l = true then ((tnF (backOf n).1 l 0 0).1, (tnF (backOf n).1 l 0 0).2, true) else (0, 0, false)) else (0, 0, false)
theorem sig_len {l : List Int} (h : sig l = true) : l.length ≤ 64 := by
  simp [sig] at h
  exact h.1
theorem sig_mem {l : List Int} (h : sig l = true) : ∀ x ∈ l, -100000 ≤ x ∧ x ≤ 100000 := by
  simp [sig] at h
  exact h.2
def isBits (l : List Int) : Bool := decide (l.length ≤ 200) && l.all fun x => decide (x = 1 ∨ x = -1)
theorem isBits_len {l : List Int} (h : isBits l = true) : l.length ≤ 200 := by
  simp [isBits] at h
  exact h.1
theorem isBits_mem {l : List Int} (h : isBits l = true) : ∀ x ∈ l, x = 1 ∨ x = -1 := by
  simp [isBits] at h
  exact h.2
def toldM (l : List Int) : List Int × Bool := if sig l = true then (l, true) else ([], false)
theorem toldM_len (l : List Int) : (toldM l).1.length ≤ 64 := by
  unfold toldM
  split
  · exact sig_len ‹_›
  · simp
def bitM (x v : Int) : Int := if x ≥ v then 1 else -1
theorem bitM_cases (x v : Int) : bitM x v = 1 ∨ bitM x v = -1 := by
  unfold bitM
  split <;> simp
def tkS (st last : Int) (fixed : Bool) (bit : Int) : Int :=
  if fixed = true then st else if last = 0 then st else if bit = last then (if 2 * st ≤ 4096 then 2 * st else 4096) else (if 1 ≤ st / 2 then st / 2 else 1)
theorem tkS_bd {st last : Int} {fixed : Bool} {bit : Int} (h0 : 1 ≤ st) (h1 : st ≤ 4096) : 1 ≤ tkS st last fixed bit ∧ tkS st last fixed bit ≤ 4096 := by
  unfold tkS
  repeat' split
  all_goals omega
theorem mul_bit {st bit : Int} (hb : bit = 1 ∨ bit = -1) : st * bit = st ∨ st * bit = -st := by
  rcases hb with rfl | rfl
  · left; omega
  · right; omega
/-- bit, value and step behind each sample -/
def codeM (fixed : Bool) : List Int → Int → Int → Int → List (Int × Int × Int)
  | [], _, _, _ => []
  | x :: t, v, st, last =>
    let b := bitM x v
    let s := tkS st last fixed b
    (b, v + s * b, s) :: codeM fixed t (v + s * b) s b
theorem codeM_length (fixed : Bool) : ∀ (l : List Int) (v st last : Int), (codeM fixed l v st last).length = l.length
  | [], _, _, _ => rfl
  | x :: t, v, st, last => by simp [codeM, codeM_length fixed t]
def fixM (st : Int) : List Int → Int → List Int
  | [], _ => []
  | x :: t, v => bitM x v :: fixM st t (v + bitM x v * st)
theorem fixM_length (st : Int) : ∀ (l : List Int) (v : Int), (fixM st l v).length = l.length
  | [], _ => rfl
  | x :: t, v => by simp [fixM, fixM_length st t]
def fixedBits (l : List Int) (st : Int) : List Int × Bool := if sig l = true ∧ 1 ≤ st ∧ st ≤ 4096 then (fixM st l 0, true) else ([], false)
def decM (fixed : Bool) : List Int → Int → Int → Int → List (Int × Int)
  | [], _, _, _ => []
  | b :: t, v, st, last => (v + tkS st last fixed b * b, tkS st last fixed b) :: decM fixed t (v + tkS st last fixed b * b) (tkS st last fixed b) b
theorem decM_length (fixed : Bool) : ∀ (l : List Int) (v st last : Int), (decM fixed l v st last).length = l.length
  | [], _, _, _ => rfl
  | x :: t, v, st, last => by simp [decM, decM_length fixed t]
def gapM : List Int → List Int → List Int
  | x :: t, y :: u => (x - y) :: gapM t u
  | _, _ => []
theorem gapM_length : ∀ (l m : List Int), l.length = m.length → (gapM l m).length = l.length
  | [], m, _ => by cases m <;> simp [gapM]
  | x :: t, [], h => by simp at h
  | x :: t, y :: u, h => by
    simp at h
    simp [gapM, gapM_length t u h]
theorem codeM_val (fixed : Bool) : ∀ (l : List Int) (v st last : Int) (n : Int), 1 ≤ st → st ≤ 4096 → -4096 * n ≤ v → v ≤ 4096 * n → ∀ y ∈ (codeM fixed l v st last).map (·.2.1), -4096 * (n + l.length) ≤ y ∧ y ≤ 4096 * (n + l.length)
  | [], _, _, _, _, _, _, _, _, y, hy => by simp [codeM] at hy
  | x :: t, v, st, last, n, h0, h1, hv0, hv1, y, hy => by
    have hb := bitM_cases x v
    have hk := tkS_bd (last := last) (fixed := fixed) (bit := bitM x v) h0 h1
    have hm := mul_bit (st := tkS st last fixed (bitM x v)) hb
    simp only [codeM, List.map_cons, List.mem_cons] at hy
    rcases hy with rfl | hy
    · simp; omega
    · have := codeM_val fixed t _ _ _ (n + 1) hk.1 hk.2 (by omega) (by omega) y hy
      simp; omega
def stepOk (st : Int) : Bool := decide (1 ≤ st) && decide (st ≤ 4096)
theorem stepOk_iff {st : Int} : stepOk st = true ↔ 1 ≤ st ∧ st ≤ 4096 := by simp [stepOk]
def stepBits (l : List Int) (st : Int) : List Int × Bool := if sig l = true then (if stepOk st = true then ((codeM false l 0 st 0).map (·.1), true) else ([], false)) else ([], false)
def stepValues (l : List Int) (st : Int) : List Int × Bool := if isBits l = true then (if stepOk st = true then toldM ((decM false l 0 st 0).map (·.1)) else ([], false)) else ([], false)
def stepsOfBits (l : List Int) (st : Int) : List Int × Bool := if isBits l = true then (if stepOk st = true then toldM ((decM false l 0 st 0).map (·.2)) else ([], false)) else ([], false)
def fixedValues (l : List Int) (st : Int) : List Int × Bool := if isBits l = true then (if stepOk st = true then toldM ((decM true l 0 st 0).map (·.1)) else ([], false)) else ([], false)
def stepGaps (l : List Int) (st : Int) : List Int × Bool := if sig l = true then (if stepOk st = true then toldM (gapM l ((codeM false l 0 st 0).map (·.2.1))) else ([], false)) else ([], false)
def wts (l : List Int) : Bool := decide (1 ≤ l.length) && decide (l.length ≤ 9) && l.all fun x => decide (-1000 ≤ x) && decide (x ≤ 1000)
theorem wts_len {l : List Int} (h : wts l = true) : 1 ≤ l.length ∧ l.length ≤ 9 := by
  simp [wts] at h
  exact ⟨h.1.1, h.1.2⟩
theorem wts_mem {l : List Int} (h : wts l = true) : ∀ x ∈ l, -1000 ≤ x ∧ x ≤ 1000 := by
  simp [wts] at h
  exact h.2
def ratio (p q : Int) : Bool := (decide (1 ≤ p) && decide (p ≤ 8)) && (decide (1 ≤ q) && decide (q ≤ 8))
theorem ratio_iff {p q : Int} : ratio p q = true ↔ (1 ≤ p ∧ p ≤ 8) ∧ (1 ≤ q ∧ q ≤ 8) := by simp [ratio]
def rsOk (h l : List Int) (p q : Int) : Bool := wts h && ((sig l && ratio p q) && decide ((l.length : Int) * p ≤ 64))
def peakM : List Int → Nat → Nat
  | [], m => m
  | x :: t, m => peakM t (max m x.natAbs)

def cv : List Int → List Int → Nat → Int
  | [], _, _ => 0
  | w :: _, s, 0 => w * s.getD 0 0
  | w :: h, s, n + 1 => w * s.getD (n + 1) 0 + cv h s n
def Lf (f : Nat → Int) (N : Nat) : List Int := (List.range N).map f
theorem Lf_length (f : Nat → Int) (N : Nat) : (Lf f N).length = N := by simp [Lf]
theorem rd_Lf (f : Nat → Int) (N i : Nat) (h : i < N) : rd (Lf f N) (i : Int) = f i := by
  simp [rd, Lf, h]
theorem set_Lf (f : Nat → Int) (N i : Nat) (v : Int) : (Lf f N).set i v = Lf (fun n => if n = i then v else f n) N := by
  apply List.ext_getElem
  · simp [Lf]
  · intro n h1 h2
    simp [Lf, List.getElem_set]
    by_cases c : i = n
    · simp [c]
    · rw [if_neg c, if_neg (fun h => c h.symm)]
theorem Lf_congr {f g : Nat → Int} {N : Nat} (h : ∀ n, n < N → f n = g n) : Lf f N = Lf g N := by
  apply List.ext_getElem
  · simp [Lf]
  · intro n h1 h2
    simp [Lf] at h1 ⊢
    exact h n h1
theorem cv_snoc (s : List Int) (w : Int) : ∀ (p : List Int) (n : Nat), cv (p ++ [w]) s n = cv p s n + (if p.length ≤ n then w * s.getD (n - p.length) 0 else 0)
  | [], 0 => by simp [cv]
  | [], n + 1 => by simp [cv]
  | a :: p, 0 => by simp [cv]
  | a :: p, n + 1 => by
    simp only [List.cons_append, cv, cv_snoc s w p n, List.length_cons, Nat.add_le_add_iff_right, Nat.add_sub_add_right]
    omega
theorem getD_bd {s : List Int} {a M : Int} (hM : 0 ≤ M) (h : ∀ x ∈ s, -M ≤ a * x ∧ a * x ≤ M) (n : Nat) : -M ≤ a * s.getD n 0 ∧ a * s.getD n 0 ≤ M := by
  rw [List.getD_eq_getElem?_getD]
  by_cases c : n < s.length
  · rw [List.getElem?_eq_getElem c]
    exact h _ (List.getElem_mem c)
  · rw [List.getElem?_eq_none (by omega)]
    simp
    omega
theorem cv_bd {s : List Int} {M : Int} (hM : 0 ≤ M) : ∀ (h : List Int) (n : Nat), (∀ a ∈ h, ∀ x ∈ s, -M ≤ a * x ∧ a * x ≤ M) → -(h.length * M) ≤ cv h s n ∧ cv h s n ≤ h.length * M
  | [], n, hb => by simp [cv]
  | a :: h, 0, hb => by
    have h1 := getD_bd hM (hb a (by simp)) 0
    have h2 : 0 ≤ (h.length : Int) * M := Int.mul_nonneg (by omega) hM
    simp only [cv, List.length_cons, Int.natCast_add, Int.add_mul]
    omega
  | a :: h, n + 1, hb => by
    have h1 := getD_bd hM (hb a (by simp)) (n + 1)
    have h2 := cv_bd hM h n (fun b hbm => hb b (by simp [hbm]))
    simp only [cv, List.length_cons, Int.natCast_add, Int.add_mul]
    omega
def conv (h s : List Int) : List Int := if s = [] then [] else Lf (cv h s) (h.length + s.length - 1)
theorem conv_length (h s : List Int) (hs : s ≠ []) : (conv h s).length = h.length + s.length - 1 := by
  rw [conv, if_neg hs, Lf_length]
/-- what stands in the list when the weights p are done, and of the weight w the samples q -/
def cvi (p q s : List Int) (w : Int) (n : Nat) : Int := cv p s n + (if p.length ≤ n ∧ n - p.length < q.length then w * s.getD (n - p.length) 0 else 0)
theorem cvi_nil (p s : List Int) (w : Int) : cvi p [] s w = cv p s := by
  funext n
  simp [cvi]
theorem cvi_all (p s : List Int) (w : Int) (n : Nat) : cvi p s s w n = cv (p ++ [w]) s n := by
  rw [cv_snoc, cvi]
  by_cases c : p.length ≤ n
  · by_cases d : n - p.length < s.length
    · rw [if_pos ⟨c, d⟩, if_pos c]
    · rw [if_neg (fun h => d h.2), if_pos c, List.getD_eq_getElem?_getD, List.getElem?_eq_none (by omega)]
      simp
  · rw [if_neg (fun h => c h.1), if_neg c]
theorem getD_mid (q t : List Int) (x : Int) : (q ++ x :: t).getD q.length 0 = x := by simp
theorem cvi_step (p q t : List Int) (w x : Int) (n : Nat) : (if n = p.length + q.length then cvi p q (q ++ x :: t) w n + w * x else cvi p q (q ++ x :: t) w n) = cvi p (q ++ [x]) (q ++ x :: t) w n := by
  unfold cvi
  by_cases c : n = p.length + q.length
  · subst c
    have e : p.length + q.length - p.length = q.length := by omega
    rw [if_pos rfl, e, getD_mid, if_neg (by omega), if_pos ⟨by omega, by simp⟩]
    omega
  · rw [if_neg c]
    by_cases d : p.length ≤ n ∧ n - p.length < q.length
    · rw [if_pos d, if_pos ⟨d.1, by simp; omega⟩]
    · rw [if_neg d, if_neg (fun h => d ⟨h.1, by have := h.2; simp at this; omega⟩)]
theorem Lf_succ (f : Nat → Int) (n : Nat) : Lf f (n + 1) = Lf f n ++ [f n] := by simp [Lf, List.range_succ]
def dropN (len rate first : Nat) : Nat := (len - first + rate - 1) / rate
theorem dropN_lt {len rate first j : Nat} (hr : 1 ≤ rate) : j < dropN len rate first ↔ first + j * rate < len := by
  unfold dropN
  rw [Nat.lt_iff_add_one_le, Nat.le_div_iff_mul_le (by omega), Nat.add_mul]
  omega
def dropM (l : List Int) (rate first : Nat) : List Int := Lf (fun j => l.getD (first + j * rate) 0) (dropN l.length rate first)
theorem dropM_length (l : List Int) (rate first : Nat) : (dropM l rate first).length = dropN l.length rate first := Lf_length _ _
theorem dropN_le {len rate first : Nat} (hr : 1 ≤ rate) : dropN len rate first ≤ len := by
  apply Nat.le_of_not_lt
  intro h
  have := (dropN_lt hr).1 h
  have h2 : len * 1 ≤ len * rate := Nat.mul_le_mul_left len hr
  omega
def stuffM (p : Nat) : List Int → List Int
  | [] => []
  | x :: t => (x :: List.replicate (p - 1) 0) ++ stuffM p t
theorem stuffM_length (p : Nat) (hp : 1 ≤ p) : ∀ l : List Int, (stuffM p l).length = l.length * p
  | [] => by simp [stuffM]
  | x :: t => by
    simp only [stuffM, List.length_append, List.length_cons, List.length_replicate, stuffM_length p hp t, Nat.add_mul]
    omega
theorem stuffM_snoc (p : Nat) (x : Int) : ∀ l : List Int, stuffM p (l ++ [x]) = stuffM p l ++ (x :: List.replicate (p - 1) 0)
  | [] => by simp [stuffM]
  | y :: t => by simp [stuffM, stuffM_snoc p x t]
theorem rd_getD (l : List Int) (i : Nat) : rd l (i : Int) = l.getD i 0 := by simp [rd]
theorem stuffM_sig (p : Nat) : ∀ l : List Int, (∀ x ∈ l, -100000 ≤ x ∧ x ≤ 100000) → ∀ x ∈ stuffM p l, -100000 ≤ x ∧ x ≤ 100000
  | [], _, x, h => by simp [stuffM] at h
  | y :: t, hl, x, h => by
    simp only [stuffM, List.mem_append, List.mem_cons, List.mem_replicate] at h
    rcases h with (rfl | ⟨_, rfl⟩) | h
    · exact hl _ (by simp)
    · omega
    · exact stuffM_sig p t (fun z hz => hl z (by simp [hz])) x h
theorem sig_iff {l : List Int} : sig l = true ↔ l.length ≤ 64 ∧ ∀ x ∈ l, -100000 ≤ x ∧ x ≤ 100000 := by simp [sig]
theorem ediv_bd {x b : Int} (hb : 0 < b) (hx : -4611686018427387904 ≤ x ∧ x ≤ 4611686018427387904) : -4611686018427387905 ≤ x / b ∧ x / b ≤ 4611686018427387905 := by
  have h0 := Int.emod_nonneg x (show b ≠ 0 by omega)
  have h1 := Int.emod_lt_of_pos x hb
  have h2 := Int.emod_add_mul_ediv x b
  constructor
  · apply Int.not_lt.1
    intro h
    have : b * (x / b) ≤ 1 * (x / b) := Int.mul_le_mul_of_nonpos_right (by omega) (by omega)
    have h3 : b * (x / b) ≤ b * (-4611686018427387906) := Int.mul_le_mul_of_nonneg_left (by omega) (by omega)
    omega
  · apply Int.not_lt.1
    intro h
    have h3 : 1 * (x / b) ≤ b * (x / b) := Int.mul_le_mul_of_nonneg_right (by omega) (by omega)
    omega
def atM (s : List Int) (i : Int) : Int := if 0 ≤ i then s.getD i.toNat 0 else 0
theorem getD_all {l : List Int} {M : Int} (hM : 0 ≤ M) (h : ∀ x ∈ l, -M ≤ x ∧ x ≤ M) (n : Nat) : -M ≤ l.getD n 0 ∧ l.getD n 0 ≤ M := by
  rw [List.getD_eq_getElem?_getD]
  by_cases c : n < l.length
  · rw [List.getElem?_eq_getElem c]
    exact h _ (List.getElem_mem c)
  · rw [List.getElem?_eq_none (by omega)]
    simp
    omega
def totL : List (List Int) → Nat
  | [] => 0
  | x :: t => x.length + totL t

theorem spec_l1In_eq (a b c : Int) : spec_l1In.f a b c = some (decide (b ≤ a) && decide (a ≤ c)) := by
  unfold spec_l1In.f
  by_cases h : b ≤ a <;> simp [h]

theorem impl_in_eq (a b c : Int) : impl_in.f a b c = some (decide (b ≤ a) && decide (a ≤ c)) := by
  unfold impl_in.f
  by_cases h : b ≤ a <;> simp [h]

theorem spec_l1All_l0 (lo hi : Int) (l : List Int) (hl : l.length ≤ 140737488351232) : ∀ (t p : List Int), l = p ++ t → Ev (fun k => spec_l1All.l0 k lo hi l (l.length : Int) (p.length : Int)) (t.all fun x => decide (lo ≤ x) && decide (x ≤ hi))
  | [], p, h => by
    apply Ev.step (f := fun _ => some _)
    · intro k
      subst h
      simp [spec_l1All.l0]; rfl
    · exact Ev.now _
  | x :: t, p, h => by
    have e1 : (p.length : Int) < (l.length : Int) := by rw [h]; exact lt_mid p t x
    have e2 : rd l (p.length : Int) = x := by rw [h]; exact rd_mid p t x
    have e3 : wrap64 ((p.length : Int) + 1) = ((p ++ [x]).length : Int) := nx_mid p t x (h ▸ hl)
    by_cases c : (decide (lo ≤ x) && decide (x ≤ hi)) = true
    · refine Ev.to (Ev.step (fun k => ?_) (spec_l1All_l0 lo hi l hl t (p ++ [x]) (by simp [h]))) (by rw [List.all_cons, c, Bool.true_and])
      simp only [spec_l1All.l0, if_pos e1, if_pos (Int.natCast_nonneg _), e2, e3, spec_l1In_eq, Option.bind_some, if_pos c]
    · refine Ev.to (Ev.step (fun k => ?_) (Ev.now false)) (by rw [List.all_cons, Bool.eq_false_iff.mpr c, Bool.false_and])
      simp only [spec_l1All.l0, if_pos e1, if_pos (Int.natCast_nonneg _), e2, e3, spec_l1In_eq, Option.bind_some, if_neg c]
theorem spec_l1All_ev (l : List Int) (lo hi : Int) (hl : l.length ≤ 140737488351232) : Ev (fun k => spec_l1All.f k l lo hi) (l.all fun x => decide (lo ≤ x) && decide (x ≤ hi)) := by
  simpa [spec_l1All.f] using spec_l1All_l0 lo hi l hl l [] rfl

theorem spec_wdSignal_ev (l : List Int) (hl : l.length ≤ 140737488351232) : Ev (fun k => spec_wdSignal.f k l) (sig l) := by
  simp only [spec_wdSignal.f]
  by_cases c : (l.length : Int) ≤ 64
  · refine Ev.tt c (Ev.bind (spec_l1All_ev l (-100000) 100000 hl) (Ev.to (Ev.now _) ?_))
    simp [sig]; omega
  · refine Ev.ff c (Ev.to (Ev.now _) ?_)
    simp [sig]; omega

theorem impl_isSignal_c1_eq (x : Int) : impl_isSignal_c1.f x = some (!(decide (-100000 ≤ x) && decide (x ≤ 100000))) := by
  unfold impl_isSignal_c1.f
  rw [impl_in_eq]
  rfl
theorem indexSignal_l0 (l : List Int) (hl : l.length ≤ 140737488351232) : ∀ (t p : List Int), l = p ++ t → ∃ r, Ev (fun k => slices_IndexFunc_int_int_impl_isSignal_c1.l0 k l (l.length : Int) (p.length : Int)) r ∧ (decide (r ≥ 0) = !(t.all fun x => decide (-100000 ≤ x) && decide (x ≤ 100000)))
  | [], p, h => by
    refine ⟨-1, Ev.step (f := fun _ => some (-1)) ?_ (Ev.now _), by simp⟩
    intro k
    subst h
    simp [slices_IndexFunc_int_int_impl_isSignal_c1.l0]
  | x :: t, p, h => by
    have e1 : (p.length : Int) < (l.length : Int) := by rw [h]; exact lt_mid p t x
    have e2 : rd l (p.length : Int) = x := by rw [h]; exact rd_mid p t x
    have e3 : wrap64 ((p.length : Int) + 1) = ((p ++ [x]).length : Int) := nx_mid p t x (h ▸ hl)
    by_cases c : (decide (-100000 ≤ x) && decide (x ≤ 100000)) = true
    · obtain ⟨r, h1, h2⟩ := indexSignal_l0 l hl t (p ++ [x]) (by simp [h])
      refine ⟨r, Ev.step (fun k => ?_) h1, by rw [h2, List.all_cons, c, Bool.true_and]⟩
      simp only [slices_IndexFunc_int_int_impl_isSignal_c1.l0, if_pos e1, if_pos (Int.natCast_nonneg _), e2, e3, impl_isSignal_c1_eq, c, Option.bind_some, Bool.not_true]
      rfl
    · have c := Bool.eq_false_iff.mpr c
      refine ⟨(p.length : Int), Ev.step (fun k => ?_) (Ev.now _), by rw [List.all_cons, c]; simp⟩
      simp only [slices_IndexFunc_int_int_impl_isSignal_c1.l0, if_pos e1, if_pos (Int.natCast_nonneg _), e2, e3, impl_isSignal_c1_eq, c, Option.bind_some, Bool.not_false]
      rfl
theorem impl_isSignal_ev (l : List Int) (hl : l.length ≤ 140737488351232) : Ev (fun k => impl_isSignal.f k l) (sig l) := by
  simp only [impl_isSignal.f]
  by_cases c : (l.length : Int) ≤ 64
  · obtain ⟨r, h1, h2⟩ := indexSignal_l0 l hl l [] rfl
    refine Ev.tt c (Ev.bind (a := decide (r ≥ 0)) ?_ (Ev.to (Ev.now _) ?_))
    · simp only [slices_ContainsFunc_int_int_impl_isSignal_c1.f, slices_IndexFunc_int_int_impl_isSignal_c1.f]
      exact Ev.bind h1 (Ev.now _)
    · rw [h2]; simp [sig]; omega
  · refine Ev.ff c (Ev.to (Ev.now _) ?_)
    simp [sig]; omega

theorem spec_l1Abs_eq (x : Int) (h : -1000000000000000000 ≤ x ∧ x ≤ 1000000000000000000) : spec_l1Abs.f x = some (x.natAbs : Int) := by
  unfold spec_l1Abs.f spec_l1Most.f
  rw [w64 (n := -x) (by omega) (by omega)]
  by_cases c : x > -x
  · rw [if_pos c]; simp; omega
  · rw [if_neg c]; simp; omega

theorem impl_size_eq (x : Int) (h : -1000000000000000000 ≤ x ∧ x ≤ 1000000000000000000) : impl_size.f x = some (x.natAbs : Int) := by
  unfold impl_size.f mx
  rw [w64 (n := -x) (by omega) (by omega)]
  by_cases c : x < -x
  · rw [if_pos c]; simp; omega
  · rw [if_neg c]; simp; omega

/-- What a cursor gives: a value with P, and at most c steps further. -/
def Dr {α : Type} (P : α → Prop) (c : Int) (a : Int) (g : Option (α × Int × Int)) : Prop := ∃ v a' sd, g = some (v, a', sd) ∧ a ≤ a' ∧ a' ≤ a + c ∧ P v
theorem u64_bd (n : Int) : 0 ≤ IntKind.u64.wrap n ∧ IntKind.u64.wrap n < 18446744073709551616 := by
  simp only [IntKind.wrap, IntKind.bits, IntKind.signed]
  simp
  omega
theorem u64_and255 (x : Int) (h0 : 0 ≤ x) (h1 : x < 18446744073709551616) : Go.bits .and .u64 x 255 = x % 256 :=
  bits_mask .u64 64 (by decide) (fun n h0 h1 => by
    simp only [IntKind.wrap, IntKind.bits, IntKind.signed]
    simp
    omega) 8 (by decide) x h0 h1
def Bytes (l : List Int) : Prop := l.length ≤ 1048576 ∧ ∀ x ∈ l, 0 ≤ x ∧ x ≤ 255
theorem next_ok {l : List Int} (hl : Bytes l) (a sd : Int) (h0 : 0 ≤ a) (h1 : a ≤ 1000000000000000) : Dr (fun v => 0 ≤ v ∧ v ≤ 255) 1 a (spec_l1Cur_next.f l a sd) := by
  have hw : wrap64 (a + 1) = a + 1 := w64 (by omega) (by omega)
  have hm : ∀ y : Int, 0 ≤ wrap64 (Go.bits .and .u64 (IntKind.u64.wrap y / 1099511627776) 255) ∧ wrap64 (Go.bits .and .u64 (IntKind.u64.wrap y / 1099511627776) 255) ≤ 255 := by
    intro y
    have hy := u64_bd y
    rw [u64_and255 _ (by omega) (by omega), w64 (n := IntKind.u64.wrap y / 1099511627776 % 256) (by omega) (by omega)]
    omega
  unfold spec_l1Cur_next.f
  by_cases c : a < (l.length : Int)
  · have hr : 0 ≤ rd l a ∧ rd l a ≤ 255 := by
      obtain ⟨n, rfl⟩ : ∃ n : Nat, a = (n : Int) := ⟨a.toNat, by omega⟩
      have hn : n < l.length := by omega
      rw [rd_getD, List.getD_eq_getElem?_getD, List.getElem?_eq_getElem hn]
      exact hl.2 _ (List.getElem_mem hn)
    rw [if_pos c, if_pos h0, hw, if_pos (by omega), w64 (n := rd l a) (by omega) (by omega)]
    exact ⟨_, _, _, rfl, by omega, by omega, hr⟩
  · rw [if_neg c, hw]
    by_cases d : a + 1 ≤ (l.length : Int)
    · omega
    · rw [if_neg d]
      exact ⟨_, _, _, rfl, by omega, by omega, hm _⟩

theorem pick_ok {l : List Int} (hl : Bytes l) (a sd n : Int) (h0 : 0 ≤ a) (h1 : a ≤ 100000000000000) (hn : n ≤ 1000000) : Dr (fun v => 0 ≤ v ∧ (v < n ∨ v = 0)) 2 a (spec_l1Cur_pick.f l a sd n) := by
  unfold spec_l1Cur_pick.f
  by_cases c : n ≤ 1
  · rw [if_pos c]
    exact ⟨_, _, _, rfl, by omega, by omega, by omega, .inr rfl⟩
  · rw [if_neg c]
    obtain ⟨v, a', sd', e, ha, hb, hv⟩ := next_ok hl a sd h0 (by omega)
    rw [e]
    simp only [Option.bind_some]
    have hn0 : ¬ n = 0 := by omega
    by_cases d : n > 200
    · rw [if_pos d]
      obtain ⟨v2, a2, sd2, e2, ha2, hb2, hv2⟩ := next_ok hl a' sd' (by omega) (by omega)
      rw [e2]
      simp only [Option.bind_some]
      rw [if_neg hn0, w64 (n := v * 256) (by omega) (by omega), w64 (n := v * 256 + v2) (by omega) (by omega), Int.tmod_eq_emod_of_nonneg (by omega)]
      have := Int.emod_nonneg (v * 256 + v2) hn0
      have := Int.emod_lt_of_pos (v * 256 + v2) (show 0 < n by omega)
      exact ⟨_, _, _, rfl, by omega, by omega, by omega, .inl (by omega)⟩
    · rw [if_neg d, if_neg hn0, Int.tmod_eq_emod_of_nonneg (by omega)]
      have := Int.emod_nonneg v hn0
      have := Int.emod_lt_of_pos v (show 0 < n by omega)
      exact ⟨_, _, _, rfl, by omega, by omega, by omega, .inl (by omega)⟩

theorem among_ok {l : List Int} (hl : Bytes l) (a sd : Int) (m : List Int) (h0 : 0 ≤ a) (h1 : a ≤ 100000000000000) (hm : 1 ≤ m.length) (hm2 : m.length ≤ 1000) : Dr (fun v => v ∈ m) 2 a (spec_l1Cur_among.f l a sd m) := by
  unfold spec_l1Cur_among.f
  obtain ⟨v, a', sd', e, ha, hb, hv, hv2⟩ := pick_ok hl a sd (m.length : Int) h0 h1 (by omega)
  rw [e]
  simp only [Option.bind_some]
  rw [if_pos hv, if_pos (by omega)]
  refine ⟨_, _, _, rfl, ha, hb, ?_⟩
  obtain ⟨n, rfl⟩ : ∃ n : Nat, v = (n : Int) := ⟨v.toNat, by omega⟩
  have hn : n < m.length := by omega
  rw [rd_getD, List.getD_eq_getElem?_getD, List.getElem?_eq_getElem hn]
  exact List.getElem_mem hn

theorem one_ok {l : List Int} (hl : Bytes l) (a sd n : Int) (h0 : 0 ≤ a) (h1 : a ≤ 100000000000000) (hn : n ≤ 1000000) : Dr (fun _ => True) 2 a (spec_l1Cur_one.f l a sd n) := by
  unfold spec_l1Cur_one.f
  obtain ⟨v, a', sd', e, ha, hb, hv, hv2⟩ := pick_ok hl a sd n h0 h1 hn
  rw [e]
  simp only [Option.bind_some]
  exact ⟨_, _, _, rfl, ha, hb, trivial⟩

theorem number_ok {l : List Int} (hl : Bytes l) (a sd : Int) (h0 : 0 ≤ a) (h1 : a ≤ 10000000000000) : Dr (fun v => -4611686018427387904 ≤ v ∧ v ≤ 4611686018427387904) 10 a (spec_l1Cur_number.f l a sd) := by
  unfold spec_l1Cur_number.f
  obtain ⟨v, a1, sd1, e, ha, hb, hv⟩ := pick_ok hl a sd 14 h0 (by omega) (by omega)
  rw [e]
  simp only [Option.bind_some]
  by_cases c : v = 0
  · rw [if_pos c]
    obtain ⟨u, a2, sd2, e2, ha2, hb2, hu⟩ := among_ok hl a1 sd1 [1000000000000, (-1000000000000), 1000000000001, (-4611686018427387904), 549755813888] (by omega) (by omega) (by simp) (by simp)
    rw [e2]
    simp only [Option.bind_some]
    refine ⟨_, _, _, rfl, by omega, by omega, ?_⟩
    simp at hu
    rcases hu with rfl | rfl | rfl | rfl | rfl <;> decide
  · rw [if_neg c]
    by_cases d : v = 1
    · rw [if_pos d]
      obtain ⟨u, a2, sd2, e2, ha2, hb2, hu, hu2⟩ := pick_ok hl a1 sd1 256 (by omega) (by omega) (by omega)
      rw [e2]
      simp only [Option.bind_some]
      obtain ⟨u3, a3, sd3, e3, ha3, hb3, hu3, hu4⟩ := pick_ok hl a2 sd2 256 (by omega) (by omega) (by omega)
      rw [e3]
      simp only [Option.bind_some]
      refine ⟨_, _, _, rfl, by omega, by omega, ?_⟩
      rw [w64 (n := u * 256) (by omega) (by omega), w64 (n := u * 256 + u3) (by omega) (by omega), w64 (n := (u * 256 + u3) * 256) (by omega) (by omega), w64 (n := (u * 256 + u3) * 256 - 5000000) (by omega) (by omega)]
      omega
    · rw [if_neg d]
      obtain ⟨u, a2, sd2, e2, ha2, hb2, hu, hu2⟩ := pick_ok hl a1 sd1 200 (by omega) (by omega) (by omega)
      rw [e2]
      simp only [Option.bind_some]
      refine ⟨_, _, _, rfl, by omega, by omega, ?_⟩
      rw [w64 (n := u - 100) (by omega) (by omega)]
      omega

theorem laws_big_eq (l m : List Int) (hl : l.length ≤ 140737488355328) (hm : m.length ≤ 140737488355328) : laws_big.f l m = some (decide (1048576 < l.length + m.length)) := by
  unfold laws_big.f
  by_cases c : (l.length : Int) > 1048576
  · rw [if_pos c]
    simp; omega
  · rw [if_neg c, w64 (n := 1048576 - (l.length : Int)) (by omega) (by omega)]
    simp; omega
theorem bytes_of {l : List Int} (h : l.length ≤ 1048576) (hx : ∀ x ∈ l, (Lit.int .u8 x).wf = true) : Bytes l := by
  refine ⟨h, fun x hxl => ?_⟩
  have := hx x hxl
  simp [Lit.wf, IntKind.min, IntKind.max, IntKind.signed, IntKind.bits] at this
  omega

/-- A number shifted: down, to the nearest one, towards 0. -/
def shM (x b mode : Int) : Int := if mode = 1 ∧ b ≤ 2 * (x % b) ∧ 0 < x % b then x / b + 1 else if mode = 2 ∧ x < 0 ∧ 0 < x % b then x / b + 1 else x / b
theorem div_uniq {x b q r : Int} (h : x = q * b + r) (h0 : 0 ≤ r) (h1 : r < b) : x / b = q := by
  have hb : 0 < b := by omega
  exact ((Int.ediv_emod_unique hb).2 ⟨by rw [h, Int.mul_comm]; omega, h0, h1⟩).1
theorem pow2_pos (s : Nat) : (0 : Int) < 2 ^ s := Int.pow_pos (by decide)
theorem pow2_le {s : Nat} (h : s ≤ 20) : (2 : Int) ^ s ≤ 1048576 := by
  have h1 : (2 : Nat) ^ s ≤ 2 ^ 20 := Nat.pow_le_pow_right (by decide) h
  have h3 : (2 : Int) ^ s = (((2 : Nat) ^ s : Nat) : Int) := by simp
  rw [h3]
  have h2 : (2 : Nat) ^ 20 = 1048576 := by decide
  omega
theorem shl_one {s : Nat} (h : s ≤ 20) : shl .i64 1 (s : Int) = 2 ^ s := by
  unfold shl
  have h1 : min ((s : Int)).toNat IntKind.i64.bits = s := by
    simp [IntKind.bits]; omega
  rw [h1, Int.one_mul, IntKind.wrap_i64]
  have := pow2_pos s
  have := pow2_le h
  omega
theorem shl_mul {s : Nat} (h : s ≤ 20) (y : Int) (h1 : -9223372036854775808 ≤ y * 2 ^ s) (h2 : y * 2 ^ s ≤ 9223372036854775807) : shl .i64 y (s : Int) = y * 2 ^ s := by
  unfold shl
  have e : min ((s : Int)).toNat IntKind.i64.bits = s := by
    simp [IntKind.bits]; omega
  rw [e, IntKind.wrap_i64]
  omega
theorem shr_div {s : Nat} (h : s ≤ 20) (y : Int) : shr .i64 y (s : Int) = y / 2 ^ s := by
  unfold shr
  have e : min ((s : Int)).toNat IntKind.i64.bits = s := by
    simp [IntKind.bits]; omega
  rw [e]
theorem mod_eq (x b : Int) : x = (x / b) * b + x % b := by
  have := Int.emod_add_mul_ediv x b
  rw [Int.mul_comm] at this
  omega

theorem impl_shifted_ev (x : Int) (s : Nat) (mode : Int) (hs : s ≤ 20) (hx : -4611686018427387904 ≤ x ∧ x ≤ 4611686018427387904) : Ev (fun k => impl_shifted.f k x (s : Int) mode) (shM x (2 ^ s) mode) := by
  have hb := pow2_pos s
  have hb2 := pow2_le hs
  have hr0 := Int.emod_nonneg x (show (2 : Int) ^ s ≠ 0 by omega)
  have hr1 := Int.emod_lt_of_pos x hb
  have hd := mod_eq x (2 ^ s)
  simp only [impl_shifted.f]
  by_cases c : mode = 1
  · refine Ev.tt c ?_
    by_cases d : (s : Int) > 0
    · obtain ⟨m, rfl⟩ : ∃ m, s = m + 1 := ⟨s - 1, by omega⟩
      have e1 : wrap64 (((m + 1 : Nat) : Int) - 1) = (m : Int) := by
        rw [w64 (n := ((m + 1 : Nat) : Int) - 1) (by omega) (by omega)]
        omega
      have hp : (2 : Int) ^ (m + 1) = 2 * 2 ^ m := by rw [Int.pow_succ]; omega
      have hpm := pow2_pos m
      have e2 : wrap64 (x + 2 ^ m) = x + 2 ^ m := w64 (by omega) (by omega)
      refine Ev.step (f := fun _ => some (shM x (2 ^ (m + 1)) mode)) (fun k => ?_) (Ev.now _)
      simp only [impl_shifted.j0, e1, shl_one (s := m) (by omega), e2, shr_div hs]
      rw [if_pos (by simp), if_pos (Int.natCast_nonneg _), if_pos (Int.natCast_nonneg _)]
      congr 1
      unfold shM
      by_cases g : (2 : Int) ^ (m + 1) ≤ 2 * (x % 2 ^ (m + 1)) ∧ 0 < x % 2 ^ (m + 1)
      · rw [if_pos ⟨c, g⟩]
        refine div_uniq (r := x % 2 ^ (m + 1) - 2 ^ m) ?_ (by omega) (by omega)
        rw [Int.add_mul]
        omega
      · rw [if_neg (fun h => g h.2), if_neg (fun h => by omega)]
        refine div_uniq (r := x % 2 ^ (m + 1) + 2 ^ m) (by omega) (by omega) (by omega)
    · have e : s = 0 := by omega
      subst e
      refine Ev.step (f := fun _ => some (shM x (2 ^ 0) mode)) (fun k => ?_) (Ev.now _)
      simp only [impl_shifted.j0, shr_div (s := 0) (by omega)]
      rw [if_neg (by simp), if_neg (by omega), if_pos (by omega)]
      congr 1
      unfold shM
      rw [if_neg (fun h => by have := h.2.2; simp at this), if_neg (fun h => by omega)]
  · refine Ev.ff c ?_
    refine Ev.step (f := fun _ => some (shM x (2 ^ s) mode)) (fun k => ?_) (Ev.now _)
    simp only [impl_shifted.j0, shr_div hs]
    rw [if_neg (by decide)]
    have hS : shM x (2 ^ s) mode = if mode = 2 ∧ x < 0 ∧ 0 < x % 2 ^ s then x / 2 ^ s + 1 else x / 2 ^ s := by
      unfold shM
      rw [if_neg (fun h => c h.1)]
    rw [hS]
    clear hS
    by_cases d : mode = 2
    · rw [if_pos d]
      by_cases g : x < 0
      · rw [if_pos g, if_pos (Int.natCast_nonneg _), w64 (n := -x) (by omega) (by omega)]
        by_cases r : 0 < x % 2 ^ s
        · rw [if_pos ⟨d, g, r⟩]
          have e : (-x) / 2 ^ s = -(x / 2 ^ s) - 1 := by
            refine div_uniq (r := 2 ^ s - x % 2 ^ s) ?_ (by omega) (by omega)
            rw [Int.sub_mul, Int.neg_mul]
            omega
          have hq : -4611686018427387905 ≤ x / 2 ^ s ∧ x / 2 ^ s ≤ 4611686018427387905 := ediv_bd hb hx
          rw [e, w64 (n := -(-(x / 2 ^ s) - 1)) (by omega) (by omega)]
          congr 1
          omega
        · rw [if_neg (fun h => r h.2.2)]
          have e : (-x) / 2 ^ s = -(x / 2 ^ s) := by
            refine div_uniq (r := 0) ?_ (by omega) (by omega)
            rw [Int.neg_mul]
            omega
          have hq : -4611686018427387905 ≤ x / 2 ^ s ∧ x / 2 ^ s ≤ 4611686018427387905 := ediv_bd hb hx
          rw [e, w64 (n := -(-(x / 2 ^ s))) (by omega) (by omega)]
          congr 1
          omega
      · rw [if_neg g, if_pos (Int.natCast_nonneg _), if_neg (fun h => g h.2.1)]
    · rw [if_neg d, if_pos (Int.natCast_nonneg _), if_neg (fun h => d h.1)]

theorem spec_wdShift_ev (x : Int) (s : Nat) (mode : Int) (hs : s ≤ 20) (hx : -4611686018427387904 ≤ x ∧ x ≤ 4611686018427387904) : Ev (fun k => spec_wdShift.f k x (s : Int) mode) (shM x (2 ^ s) mode) := by
  have hb := pow2_pos s
  have hb2 := pow2_le hs
  have hr0 := Int.emod_nonneg x (show (2 : Int) ^ s ≠ 0 by omega)
  have hr1 := Int.emod_lt_of_pos x hb
  have hd := mod_eq x (2 ^ s)
  have hq : -4611686018427387905 ≤ x / 2 ^ s ∧ x / 2 ^ s ≤ 4611686018427387905 := ediv_bd hb hx
  have key : ∀ d : Int, d = x / 2 ^ s → Ev (fun k => spec_wdShift.j0 k x mode (2 ^ s) d) (shM x (2 ^ s) mode) := by
    intro d e
    subst e
    have e1 : wrap64 (x / 2 ^ s * 2 ^ s) = x / 2 ^ s * 2 ^ s := w64 (by omega) (by omega)
    have e2 : wrap64 (x - x / 2 ^ s * 2 ^ s) = x % 2 ^ s := by
      rw [w64 (n := x - x / 2 ^ s * 2 ^ s) (by omega) (by omega)]
      omega
    have e3 : wrap64 (2 * (x % 2 ^ s)) = 2 * (x % 2 ^ s) := w64 (by omega) (by omega)
    have e4 : wrap64 (x / 2 ^ s + 1) = x / 2 ^ s + 1 := w64 (by omega) (by omega)
    have j1 : ∀ f : Bool, (f = true ↔ mode = 1 ∧ 2 ^ s ≤ 2 * (x % 2 ^ s) ∧ 0 < x % 2 ^ s) → Ev (fun k => spec_wdShift.j1 k x mode (x / 2 ^ s) (x % 2 ^ s) f) (shM x (2 ^ s) mode) := by
      intro f hf
      refine Ev.step (f := fun _ => some (shM x (2 ^ s) mode)) (fun k => ?_) (Ev.now _)
      simp only [spec_wdShift.j1, e4]
      unfold shM
      by_cases g : f = true
      · rw [if_pos g, if_pos (hf.1 g)]
      · rw [if_neg g, if_neg (fun h => g (hf.2 h))]
        by_cases m2 : mode = 2
        · rw [if_pos m2]
          by_cases x0 : x < 0
          · rw [if_pos x0]
            by_cases r0 : x % 2 ^ s > 0
            · rw [if_pos r0, if_pos ⟨m2, x0, r0⟩]
            · rw [if_neg r0, if_neg (fun h => r0 h.2.2)]
          · rw [if_neg x0, if_neg (fun h => x0 h.2.1)]
        · rw [if_neg m2, if_neg (fun h => m2 h.1)]
    by_cases m1 : mode = 1
    · by_cases g : 2 * (x % 2 ^ s) ≥ 2 ^ s
      · refine Ev.step (fun k => ?_) (j1 (decide (x % 2 ^ s > 0)) (by simp only [decide_eq_true_eq]; exact ⟨fun h => ⟨m1, g, h⟩, fun h => h.2.2⟩))
        simp only [spec_wdShift.j0, e1, e2, e3, if_pos m1, if_pos g]
      · refine Ev.step (fun k => ?_) (j1 false (by simp; intro _ h; omega))
        simp only [spec_wdShift.j0, e1, e2, e3, if_pos m1, if_neg g]
    · refine Ev.step (fun k => ?_) (j1 false (by simp; intro h; exact absurd h m1))
      simp only [spec_wdShift.j0, e1, e2, e3, if_neg m1]
  simp only [spec_wdShift.f, shl_one hs]
  refine Ev.tt (Int.natCast_nonneg _) (Ev.ff (by omega) ?_)
  by_cases g : Int.tmod x (2 ^ s) < 0
  · refine Ev.tt g (key _ ?_)
    have hx0 : x < 0 := by
      apply Int.not_le.1
      intro h
      have := Int.tmod_nonneg (2 ^ s) h
      omega
    have e := Int.tdiv_eq_ediv (a := x) (b := 2 ^ s)
    have e0 : ¬ (0 ≤ x ∨ (2 : Int) ^ s ∣ x) := by
      rintro (h | h)
      · omega
      · rw [Int.tmod_eq_zero_of_dvd h] at g
        omega
    rw [if_neg e0, Int.sign_eq_one_of_pos hb] at e
    rw [e, w64 (n := x / 2 ^ s + 1) (by omega) (by omega), w64 (n := x / 2 ^ s + 1 - 1) (by omega) (by omega)]
    omega
  · refine Ev.ff g (key _ ?_)
    have e := Int.tdiv_eq_ediv (a := x) (b := 2 ^ s)
    have e0 : 0 ≤ x ∨ (2 : Int) ^ s ∣ x := by
      by_cases h : 0 ≤ x
      · exact .inl h
      · right
        have h2 : Int.tmod x (2 ^ s) ≤ 0 := by
          have := Int.tmod_nonneg (2 ^ s) (show 0 ≤ -x by omega)
          rw [Int.neg_tmod] at this
          omega
        exact Int.dvd_of_tmod_eq_zero (by omega)
    rw [if_pos e0] at e
    rw [e, w64 (n := x / 2 ^ s + 0) (by omega) (by omega)]
    omega

def numOk (x : Int) : Bool := decide (-1000000000000 ≤ x) && decide (x ≤ 1000000000000)
def modeOk (s mode : Int) : Bool := (decide (0 ≤ s) && decide (s ≤ 20)) && (decide (0 ≤ mode) && decide (mode ≤ 2))
theorem numOk_iff {x : Int} : numOk x = true ↔ -1000000000000 ≤ x ∧ x ≤ 1000000000000 := by simp [numOk]
theorem modeOk_iff {s m : Int} : modeOk s m = true ↔ (0 ≤ s ∧ s ≤ 20) ∧ (0 ≤ m ∧ m ≤ 2) := by simp [modeOk]

theorem impl_isNumber_eq (x : Int) : impl_isNumber.f x = some (numOk x) := by
  unfold impl_isNumber.f
  rw [impl_in_eq]
  rfl

theorem spec_wdNumber_eq (x : Int) : spec_wdNumber.f x = some (numOk x) := by
  unfold spec_wdNumber.f
  rw [spec_l1In_eq]
  rfl

theorem spec_wdMode_eq (s m : Int) : spec_wdMode.f s m = some (modeOk s m) := by
  unfold spec_wdMode.f modeOk
  rw [spec_l1In_eq]
  simp only [Option.bind_some, spec_l1In_eq]
  by_cases c : (decide (0 ≤ s) && decide (s ≤ 20)) = true
  · rw [if_pos c, c, Bool.true_and]
  · rw [if_neg c, Bool.eq_false_iff.mpr c, Bool.false_and]

def goodB (b : Int) : Bool := decide (2 ≤ b) && decide (b ≤ 16)
def hf (b : Int) : Int := 2 ^ (b - 1).toNat
def fitH (h : Int) (w : Bool) (x : Int) : Int := if w = true then (x + h) % (2 * h) - h else if x < -h then -h else if h - 1 < x then h - 1 else x
theorem goodB_iff {b : Int} : goodB b = true ↔ 2 ≤ b ∧ b ≤ 16 := by simp [goodB]
theorem half {b : Int} (g : goodB b = true) : (2 ≤ hf b ∧ hf b ≤ 32768) ∧ wrap64 (b - 1) = b - 1 ∧ 0 ≤ b - 1 ∧ shl .i64 1 (b - 1) = hf b ∧ 0 ≤ b ∧ shl .i64 1 b = 2 * hf b := by
  have g' := goodB_iff.1 g
  obtain ⟨n, rfl⟩ : ∃ n : Nat, b = ((n + 1 : Nat) : Int) := ⟨(b - 1).toNat, by omega⟩
  have e : ((n + 1 : Nat) : Int) - 1 = (n : Int) := by omega
  have eh : hf ((n + 1 : Nat) : Int) = 2 ^ n := by rw [hf, e, Int.toNat_natCast]
  have h1 : (2 : Nat) ^ n ≤ 2 ^ 15 := Nat.pow_le_pow_right (by decide) (by omega)
  have h2 : (2 : Nat) ^ 1 ≤ 2 ^ n := Nat.pow_le_pow_right (by decide) (by omega)
  have h3 : (2 : Int) ^ n = (((2 : Nat) ^ n : Nat) : Int) := by simp
  have h4 : (2 : Nat) ^ 15 = 32768 := by decide
  have h5 : (2 : Nat) ^ 1 = 2 := by decide
  rw [eh, e, shl_one (s := n) (by omega), shl_one (s := n + 1) (by omega), Int.pow_succ]
  refine ⟨⟨by omega, by omega⟩, w64 (by omega) (by omega), by omega, rfl, by omega, by omega⟩
theorem mod_uniq {x b q r : Int} (h : x = q * b + r) (h0 : 0 ≤ r) (h1 : r < b) : x % b = r := by
  have hb : 0 < b := by omega
  exact ((Int.ediv_emod_unique (q := q) hb).2 ⟨by rw [h, Int.mul_comm]; omega, h0, h1⟩).2
theorem tmod_fix (a n : Int) (hn : 0 < n) (hn2 : n ≤ 1000000000) : Int.tmod (wrap64 (Int.tmod a n + n)) n = a % n := by
  have h0 := Int.emod_nonneg a (show n ≠ 0 by omega)
  have h1 := Int.emod_lt_of_pos a hn
  have e := Int.tmod_eq_emod (a := a) (b := n)
  have hb : Int.tmod a n = a % n ∨ Int.tmod a n = a % n - n := by
    rw [e]
    split
    · left; omega
    · right; omega
  rcases hb with hb | hb
  · rw [hb, w64 (n := a % n + n) (by omega) (by omega), Int.tmod_eq_emod_of_nonneg (by omega)]
    simp
  · rw [hb, Int.sub_add_cancel, w64 (n := a % n) (by omega) (by omega), Int.tmod_eq_emod_of_nonneg (by omega)]
    simp
theorem fitH_bd (h : Int) (w : Bool) (x : Int) (hh : 1 ≤ h) : -h ≤ fitH h w x ∧ fitH h w x ≤ h - 1 := by
  have h0 := Int.emod_nonneg (x + h) (show 2 * h ≠ 0 by omega)
  have h1 := Int.emod_lt_of_pos (x + h) (show 0 < 2 * h by omega)
  unfold fitH
  split
  · omega
  · split
    · omega
    · split <;> omega
theorem fitH_id (h : Int) (w : Bool) (x : Int) (h0 : -h ≤ x) (h1 : x ≤ h - 1) : fitH h w x = x := by
  unfold fitH
  by_cases c : w = true
  · rw [if_pos c, mod_uniq (x := x + h) (b := 2 * h) (q := 0) (r := x + h) (by omega) (by omega) (by omega)]
    omega
  · rw [if_neg c, if_neg (by omega), if_neg (by omega)]
theorem fitH_two (h x : Int) (hh : 1 ≤ h) : fitH h true x = if x % (2 * h) > h - 1 then x % (2 * h) - 2 * h else x % (2 * h) := by
  have h0 := Int.emod_nonneg x (show 2 * h ≠ 0 by omega)
  have h1 := Int.emod_lt_of_pos x (show 0 < 2 * h by omega)
  have hd := mod_eq x (2 * h)
  unfold fitH
  rw [if_pos rfl]
  split
  · rw [mod_uniq (x := x + h) (b := 2 * h) (q := x / (2 * h) + 1) (r := x % (2 * h) - h) (by rw [Int.add_mul]; omega) (by omega) (by omega)]
    omega
  · rw [mod_uniq (x := x + h) (b := 2 * h) (q := x / (2 * h)) (r := x % (2 * h) + h) (by omega) (by omega) (by omega)]
    omega
theorem fit_back (h x y : Int) (h0 : -h ≤ x) (h1 : x ≤ h - 1) : fitH h true (fitH h true (x + y) - y) = x := by
  have hd := mod_eq (x + y + h) (2 * h)
  have e : fitH h true (x + y) - y = x - (x + y + h) / (2 * h) * (2 * h) := by
    unfold fitH
    rw [if_pos rfl]
    omega
  rw [e]
  unfold fitH
  rw [if_pos rfl, mod_uniq (x := x - (x + y + h) / (2 * h) * (2 * h) + h) (b := 2 * h) (q := -((x + y + h) / (2 * h))) (r := x + h) (by rw [Int.neg_mul]; omega) (by omega) (by omega)]
  omega
theorem fit_dvd (h x : Int) : ∃ q, x - fitH h true x = 2 * h * q := by
  have hd := mod_eq (x + h) (2 * h)
  refine ⟨(x + h) / (2 * h), ?_⟩
  unfold fitH
  rw [if_pos rfl, Int.mul_comm (2 * h)]
  omega
def inW (b x : Int) : Bool := decide (-(hf b) ≤ x) && decide (x ≤ hf b - 1)
theorem inW_iff {b x : Int} : inW b x = true ↔ -(hf b) ≤ x ∧ x ≤ hf b - 1 := by simp [inW]
theorem ediv_in {x b M : Int} (hb : 0 < b) (hM : 0 ≤ M) (hx : -M ≤ x ∧ x ≤ M) : -M ≤ x / b ∧ x / b ≤ M := by
  have h1 : (-M) * b ≤ (-M) * 1 := Int.mul_le_mul_of_nonpos_left (by omega) (by omega)
  have h2 : M * 1 ≤ M * b := Int.mul_le_mul_of_nonneg_left (by omega) hM
  exact ⟨Int.le_ediv_of_mul_le hb (by omega), Int.ediv_le_of_le_mul hb (by omega)⟩
theorem shM_in {x b M : Int} (m : Int) (hb : 0 < b) (hM : 0 ≤ M) (hx : -M ≤ x ∧ x ≤ M) : -M ≤ shM x b m ∧ shM x b m ≤ M + 1 := by
  have := ediv_in hb hM hx
  unfold shM
  split
  · omega
  · split <;> omega

theorem impl_isWord_eq (b : Int) (w : Bool) : impl_isWord.f b w = some (goodB b) := by
  unfold impl_isWord.f
  rw [impl_in_eq]
  rfl

theorem spec_wdGood_eq (b : Int) (w : Bool) : spec_wdGood.f b w = some (goodB b) := by
  unfold spec_wdGood.f
  rw [spec_l1In_eq]
  rfl

theorem impl_Word_ends_eq {b : Int} (w : Bool) (g : goodB b = true) : impl_Word_ends.f b w = some (-(hf b), hf b - 1) := by
  obtain ⟨h1, h2, h3, h4, h5, h6⟩ := half g
  unfold impl_Word_ends.f
  rw [h2, if_pos h3, h4, w64 (n := -(hf b)) (by omega) (by omega), w64 (n := hf b - 1) (by omega) (by omega)]

theorem impl_mod_eq (a n : Int) (hn : 0 < n) (hn2 : n ≤ 1000000000) : impl_mod.f a n = some (a % n) := by
  unfold impl_mod.f
  rw [if_neg (by omega), tmod_fix a n hn hn2]
theorem impl_Word_fit_eq {b : Int} (w : Bool) (x : Int) (g : goodB b = true) (hx : -4611686018427387904 ≤ x ∧ x ≤ 4611686018427387904) : impl_Word_fit.f b w x = some (fitH (hf b) w x) := by
  obtain ⟨h1, h2, h3, h4, h5, h6⟩ := half g
  have m0 := Int.emod_nonneg (x + hf b) (show 2 * hf b ≠ 0 by omega)
  have m1 := Int.emod_lt_of_pos (x + hf b) (show 0 < 2 * hf b by omega)
  have e1 : x - -(hf b) = x + hf b := by omega
  have e2 : hf b - 1 - -(hf b) = 2 * hf b - 1 := by omega
  have e3 : 2 * hf b - 1 + 1 = 2 * hf b := by omega
  unfold impl_Word_fit.f fitH
  rw [impl_Word_ends_eq w g]
  simp only [Option.bind_some]
  by_cases c : w = true
  · rw [if_pos c, if_pos c, e1, w64 (n := x + hf b) (by omega) (by omega), e2, w64 (n := 2 * hf b - 1) (by omega) (by omega), e3, w64 (n := 2 * hf b) (by omega) (by omega), impl_mod_eq _ _ (by omega) (by omega)]
    simp only [Option.bind_some]
    rw [w64 (n := (x + hf b) % (2 * hf b) + -(hf b)) (by omega) (by omega)]
    congr 1
  · rw [if_neg c, if_neg c]
    congr 1
    unfold mn mx
    repeat' split
    all_goals omega

theorem spec_wdHigh_eq {b : Int} (w : Bool) (g : goodB b = true) : spec_wdHigh.f b w = some (hf b - 1) := by
  obtain ⟨h1, h2, h3, h4, h5, h6⟩ := half g
  unfold spec_wdHigh.f
  rw [h2, if_pos h3, h4, w64 (n := hf b - 1) (by omega) (by omega)]

theorem spec_wdLow_eq {b : Int} (w : Bool) (g : goodB b = true) : spec_wdLow.f b w = some (-(hf b)) := by
  obtain ⟨h1, h2, h3, h4, h5, h6⟩ := half g
  unfold spec_wdLow.f
  rw [h2, if_pos h3, h4, w64 (n := -(hf b)) (by omega) (by omega)]

theorem spec_wdFit_eq {b : Int} (w : Bool) (x : Int) (g : goodB b = true) : spec_wdFit.f b w x = some (fitH (hf b) w x) := by
  obtain ⟨h1, h2, h3, h4, h5, h6⟩ := half g
  unfold spec_wdFit.f
  by_cases c : w = true
  · have m0 := Int.emod_nonneg x (show 2 * hf b ≠ 0 by omega)
    have m1 := Int.emod_lt_of_pos x (show 0 < 2 * hf b by omega)
    rw [if_pos c, if_pos h5, h6, if_neg (by omega), spec_wdHigh_eq w g, tmod_fix x _ (by omega) (by omega)]
    simp only [Option.bind_some]
    rw [c, fitH_two _ _ (by omega)]
    by_cases d : x % (2 * hf b) > hf b - 1
    · rw [if_pos d, if_pos d, w64 (n := x % (2 * hf b) - 2 * hf b) (by omega) (by omega)]
    · rw [if_neg d, if_neg d]
  · rw [if_neg c, spec_wdHigh_eq w g, spec_wdLow_eq w g]
    simp only [Option.bind_some, spec_l1Most.f, spec_l1Least.f]
    unfold fitH
    rw [if_neg c]
    by_cases d : -(hf b) > x
    · rw [if_pos d]
      simp only [Option.bind_some]
      rw [if_neg (show ¬ hf b - 1 < -(hf b) by omega), if_pos (show x < -(hf b) by omega)]
      rfl
    · rw [if_neg d]
      simp only [Option.bind_some]
      rw [if_neg (show ¬ x < -(hf b) by omega)]
      by_cases e : hf b - 1 < x
      · rw [if_pos e, if_pos e]
        rfl
      · rw [if_neg e, if_neg e]
        rfl

theorem impl_Word_has_eq {b : Int} (w : Bool) (x : Int) (g : goodB b = true) : impl_Word_has.f b w x = some (inW b x) := by
  unfold impl_Word_has.f
  rw [impl_Word_ends_eq w g]
  simp only [Option.bind_some, impl_in_eq]
  rfl

theorem spec_wdIn_eq (b : Int) (w : Bool) (x : Int) : spec_wdIn.f b w x = some (if goodB b = true then inW b x else false) := by
  unfold spec_wdIn.f
  rw [spec_wdGood_eq]
  simp only [Option.bind_some]
  by_cases g : goodB b = true
  · rw [if_pos g, if_pos g, spec_wdLow_eq w g, spec_wdHigh_eq w g]
    simp only [Option.bind_some, spec_l1In_eq]
    rfl
  · rw [if_neg g, if_neg g]

theorem word_ok {l : List Int} (hl : Bytes l) (a sd : Int) (h0 : 0 ≤ a) (h1 : a ≤ 10000000000000) : ∃ b w a' sd', spec_l1Cur_word.f l a sd = some (b, w, a', sd') ∧ a ≤ a' ∧ a' ≤ a + 10 := by
  unfold spec_l1Cur_word.f
  obtain ⟨v, a1, sd1, e1, ha1, hb1, -⟩ := one_ok hl a sd 12 h0 (by omega) (by omega)
  rw [e1]
  simp only [Option.bind_some]
  by_cases c : v = true
  · rw [if_pos c]
    obtain ⟨u, a2, sd2, e2, ha2, hb2, -⟩ := among_ok hl a1 sd1 [(-1), 1, 2, 16, 17, 4611686018427387904] (by omega) (by omega) (by simp) (by simp)
    rw [e2]
    simp only [Option.bind_some]
    obtain ⟨u3, a3, sd3, e3, ha3, hb3, -⟩ := one_ok hl a2 sd2 2 (by omega) (by omega) (by omega)
    rw [e3]
    simp only [Option.bind_some]
    exact ⟨_, _, _, _, rfl, by omega, by omega⟩
  · rw [if_neg c]
    obtain ⟨u, a2, sd2, e2, ha2, hb2, -⟩ := pick_ok hl a1 sd1 7 (by omega) (by omega) (by omega)
    rw [e2]
    simp only [Option.bind_some]
    obtain ⟨u3, a3, sd3, e3, ha3, hb3, -⟩ := one_ok hl a2 sd2 2 (by omega) (by omega) (by omega)
    rw [e3]
    simp only [Option.bind_some]
    exact ⟨_, _, _, _, rfl, by omega, by omega⟩

theorem inWord_ok {l : List Int} (hl : Bytes l) (a sd : Int) (b : Int) (w : Bool) (h0 : 0 ≤ a) (h1 : a ≤ 1000000000000) : ∃ v a' sd', Ev (fun k => spec_l1Cur_inWord.f k l a sd b w) (v, a', sd') ∧ a ≤ a' ∧ a' ≤ a + 20 ∧ (-4611686018427387904 ≤ v ∧ v ≤ 4611686018427387904) := by
  have plain : ∀ a sd : Int, 0 ≤ a → a ≤ 2000000000000 → ∃ v a' sd', Ev (fun k => spec_l1Cur_inWord.j0 k true l a sd b w) (v, a', sd') ∧ a ≤ a' ∧ a' ≤ a + 10 ∧ (-4611686018427387904 ≤ v ∧ v ≤ 4611686018427387904) := by
    intro a sd h0 h1
    obtain ⟨v, a1, sd1, e1, ha1, hb1, hv⟩ := number_ok hl a sd h0 (by omega)
    refine ⟨v, a1, sd1, ?_, ha1, hb1, hv⟩
    refine Ev.step (f := fun _ => some (v, a1, sd1)) (fun k => ?_) (Ev.now _)
    simp only [spec_l1Cur_inWord.j0, e1, Option.bind_some]
    rfl
  simp only [spec_l1Cur_inWord.f, spec_wdGood_eq, Option.bind_some]
  by_cases g : goodB b = true
  · obtain ⟨g1, g2, g3, g4, g5, g6⟩ := half g
    obtain ⟨v, a1, sd1, e1, ha1, hb1, -⟩ := one_ok hl a sd 12 h0 (by omega) (by omega)
    by_cases c : v = true
    · subst c
      obtain ⟨v, a', sd', h, ha, hb, hv⟩ := plain a1 sd1 (by omega) (by omega)
      exact ⟨v, a', sd', Ev.tt g (by simpa only [e1, Option.bind_some] using h), by omega, by omega, hv⟩
    · obtain ⟨u, a2, sd2, e2, ha2, hb2, hu, hu2⟩ := pick_ok hl a1 sd1 5 (by omega) (by omega) (by omega)
      by_cases d : u = 0
      · refine ⟨-(hf b), a2, sd2, Ev.tt g ?_, by omega, by omega, by omega, by omega⟩
        simp only [e1, Option.bind_some]
        refine Ev.step (f := fun _ => some (-(hf b), a2, sd2)) (fun k => ?_) (Ev.now _)
        simp only [spec_l1Cur_inWord.j0, if_neg c, e2, Option.bind_some, if_pos d, spec_wdLow_eq w g]
      · by_cases d1 : u = 1
        · refine ⟨hf b - 1, a2, sd2, Ev.tt g ?_, by omega, by omega, by omega, by omega⟩
          simp only [e1, Option.bind_some]
          refine Ev.step (f := fun _ => some (hf b - 1, a2, sd2)) (fun k => ?_) (Ev.now _)
          simp only [spec_l1Cur_inWord.j0, if_neg c, e2, Option.bind_some, if_neg d, if_pos d1, spec_wdHigh_eq w g]
        · obtain ⟨z, a3, sd3, e3, ha3, hb3, hz, hz2⟩ := pick_ok hl a2 sd2 256 (by omega) (by omega) (by omega)
          have m0 := Int.emod_nonneg (z * 257) (show 2 * hf b ≠ 0 by omega)
          have m1 := Int.emod_lt_of_pos (z * 257) (show 0 < 2 * hf b by omega)
          refine ⟨-(hf b) + (z * 257) % (2 * hf b), a3, sd3, Ev.tt g ?_, by omega, by omega, by omega, by omega⟩
          simp only [e1, Option.bind_some]
          refine Ev.step (f := fun _ => some (-(hf b) + (z * 257) % (2 * hf b), a3, sd3)) (fun k => ?_) (Ev.now _)
          simp only [spec_l1Cur_inWord.j0, if_neg c, e2, Option.bind_some, if_neg d, if_neg d1, spec_wdLow_eq w g, e3, if_pos g5, g6]
          rw [if_neg (by omega), w64 (n := z * 257) (by omega) (by omega), Int.tmod_eq_emod_of_nonneg (by omega), w64 (n := -(hf b) + z * 257 % (2 * hf b)) (by omega) (by omega)]
  · obtain ⟨v, a', sd', h, ha, hb, hv⟩ := plain a sd h0 (by omega)
    exact ⟨v, a', sd', Ev.ff g h, by omega, by omega, hv⟩

theorem signal_l0 {l : List Int} (hl : Bytes l) (sz : Int) (hs : 1 ≤ sz ∧ sz ≤ 100000) : ∀ (n : Nat) (q : List Int) (a sd : Int), q.length + n ≤ 100000 → 0 ≤ a → a + 10 * n ≤ 100000000000 → ∃ s a' sd', Ev (fun k => spec_l1Cur_signal.l0 k sz q (n : Int) l a sd) (s, a', sd') ∧ s.length ≤ 100001 ∧ a ≤ a' ∧ a' ≤ a + 10 * n + 10
  | 0, q, a, sd, hq, h0, h1 => by
    obtain ⟨u, a1, sd1, e1, ha1, hb1, -⟩ := pick_ok hl a sd 16 h0 (by omega) (by omega)
    by_cases c : u = 0
    · obtain ⟨v, a2, sd2, e2, ha2, hb2, -⟩ := among_ok hl a1 sd1 [100000, (-100000), 100001, 4611686018427387904] (by omega) (by omega) (by simp) (by simp)
      refine ⟨q ++ [v], a2, sd2, Ev.step (f := fun _ => some (q ++ [v], a2, sd2)) (fun k => ?_) (Ev.now _), by simp; omega, by omega, by omega⟩
      simp only [spec_l1Cur_signal.l0, e1, e2, Option.bind_some, if_pos c]
      rw [if_neg (by omega), if_pos (by omega)]
    · by_cases d : u = 1
      · obtain ⟨v, a2, sd2, e2, ha2, hb2, hv, hv2⟩ := pick_ok hl a1 sd1 2 (by omega) (by omega) (by omega)
        have e3 : wrap64 (64 + v) = 64 + v := w64 (by omega) (by omega)
        refine ⟨List.replicate (64 + v).toNat 0, a2, sd2, Ev.step (f := fun _ => some (List.replicate (64 + v).toNat 0, a2, sd2)) (fun k => ?_) (Ev.now _), by simp; omega, by omega, by omega⟩
        simp only [spec_l1Cur_signal.l0, e1, e2, Option.bind_some, if_neg c, if_pos d, e3]
        rw [if_neg (by omega), if_pos (by omega), if_pos (by omega)]
      · refine ⟨q, a1, sd1, Ev.step (f := fun _ => some (q, a1, sd1)) (fun k => ?_) (Ev.now _), by omega, by omega, by omega⟩
        simp only [spec_l1Cur_signal.l0, e1, Option.bind_some, if_neg c, if_neg d]
        rw [if_neg (by omega)]
  | n + 1, q, a, sd, hq, h0, h1 => by
    obtain ⟨u, a1, sd1, e1, ha1, hb1, -⟩ := one_ok hl a sd 4 h0 (by omega) (by omega)
    have e3 : wrap64 (((n + 1 : Nat) : Int) - 1) = (n : Int) := by
      rw [w64 (n := ((n + 1 : Nat) : Int) - 1) (by omega) (by omega)]
      omega
    have hn : ((n + 1 : Nat) : Int) > 0 := by omega
    have hql : q.length < 17592186044416 := by omega
    by_cases c : u = true
    · obtain ⟨s, a', sd', h, hs1, ha, hb⟩ := signal_l0 hl sz hs n (q ++ [0]) a1 sd1 (by simp; omega) (by omega) (by omega)
      refine ⟨s, a', sd', Ev.step (fun k => ?_) h, hs1, by omega, by omega⟩
      simp only [spec_l1Cur_signal.l0, e1, Option.bind_some, if_pos c, if_pos hn, if_pos hql, e3]
    · have e4 : wrap64 (wrap64 (2 * sz) + 1) = 2 * sz + 1 := by
        rw [w64 (n := 2 * sz) (by omega) (by omega), w64 (n := 2 * sz + 1) (by omega) (by omega)]
      obtain ⟨v, a2, sd2, e2, ha2, hb2, -⟩ := pick_ok hl a1 sd1 (2 * sz + 1) (by omega) (by omega) (by omega)
      obtain ⟨s, a', sd', h, hs1, ha, hb⟩ := signal_l0 hl sz hs n (q ++ [wrap64 (v - sz)]) a2 sd2 (by simp; omega) (by omega) (by omega)
      refine ⟨s, a', sd', Ev.step (fun k => ?_) h, hs1, by omega, by omega⟩
      simp only [spec_l1Cur_signal.l0, e1, Option.bind_some, if_neg c, if_pos hn, e4, e2, if_pos hql, e3]
theorem signal_ok {l : List Int} (hl : Bytes l) (a sd most sz : Int) (h0 : 0 ≤ a) (h1 : a ≤ 1000000000) (hm : 0 ≤ most ∧ most ≤ 10000) (hs : 1 ≤ sz ∧ sz ≤ 100000) : ∃ s a' sd', Ev (fun k => spec_l1Cur_signal.f k l a sd most sz) (s, a', sd') ∧ s.length ≤ 100001 ∧ a ≤ a' ∧ a' ≤ a + 1000000 := by
  obtain ⟨u, a1, sd1, e1, ha1, hb1, hu, hu2⟩ := pick_ok hl a sd (most + 1) h0 (by omega) (by omega)
  obtain ⟨n, rfl⟩ : ∃ n : Nat, u = (n : Int) := ⟨u.toNat, by omega⟩
  obtain ⟨s, a', sd', h, hs1, ha, hb⟩ := signal_l0 hl sz hs n [] a1 sd1 (by simp; omega) (by omega) (by omega)
  refine ⟨s, a', sd', ?_, hs1, by omega, by omega⟩
  simp only [spec_l1Cur_signal.f]
  rw [w64 (n := most + 1) (by omega) (by omega)]
  exact Ev.dbind e1 h

def foOk (a sh m b : Int) : Bool := (((decide (-1024 ≤ a) && decide (a ≤ 1024)) && (decide (0 ≤ sh) && decide (sh ≤ 10))) && (decide (0 ≤ m) && decide (m ≤ 2))) && goodB b
theorem foOk_iff {a sh m b : Int} : foOk a sh m b = true ↔ (-1024 ≤ a ∧ a ≤ 1024) ∧ (0 ≤ sh ∧ sh ≤ 10) ∧ (0 ≤ m ∧ m ≤ 2) ∧ goodB b = true := by
  simp [foOk, and_assoc]
def foRw (a sh m y x : Int) : Int := shM (a * y) (2 ^ sh.toNat) m + x
def foM (a sh m b : Int) (w : Bool) : List Int → Int → List Int
  | [], _ => []
  | x :: t, y => fitH (hf b) w (foRw a sh m y x) :: foM a sh m b w t (fitH (hf b) w (foRw a sh m y x))
theorem foM_length (a sh m b : Int) (w : Bool) : ∀ (l : List Int) (y : Int), (foM a sh m b w l y).length = l.length
  | [], _ => rfl
  | x :: t, y => by simp [foM, foM_length a sh m b w t]
theorem ay_in {a b y : Int} (g : goodB b = true) (ha : -1024 ≤ a ∧ a ≤ 1024) (hy : -(hf b) ≤ y ∧ y ≤ hf b - 1) : -33554432 ≤ a * y ∧ a * y ≤ 33554432 := by
  have h := (half g).1
  have h1 : (a.natAbs * y.natAbs : Nat) ≤ 1024 * 32768 := Nat.mul_le_mul (by omega) (by omega)
  have h2 := Int.natAbs_mul a y
  omega
theorem foRw_in {a sh m b y x : Int} (ok : foOk a sh m b = true) (hy : -(hf b) ≤ y ∧ y ≤ hf b - 1) (hx : -100000 ≤ x ∧ x ≤ 100000) : (-33554432 ≤ shM (a * y) (2 ^ sh.toNat) m ∧ shM (a * y) (2 ^ sh.toNat) m ≤ 33554433) ∧ (-40000000 ≤ foRw a sh m y x ∧ foRw a sh m y x ≤ 40000000) := by
  obtain ⟨h1, h2, h3, h4⟩ := foOk_iff.1 ok
  have := shM_in (M := 33554432) m (pow2_pos sh.toNat) (by omega) (ay_in h4 h1 hy)
  unfold foRw
  omega

theorem spec_foGood_eq (a sh m b : Int) (w : Bool) : spec_foGood.f a sh m b w = some (foOk a sh m b) := by
  unfold spec_foGood.f foOk
  simp only [spec_l1In_eq, spec_wdMode_eq, spec_wdGood_eq, Option.bind_some]
  by_cases c1 : (decide (-1024 ≤ a) && decide (a ≤ 1024)) = true
  · rw [if_pos c1, c1]
    by_cases c2 : (decide (0 ≤ sh) && decide (sh ≤ 10)) = true
    · rw [if_pos c2, c2]
      have c2' : 0 ≤ sh ∧ sh ≤ 10 := by simpa using c2
      by_cases c3 : (decide (0 ≤ m) && decide (m ≤ 2)) = true
      · have c3' : 0 ≤ m ∧ m ≤ 2 := by simpa using c3
        rw [if_pos (modeOk_iff.2 ⟨by omega, c3'⟩), c3]
        rfl
      · rw [if_neg (fun h => c3 (by have := (modeOk_iff.1 h).2; simpa using this)), Bool.eq_false_iff.mpr c3]
        rfl
    · rw [if_neg c2, Bool.eq_false_iff.mpr c2]
      simp
  · rw [if_neg c1, Bool.eq_false_iff.mpr c1]
    simp

theorem impl_isFirst_eq (a sh m b : Int) (w : Bool) : impl_isFirst.f a sh m b w = some (foOk a sh m b) := by
  unfold impl_isFirst.f impl_isFactor.f impl_isScale.f foOk
  simp only [impl_in_eq, impl_isWord_eq, Option.bind_some]
  by_cases c1 : (decide (-1024 ≤ a) && decide (a ≤ 1024)) = true
  · rw [if_pos c1, c1]
    by_cases c2 : (decide (0 ≤ sh) && decide (sh ≤ 10)) = true
    · rw [if_pos c2, c2]
      simp only [Option.bind_some]
      by_cases c3 : (decide (0 ≤ m) && decide (m ≤ 2)) = true
      · rw [if_pos c3, c3]
        rfl
      · rw [if_neg c3, Bool.eq_false_iff.mpr c3]
        rfl
    · rw [if_neg c2, Bool.eq_false_iff.mpr c2]
      simp
  · rw [if_neg c1, Bool.eq_false_iff.mpr c1]
    simp

theorem rdF_mid (p t : List S62) (x : S62) : rd_T62 (p ++ x :: t) (p.length : Int) = x := by simp [rd_T62]

def fiOk (p : S62) : Bool := foOk p.f0 p.f1 p.f2 p.f3.f0
def partsOk (l : List S62) : Bool := (decide (1 ≤ (l.length : Int)) && decide ((l.length : Int) ≤ 4)) && l.all fiOk
theorem partsOk_iff {l : List S62} : partsOk l = true ↔ (1 ≤ l.length ∧ l.length ≤ 4) ∧ ∀ p ∈ l, fiOk p = true := by
  simp only [partsOk, Bool.and_eq_true, decide_eq_true_eq, List.all_eq_true]
  constructor
  · rintro ⟨⟨h1, h2⟩, h3⟩; exact ⟨⟨by omega, by omega⟩, h3⟩
  · rintro ⟨⟨h1, h2⟩, h3⟩; exact ⟨⟨by omega, by omega⟩, h3⟩
def fiRun (p : S62) (s : List Int) : List Int := foM p.f0 p.f1 p.f2 p.f3.f0 p.f3.f1 s 0
def chM : List S62 → List Int → List (List Int)
  | [], s => [s]
  | p :: t, s => s :: chM t (fiRun p s)
theorem chM_length : ∀ (l : List S62) (s : List Int), (chM l s).length = l.length + 1
  | [], s => rfl
  | p :: t, s => by simp [chM, chM_length t]
def okS (s : List Int) : Prop := s.length ≤ 64 ∧ ∀ x ∈ s, -100000 ≤ x ∧ x ≤ 100000
theorem sig_okS {s : List Int} (h : sig s = true) : okS s := ⟨sig_len h, sig_mem h⟩
theorem foM_in (a sh m b : Int) (w : Bool) (g : goodB b = true) : ∀ (l : List Int) (y : Int), ∀ x ∈ foM a sh m b w l y, -100000 ≤ x ∧ x ≤ 100000
  | [], y, x, h => by simp [foM] at h
  | z :: t, y, x, h => by
    simp only [foM, List.mem_cons] at h
    rcases h with rfl | h
    · have h1 := (half g).1
      have := fitH_bd (hf b) w (foRw a sh m y z) (by omega)
      omega
    · exact foM_in a sh m b w g t _ x h
theorem okS_run {p : S62} {s : List Int} (ok : fiOk p = true) (h : okS s) : okS (fiRun p s) := ⟨by rw [fiRun, foM_length]; exact h.1, foM_in _ _ _ _ _ (foOk_iff.1 ok).2.2.2 _ _⟩
theorem chM_ok : ∀ (l : List S62) (s : List Int), (∀ p ∈ l, fiOk p = true) → okS s → ∀ z ∈ chM l s, okS z
  | [], s, _, h, z, hz => by
    simp only [chM, List.mem_singleton] at hz
    exact hz ▸ h
  | p :: t, s, hp, h, z, hz => by
    simp only [chM, List.mem_cons] at hz
    rcases hz with rfl | hz
    · exact h
    · exact chM_ok t _ (fun q hq => hp q (by simp [hq])) (okS_run (hp p (by simp)) h) z hz
theorem rdI_end (q : List (List Int)) (s : List Int) : rd_L5 (q ++ [s]) (q.length : Int) = s := by simp [rd_L5]
theorem rdI_mid (p t : List (List Int)) (x : List Int) : rd_L5 (p ++ x :: t) (p.length : Int) = x := by simp [rd_L5]

theorem indexParts_l0 (l : List S62) (hl : l.length ≤ 1000000) : ∀ (t p : List S62), l = p ++ t → ∃ r, Ev (fun k => slices_IndexFunc_impl_First_impl_First_impl_areParts_c1.l0 k l (l.length : Int) (p.length : Int)) r ∧ (decide (r ≥ 0) = !(t.all fiOk))
  | [], p, h => by
    refine ⟨-1, Ev.step (f := fun _ => some (-1)) ?_ (Ev.now _), by simp⟩
    intro k
    subst h
    simp [slices_IndexFunc_impl_First_impl_First_impl_areParts_c1.l0]
  | x :: t, p, h => by
    have e1 : (p.length : Int) < (l.length : Int) := by rw [h]; exact lt_mid p t x
    have e2 : rd_T62 l (p.length : Int) = x := by rw [h]; exact rdF_mid p t x
    have e3 : wrap64 ((p.length : Int) + 1) = ((p ++ [x]).length : Int) := nx_mid p t x (by rw [← h]; omega)
    have e4 : impl_areParts_c1.f x.f0 x.f1 x.f2 x.f3.f0 x.f3.f1 = some (!(fiOk x)) := by
      unfold impl_areParts_c1.f
      rw [impl_isFirst_eq]
      rfl
    by_cases c : fiOk x = true
    · obtain ⟨r, h1, h2⟩ := indexParts_l0 l hl t (p ++ [x]) (by simp [h])
      refine ⟨r, Ev.step (fun k => ?_) h1, by rw [h2, List.all_cons, c, Bool.true_and]⟩
      simp only [slices_IndexFunc_impl_First_impl_First_impl_areParts_c1.l0, if_pos e1, if_pos (Int.natCast_nonneg _), e2, e3, e4, c, Option.bind_some, Bool.not_true]
      rfl
    · have c := Bool.eq_false_iff.mpr c
      refine ⟨(p.length : Int), Ev.step (fun k => ?_) (Ev.now _), by rw [List.all_cons, c]; simp⟩
      simp only [slices_IndexFunc_impl_First_impl_First_impl_areParts_c1.l0, if_pos e1, if_pos (Int.natCast_nonneg _), e2, e3, e4, c, Option.bind_some, Bool.not_false]
      rfl
theorem impl_areParts_ev (l : List S62) (hl : l.length ≤ 10000000) : Ev (fun k => impl_areParts.f k l) (partsOk l) := by
  simp only [impl_areParts.f, impl_in_eq, Option.bind_some]
  by_cases c : (decide (1 ≤ (l.length : Int)) && decide ((l.length : Int) ≤ 4)) = true
  · have c' : 1 ≤ (l.length : Int) ∧ (l.length : Int) ≤ 4 := by simpa only [Bool.and_eq_true, decide_eq_true_eq] using c
    obtain ⟨r, h1, h2⟩ := indexParts_l0 l (by omega) l [] rfl
    refine Ev.tt c (Ev.bind (a := decide (r ≥ 0)) ?_ (Ev.to (Ev.now _) ?_))
    · simp only [slices_ContainsFunc_impl_First_impl_First_impl_areParts_c1.f, slices_IndexFunc_impl_First_impl_First_impl_areParts_c1.f]
      exact Ev.bind h1 (Ev.now _)
    · rw [h2, partsOk, c, Bool.not_not, Bool.true_and]
  · refine Ev.ff c (Ev.to (Ev.now _) ?_)
    rw [partsOk, Bool.eq_false_iff.mpr c, Bool.false_and]

theorem laws_uSame_l0 (l : List Int) (hl : l.length ≤ 140737488351232) : ∀ (t p : List Int), l = p ++ t → Ev (fun k => laws_uSame.l0 k l l (l.length : Int) (p.length : Int)) true
  | [], p, h => by
    refine Ev.step (f := fun _ => some true) (fun k => ?_) (Ev.now _)
    subst h
    simp [laws_uSame.l0]
  | x :: t, p, h => by
    have e1 : (p.length : Int) < (l.length : Int) := by rw [h]; exact lt_mid p t x
    have e3 : wrap64 ((p.length : Int) + 1) = ((p ++ [x]).length : Int) := nx_mid p t x (h ▸ hl)
    refine Ev.step (fun k => ?_) (laws_uSame_l0 l hl t (p ++ [x]) (by simp [h]))
    simp only [laws_uSame.l0, if_pos e1, if_pos (Int.natCast_nonneg _), e3]
    rw [if_pos trivial]
theorem laws_uSame_ev (l : List Int) (hl : l.length ≤ 140737488351232) : Ev (fun k => laws_uSame.f k l l) true := by
  simp only [laws_uSame.f]
  exact Ev.tt trivial (laws_uSame_l0 l hl l [] rfl)

theorem first_ok {l : List Int} (hl : Bytes l) (a sd n : Int) (h0 : 0 ≤ a) (h1 : a ≤ 10000000000) (hn : 0 ≤ n ∧ n ≤ 1000) : ∃ A sh m b w a' sd', spec_l1Cur_first.f l a sd n = some (A, sh, m, b, w, a', sd') ∧ a ≤ a' ∧ a' ≤ a + 40 := by
  unfold spec_l1Cur_first.f
  obtain ⟨v, a1, sd1, e1, ha1, hb1, hv, hv2⟩ := pick_ok hl a sd 5 h0 (by omega) (by omega)
  have hs : wrap64 (shl .i64 2 v + 3) ≤ 1000000 := by
    obtain ⟨n, rfl⟩ : ∃ n : Nat, v = (n : Int) := ⟨v.toNat, by omega⟩
    have h1 : (2 : Nat) ^ n ≤ 2 ^ 4 := Nat.pow_le_pow_right (by decide) (by omega)
    have h3 : (2 : Int) ^ n = (((2 : Nat) ^ n : Nat) : Int) := by simp
    have h4 : (2 : Nat) ^ 4 = 16 := by decide
    have h5 : (0 : Int) < 2 ^ n := Int.pow_pos (by decide)
    rw [shl_mul (s := n) (by omega) 2 (by omega) (by omega), w64 (n := 2 * 2 ^ n + 3) (by omega) (by omega)]
    omega
  obtain ⟨v2, a2, sd2, e2, ha2, hb2, -⟩ := pick_ok hl a1 sd1 (wrap64 (shl .i64 2 v + 3)) (by omega) (by omega) hs
  obtain ⟨v3, a3, sd3, e3, ha3, hb3, -⟩ := pick_ok hl a2 sd2 3 (by omega) (by omega) (by omega)
  have hw : wrap64 (n - 1) = n - 1 := w64 (by omega) (by omega)
  obtain ⟨v4, a4, sd4, e4, ha4, hb4, -⟩ := pick_ok hl a3 sd3 (n - 1) (by omega) (by omega) (by omega)
  obtain ⟨v5, a5, sd5, e5, ha5, hb5, -⟩ := one_ok hl a4 sd4 2 (by omega) (by omega) (by omega)
  obtain ⟨v6, a6, sd6, e6, ha6, hb6, -⟩ := pick_ok hl a5 sd5 18 (by omega) (by omega) (by omega)
  rw [e1]
  simp only [Option.bind_some]
  rw [if_pos hv, e2]
  simp only [Option.bind_some, hw, e3, e4, e5, e6]
  by_cases c0 : v6 = 0
  · obtain ⟨v7, a7, sd7, e7, ha7, hb7, -⟩ := among_ok hl a6 sd6 [1024, (-1024), 1025, (-4611686018427387904), 0] (by omega) (by omega) (by simp) (by simp)
    rw [if_pos c0, e7]
    exact ⟨_, _, _, _, _, _, _, rfl, by show a ≤ a7; omega, by show a7 ≤ a + 40; omega⟩
  · rw [if_neg c0]
    by_cases c1 : v6 = 1
    · obtain ⟨v7, a7, sd7, e7, ha7, hb7, -⟩ := among_ok hl a6 sd6 [10, 11, (-1), 64] (by omega) (by omega) (by simp) (by simp)
      rw [if_pos c1, e7]
      exact ⟨_, _, _, _, _, _, _, rfl, by show a ≤ a7; omega, by show a7 ≤ a + 40; omega⟩
    · rw [if_neg c1]
      by_cases c2 : v6 = 2
      · obtain ⟨v7, a7, sd7, e7, ha7, hb7, -⟩ := among_ok hl a6 sd6 [3, (-1)] (by omega) (by omega) (by simp) (by simp)
        rw [if_pos c2, e7]
        exact ⟨_, _, _, _, _, _, _, rfl, by show a ≤ a7; omega, by show a7 ≤ a + 40; omega⟩
      · rw [if_neg c2]
        by_cases c3 : v6 = 3
        · obtain ⟨b, w, a7, sd7, e7, ha7, hb7⟩ := word_ok hl a6 sd6 (by omega) (by omega)
          rw [if_pos c3, e7]
          exact ⟨_, _, _, _, _, _, _, rfl, by show a ≤ a7; omega, by show a7 ≤ a + 40; omega⟩
        · rw [if_neg c3]
          exact ⟨_, _, _, _, _, _, _, rfl, by omega, by omega⟩

theorem sample_ok {l : List Int} (hl : Bytes l) (a sd n : Int) (h0 : 0 ≤ a) (h1 : a ≤ 10000000000) (hn : 0 ≤ n ∧ n ≤ 1000) : ∃ v a' sd', spec_l1Cur_sample.f l a sd n = some (v, a', sd') ∧ a ≤ a' ∧ a' ≤ a + 10 := by
  unfold spec_l1Cur_sample.f
  obtain ⟨v, a1, sd1, e1, ha1, hb1, -⟩ := one_ok hl a sd 14 h0 (by omega) (by omega)
  have hw : wrap64 (wrap64 (2 * n) + 1) = 2 * n + 1 := by
    rw [w64 (n := 2 * n) (by omega) (by omega), w64 (n := 2 * n + 1) (by omega) (by omega)]
  rw [e1]
  simp only [Option.bind_some, hw]
  by_cases c : v = true
  · obtain ⟨v7, a7, sd7, e7, ha7, hb7, -⟩ := among_ok hl a1 sd1 [100000, (-100000), 100001, (-4611686018427387904)] (by omega) (by omega) (by simp) (by simp)
    rw [if_pos c, e7]
    exact ⟨v7, a7, sd7, rfl, by omega, by omega⟩
  · obtain ⟨v7, a7, sd7, e7, ha7, hb7, -⟩ := pick_ok hl a1 sd1 (2 * n + 1) (by omega) (by omega) (by omega)
    rw [if_neg c, e7]
    exact ⟨wrap64 (v7 - n), a7, sd7, rfl, by omega, by omega⟩

def shrinkM (a sh m b : Int) : Bool × Bool := if foOk a sh m b = true then (decide ((a.natAbs : Int) < 2 ^ sh.toNat), true) else (false, false)
theorem fr_shr (a sh m b : Int) (w : Bool) (ok : foOk a sh m b = true) : impl_First_isShrinking.f a sh m b w = some (decide ((a.natAbs : Int) < 2 ^ sh.toNat)) := by
  obtain ⟨k1, k2, k3, g⟩ := foOk_iff.1 ok
  obtain ⟨n, rfl⟩ : ∃ n : Nat, sh = (n : Int) := ⟨sh.toNat, by omega⟩
  simp only [impl_First_isShrinking.f, impl_size_eq a (by omega), Option.bind_some]
  rw [if_pos (by omega), shl_one (s := n) (by omega), Int.toNat_natCast]
theorem impl_IsShrinking_eq (a sh m b : Int) (w : Bool) : impl_IsShrinking.f a sh m b w = some (shrinkM a sh m b) := by
  simp only [impl_IsShrinking.f, impl_isFirst_eq, Option.bind_some, shrinkM]
  by_cases c : foOk a sh m b = true
  · rw [if_pos c, if_pos c, fr_shr a sh m b w c]
    rfl
  · rw [if_neg c, if_neg c]

def sdOk (a b sh m bi : Int) : Bool := ((decide (-1024 ≤ a) && decide (a ≤ 1024)) && (decide (-1024 ≤ b) && decide (b ≤ 1024))) && (((decide (0 ≤ sh) && decide (sh ≤ 10)) && (decide (0 ≤ m) && decide (m ≤ 2))) && goodB bi)
theorem sdOk_iff {a b sh m bi : Int} : sdOk a b sh m bi = true ↔ ((-1024 ≤ a ∧ a ≤ 1024) ∧ (-1024 ≤ b ∧ b ≤ 1024)) ∧ (0 ≤ sh ∧ sh ≤ 10) ∧ (0 ≤ m ∧ m ≤ 2) ∧ goodB bi = true := by
  simp [sdOk, and_assoc]
def sdRw (a b sh m y z x : Int) : Int := shM (a * y + b * z) (2 ^ sh.toNat) m + x
def sdM (a b sh m bi : Int) (w : Bool) : List Int → Int → Int → List Int
  | [], _, _ => []
  | x :: t, y, z => fitH (hf bi) w (sdRw a b sh m y z x) :: sdM a b sh m bi w t (fitH (hf bi) w (sdRw a b sh m y z x)) y
theorem sdM_length (a b sh m bi : Int) (w : Bool) : ∀ (l : List Int) (y z : Int), (sdM a b sh m bi w l y z).length = l.length
  | [], _, _ => rfl
  | x :: t, y, z => by simp [sdM, sdM_length a b sh m bi w t]
/-- how many numbers fitting changes -/
def sdC (a b sh m bi : Int) (w : Bool) : List Int → Int → Int → Nat
  | [], _, _ => 0
  | x :: t, y, z => (if fitH (hf bi) w (sdRw a b sh m y z x) = sdRw a b sh m y z x then 0 else 1) + sdC a b sh m bi w t (fitH (hf bi) w (sdRw a b sh m y z x)) y
theorem sdC_le (a b sh m bi : Int) (w : Bool) : ∀ (l : List Int) (y z : Int), sdC a b sh m bi w l y z ≤ l.length
  | [], _, _ => Nat.le_refl _
  | x :: t, y, z => by
    have := sdC_le a b sh m bi w t (fitH (hf bi) w (sdRw a b sh m y z x)) y
    simp only [sdC, List.length_cons]
    split <;> omega
theorem sd_in {a b y z bi : Int} (g : goodB bi = true) (ha : (-1024 ≤ a ∧ a ≤ 1024) ∧ (-1024 ≤ b ∧ b ≤ 1024)) (hy : -(hf bi) ≤ y ∧ y ≤ hf bi - 1) (hz : -(hf bi) ≤ z ∧ z ≤ hf bi - 1) : (-33554432 ≤ a * y ∧ a * y ≤ 33554432) ∧ (-33554432 ≤ b * z ∧ b * z ≤ 33554432) :=
  ⟨ay_in g ha.1 hy, ay_in g ha.2 hz⟩
theorem sdRw_in {a b sh m bi y z x : Int} (ok : sdOk a b sh m bi = true) (hy : -(hf bi) ≤ y ∧ y ≤ hf bi - 1) (hz : -(hf bi) ≤ z ∧ z ≤ hf bi - 1) (hx : -100000 ≤ x ∧ x ≤ 100000) : (-67108864 ≤ shM (a * y + b * z) (2 ^ sh.toNat) m ∧ shM (a * y + b * z) (2 ^ sh.toNat) m ≤ 67108865) ∧ (-80000000 ≤ sdRw a b sh m y z x ∧ sdRw a b sh m y z x ≤ 80000000) := by
  obtain ⟨h1, h2, h3, h4⟩ := sdOk_iff.1 ok
  have h5 := sd_in h4 h1 hy hz
  have := shM_in (M := 67108864) m (pow2_pos sh.toNat) (by omega) (x := a * y + b * z) (by omega)
  unfold sdRw
  omega
theorem sd_w {a b y z : Int} (h : (-33554432 ≤ a * y ∧ a * y ≤ 33554432) ∧ (-33554432 ≤ b * z ∧ b * z ≤ 33554432)) : wrap64 (wrap64 (a * y) + wrap64 (b * z)) = a * y + b * z := by
  rw [w64 (n := a * y) (by omega) (by omega), w64 (n := b * z) (by omega) (by omega), w64 (n := a * y + b * z) (by omega) (by omega)]

theorem spec_sdGood_eq (a b sh m bi : Int) (w : Bool) : spec_sdGood.f a b sh m bi w = some (sdOk a b sh m bi) := by
  unfold spec_sdGood.f sdOk
  simp only [spec_l1In_eq, spec_wdMode_eq, spec_wdGood_eq, Option.bind_some]
  by_cases c1 : (decide (-1024 ≤ a) && decide (a ≤ 1024)) = true
  · rw [if_pos c1, c1]
    by_cases c4 : (decide (-1024 ≤ b) && decide (b ≤ 1024)) = true
    · rw [if_pos c4, c4]
      by_cases c2 : (decide (0 ≤ sh) && decide (sh ≤ 10)) = true
      · rw [if_pos c2, c2]
        have c2' : 0 ≤ sh ∧ sh ≤ 10 := by simpa using c2
        by_cases c3 : (decide (0 ≤ m) && decide (m ≤ 2)) = true
        · have c3' : 0 ≤ m ∧ m ≤ 2 := by simpa using c3
          rw [if_pos (modeOk_iff.2 ⟨by omega, c3'⟩), c3]
          rfl
        · rw [if_neg (fun h => c3 (by have := (modeOk_iff.1 h).2; simpa using this)), Bool.eq_false_iff.mpr c3]
          rfl
      · rw [if_neg c2, Bool.eq_false_iff.mpr c2]
        rfl
    · rw [if_neg c4, Bool.eq_false_iff.mpr c4]
      rfl
  · rw [if_neg c1, Bool.eq_false_iff.mpr c1]
    rfl

theorem impl_isSecond_eq (a b sh m bi : Int) (w : Bool) : impl_isSecond.f a b sh m bi w = some (sdOk a b sh m bi) := by
  unfold impl_isSecond.f impl_isFactor.f impl_isScale.f sdOk
  simp only [impl_in_eq, impl_isWord_eq, Option.bind_some]
  by_cases c1 : (decide (-1024 ≤ a) && decide (a ≤ 1024)) = true
  · rw [if_pos c1, c1]
    by_cases c4 : (decide (-1024 ≤ b) && decide (b ≤ 1024)) = true
    · rw [if_pos c4, c4]
      by_cases c2 : (decide (0 ≤ sh) && decide (sh ≤ 10)) = true
      · rw [if_pos c2, c2]
        simp only [Option.bind_some]
        by_cases c3 : (decide (0 ≤ m) && decide (m ≤ 2)) = true
        · rw [if_pos c3, c3]
          rfl
        · rw [if_neg c3, Bool.eq_false_iff.mpr c3]
          rfl
      · rw [if_neg c2, Bool.eq_false_iff.mpr c2]
        rfl
    · rw [if_neg c4, Bool.eq_false_iff.mpr c4]
      rfl
  · rw [if_neg c1, Bool.eq_false_iff.mpr c1]
    rfl

def sdAsk (a b sh m bi y z : Int) : Bool := sdOk a b sh m bi && (inW bi y && inW bi z)
theorem sdAsk_iff {a b sh m bi y z : Int} : sdAsk a b sh m bi y z = true ↔ sdOk a b sh m bi = true ∧ (-(hf bi) ≤ y ∧ y ≤ hf bi - 1) ∧ (-(hf bi) ≤ z ∧ z ≤ hf bi - 1) := by
  simp only [sdAsk, Bool.and_eq_true, inW_iff]
theorem spec_sdAsked_eq (a b sh m bi : Int) (w : Bool) (y z x : Int) : spec_sdAsked.f a b sh m bi w y z x = some (sdAsk a b sh m bi y z && (decide (-100000 ≤ x) && decide (x ≤ 100000))) := by
  unfold spec_sdAsked.f sdAsk
  simp only [spec_sdGood_eq, spec_wdIn_eq, spec_l1In_eq, Option.bind_some]
  by_cases c : sdOk a b sh m bi = true
  · have g := (sdOk_iff.1 c).2.2.2
    rw [if_pos c, if_pos g, if_pos g, c, Bool.true_and]
    by_cases d : inW bi y = true
    · rw [if_pos d, d, Bool.true_and]
      by_cases e : inW bi z = true
      · rw [if_pos e, e, Bool.true_and]
      · rw [if_neg e, Bool.eq_false_iff.mpr e, Bool.false_and]
    · rw [if_neg d, Bool.eq_false_iff.mpr d, Bool.false_and, Bool.false_and]
  · rw [if_neg c, Bool.eq_false_iff.mpr c, Bool.false_and, Bool.false_and]

theorem impl_Second_isAt_eq (a b sh m bi : Int) (w : Bool) (y z : Int) : impl_Second_isAt.f a b sh m bi w y z = some (sdAsk a b sh m bi y z) := by
  simp only [impl_Second_isAt.f, impl_isSecond_eq, Option.bind_some, sdAsk]
  by_cases c : sdOk a b sh m bi = true
  · have g := (sdOk_iff.1 c).2.2.2
    rw [if_pos c, c, Bool.true_and, impl_Word_has_eq w y g, impl_Word_has_eq w z g]
    simp only [Option.bind_some]
    by_cases d : inW bi y = true
    · rw [if_pos d, d, Bool.true_and]
    · rw [if_neg d, Bool.eq_false_iff.mpr d, Bool.false_and]
  · rw [if_neg c, Bool.eq_false_iff.mpr c, Bool.false_and]

theorem impl_Second_raw_ev (a b sh m bi : Int) (w : Bool) (ok : sdOk a b sh m bi = true) {y z x : Int} (hy : -(hf bi) ≤ y ∧ y ≤ hf bi - 1) (hz : -(hf bi) ≤ z ∧ z ≤ hf bi - 1) (hx : -100000 ≤ x ∧ x ≤ 100000) : Ev (fun k => impl_Second_raw.f k a b sh m bi w y z x) (sdRw a b sh m y z x) := by
  obtain ⟨k1, k2, k3, g⟩ := sdOk_iff.1 ok
  have hr := sdRw_in ok hy hz hx
  have hay := sd_in g k1 hy hz
  obtain ⟨n, rfl⟩ : ∃ n : Nat, sh = (n : Int) := ⟨sh.toNat, by omega⟩
  rw [Int.toNat_natCast] at hr
  simp only [impl_Second_raw.f]
  rw [sd_w hay]
  refine Ev.bind (impl_shifted_ev (a * y + b * z) n m (by omega) (by omega)) (Ev.to (Ev.now _) ?_)
  rw [w64 (n := shM (a * y + b * z) (2 ^ n) m + x) (by omega) (by omega), sdRw, Int.toNat_natCast]
theorem impl_Second_step_ev (a b sh m bi : Int) (w : Bool) (ok : sdOk a b sh m bi = true) {y z x : Int} (hy : -(hf bi) ≤ y ∧ y ≤ hf bi - 1) (hz : -(hf bi) ≤ z ∧ z ≤ hf bi - 1) (hx : -100000 ≤ x ∧ x ≤ 100000) : Ev (fun k => impl_Second_step.f k a b sh m bi w y z x) (fitH (hf bi) w (sdRw a b sh m y z x), y) := by
  have g := (sdOk_iff.1 ok).2.2.2
  have hr := sdRw_in ok hy hz hx
  simp only [impl_Second_step.f]
  exact Ev.bind (impl_Second_raw_ev a b sh m bi w ok hy hz hx) (Ev.dbind (impl_Word_fit_eq w _ g (by omega)) (Ev.now _))

theorem spec_sdRaw_ev (a b sh m bi : Int) (w : Bool) (ok : sdOk a b sh m bi = true) {y z x : Int} (hy : -(hf bi) ≤ y ∧ y ≤ hf bi - 1) (hz : -(hf bi) ≤ z ∧ z ≤ hf bi - 1) (hx : -100000 ≤ x ∧ x ≤ 100000) : Ev (fun k => spec_sdRaw.f k a b sh m bi w y z x) (sdRw a b sh m y z x) := by
  obtain ⟨k1, k2, k3, g⟩ := sdOk_iff.1 ok
  have hr := sdRw_in ok hy hz hx
  have hay := sd_in g k1 hy hz
  obtain ⟨n, rfl⟩ : ∃ n : Nat, sh = (n : Int) := ⟨sh.toNat, by omega⟩
  rw [Int.toNat_natCast] at hr
  simp only [spec_sdRaw.f]
  rw [sd_w hay]
  refine Ev.bind (spec_wdShift_ev (a * y + b * z) n m (by omega) (by omega)) (Ev.to (Ev.now _) ?_)
  rw [w64 (n := shM (a * y + b * z) (2 ^ n) m + x) (by omega) (by omega), sdRw, Int.toNat_natCast]

theorem spec_sdRun_l0 (a b sh m bi : Int) (w : Bool) (ok : sdOk a b sh m bi = true) (l : List Int) (hl : l.length ≤ 1000000) (hb : ∀ x ∈ l, -100000 ≤ x ∧ x ≤ 100000) : ∀ (t p q : List Int) (y z : Int) (c : Nat), l = p ++ t → q.length = p.length → c ≤ p.length → (-(hf bi) ≤ y ∧ y ≤ hf bi - 1) → (-(hf bi) ≤ z ∧ z ≤ hf bi - 1) →
    Ev (fun k => spec_sdRun.l0 k y z q (c : Int) l (l.length : Int) (p.length : Int) a b sh m bi w) (q ++ sdM a b sh m bi w t y z, ((c + sdC a b sh m bi w t y z : Nat) : Int))
  | [], p, q, y, z, c, h, hq, hc, hy, hz => by
    refine Ev.to (Ev.step (f := fun _ => some (q, (c : Int))) (fun k => ?_) (Ev.now _)) (by simp [sdM, sdC])
    subst h
    simp [spec_sdRun.l0]
  | x :: t, p, q, y, z, c, h, hq, hc, hy, hz => by
    have hpl : p.length ≤ 1000000 := by rw [h] at hl; simp at hl; omega
    have hc1 : c ≤ (p ++ [x]).length := by simp; omega
    have hc2 : c + 1 ≤ (p ++ [x]).length := by simp; omega
    have hql : q.length < 17592186044416 := by omega
    have e1 : (p.length : Int) < (l.length : Int) := by rw [h]; exact lt_mid p t x
    have e2 : rd l (p.length : Int) = x := by rw [h]; exact rd_mid p t x
    have e3 : wrap64 ((p.length : Int) + 1) = ((p ++ [x]).length : Int) := nx_mid p t x (by rw [← h]; omega)
    have hx := hb x (by rw [h]; simp)
    have e4 : wrap64 ((c : Int) + 1) = ((c + 1 : Nat) : Int) := w64_nat c 1 (by omega)
    have g := (sdOk_iff.1 ok).2.2.2
    have hf1 := fitH_bd (hf bi) w (sdRw a b sh m y z x) (by have := (half g).1; omega)
    have hraw := spec_sdRaw_ev a b sh m bi w ok hy hz hx
    by_cases d : fitH (hf bi) w (sdRw a b sh m y z x) = sdRw a b sh m y z x
    · have ih := spec_sdRun_l0 a b sh m bi w ok l hl hb t (p ++ [x]) (q ++ [fitH (hf bi) w (sdRw a b sh m y z x)]) (fitH (hf bi) w (sdRw a b sh m y z x)) y c (by simp [h]) (by simp [hq]) hc1 hf1 hy
      refine Ev.to (Ev.step (fun k => by simp only [spec_sdRun.l0]; rfl) ?_) (show (q ++ [fitH (hf bi) w (sdRw a b sh m y z x)] ++ sdM a b sh m bi w t (fitH (hf bi) w (sdRw a b sh m y z x)) y, ((c + sdC a b sh m bi w t (fitH (hf bi) w (sdRw a b sh m y z x)) y : Nat) : Int)) = _ by simp only [sdM, sdC, if_pos d, List.append_assoc, List.singleton_append, Nat.zero_add])
      rw [e2, e3]
      exact Ev.tt e1 (Ev.tt (Int.natCast_nonneg _) (Ev.tt e1 (Ev.bind hraw (Ev.dbind (spec_wdFit_eq w _ g) (Ev.tt d (Ev.tt hql ih))))))
    · have ih := spec_sdRun_l0 a b sh m bi w ok l hl hb t (p ++ [x]) (q ++ [fitH (hf bi) w (sdRw a b sh m y z x)]) (fitH (hf bi) w (sdRw a b sh m y z x)) y (c + 1) (by simp [h]) (by simp [hq]) hc2 hf1 hy
      refine Ev.to (Ev.step (fun k => by simp only [spec_sdRun.l0]; rfl) ?_) (show (q ++ [fitH (hf bi) w (sdRw a b sh m y z x)] ++ sdM a b sh m bi w t (fitH (hf bi) w (sdRw a b sh m y z x)) y, ((c + 1 + sdC a b sh m bi w t (fitH (hf bi) w (sdRw a b sh m y z x)) y : Nat) : Int)) = _ by simp only [sdM, sdC, if_neg d, List.append_assoc, List.singleton_append, Nat.add_assoc])
      rw [e2, e3, e4]
      exact Ev.tt e1 (Ev.tt (Int.natCast_nonneg _) (Ev.tt e1 (Ev.bind hraw (Ev.dbind (spec_wdFit_eq w _ g) (Ev.ff d (Ev.tt hql ih))))))
theorem spec_sdRun_ev (a b sh m bi : Int) (w : Bool) (ok : sdOk a b sh m bi = true) (l : List Int) (hs : sig l = true) {y z : Int} (hy : -(hf bi) ≤ y ∧ y ≤ hf bi - 1) (hz : -(hf bi) ≤ z ∧ z ≤ hf bi - 1) : Ev (fun k => spec_sdRun.f k a b sh m bi w y z l) (sdM a b sh m bi w l y z, ((sdC a b sh m bi w l y z : Nat) : Int)) := by
  have hl := sig_len hs
  have h := spec_sdRun_l0 a b sh m bi w ok l (by omega) (sig_mem hs) l [] [] y z 0 rfl rfl (Nat.le_refl _) hy hz
  simpa [spec_sdRun.f] using h

def runSecondM (a b sh m bi : Int) (w : Bool) (y z : Int) (l : List Int) : List Int × Bool := if sdAsk a b sh m bi y z = true ∧ sig l = true then (sdM a b sh m bi w l y z, true) else ([], false)
theorem sdAsk0 (a b sh m bi y z : Int) : (sdAsk a b sh m bi y z && (decide (-100000 ≤ (0 : Int)) && decide ((0 : Int) ≤ 100000))) = sdAsk a b sh m bi y z := by simp
theorem spec_RunSecond_ev (a b sh m bi : Int) (w : Bool) (y z : Int) (l : List Int) (hl : l.length ≤ 10000000) : Ev (fun k => spec_RunSecond.f k a b sh m bi w y z l) (runSecondM a b sh m bi w y z l) := by
  simp only [spec_RunSecond.f, spec_sdAsked_eq, Option.bind_some, runSecondM]
  rw [sdAsk0]
  by_cases c : sdAsk a b sh m bi y z = true
  · refine Ev.tt c (Ev.bind (spec_wdSignal_ev l (by omega)) ?_)
    obtain ⟨k0, k1, k2⟩ := sdAsk_iff.1 c
    by_cases d : sig l = true
    · rw [if_pos ⟨c, d⟩]
      exact Ev.tt d (Ev.bind (spec_sdRun_ev a b sh m bi w k0 l d k1 k2) (Ev.now _))
    · rw [if_neg (fun h => d h.2)]
      exact Ev.ff d (Ev.now _)
  · rw [if_neg (fun h => c h.1)]
    exact Ev.ff c (Ev.now _)
theorem impl_RunSecond_l0 (a b sh m bi : Int) (w : Bool) (ok : sdOk a b sh m bi = true) (l : List Int) (hl : l.length ≤ 1000000) (hb : ∀ x ∈ l, -100000 ≤ x ∧ x ≤ 100000) : ∀ (t p q : List Int) (y z : Int), l = p ++ t → q.length = p.length → (-(hf bi) ≤ y ∧ y ≤ hf bi - 1) → (-(hf bi) ≤ z ∧ z ≤ hf bi - 1) →
    Ev (fun k => impl_RunSecond.l0 k q l (l.length : Int) (p.length : Int) a b sh m bi w y z) (q ++ sdM a b sh m bi w t y z, true)
  | [], p, q, y, z, h, hq, hy, hz => by
    refine Ev.to (Ev.step (f := fun _ => some (q, true)) (fun k => ?_) (Ev.now _)) (by simp [sdM])
    subst h
    simp [impl_RunSecond.l0]
  | x :: t, p, q, y, z, h, hq, hy, hz => by
    have hpl : p.length ≤ 1000000 := by rw [h] at hl; simp at hl; omega
    have hql : q.length < 17592186044416 := by omega
    have e1 : (p.length : Int) < (l.length : Int) := by rw [h]; exact lt_mid p t x
    have e2 : rd l (p.length : Int) = x := by rw [h]; exact rd_mid p t x
    have e3 : wrap64 ((p.length : Int) + 1) = ((p ++ [x]).length : Int) := nx_mid p t x (by rw [← h]; omega)
    have hx := hb x (by rw [h]; simp)
    have g := (sdOk_iff.1 ok).2.2.2
    have hf1 := fitH_bd (hf bi) w (sdRw a b sh m y z x) (by have := (half g).1; omega)
    refine Ev.to (Ev.step (fun k => by simp only [impl_RunSecond.l0]; rfl) ?_) (show (q ++ [fitH (hf bi) w (sdRw a b sh m y z x)] ++ sdM a b sh m bi w t (fitH (hf bi) w (sdRw a b sh m y z x)) y, true) = _ by simp [sdM])
    rw [e2, e3]
    exact Ev.tt e1 (Ev.tt (Int.natCast_nonneg _) (Ev.tt e1 (Ev.bind (impl_Second_step_ev a b sh m bi w ok hy hz hx) (Ev.tt hql (impl_RunSecond_l0 a b sh m bi w ok l hl hb t (p ++ [x]) (q ++ [fitH (hf bi) w (sdRw a b sh m y z x)]) _ _ (by simp [h]) (by simp [hq]) hf1 hy)))))
theorem impl_RunSecond_ev (a b sh m bi : Int) (w : Bool) (y z : Int) (l : List Int) (hl : l.length ≤ 10000000) : Ev (fun k => impl_RunSecond.f k a b sh m bi w y z l) (runSecondM a b sh m bi w y z l) := by
  have fail : Ev (fun k => impl_RunSecond.j0 k y z l true a b sh m bi w) ([], false) := by
    refine Ev.step (f := fun _ => some ([], false)) (fun k => ?_) (Ev.now _)
    simp [impl_RunSecond.j0]
  simp only [impl_RunSecond.f, impl_Second_isAt_eq, Option.bind_some, runSecondM]
  by_cases c : sdAsk a b sh m bi y z = true
  · refine Ev.tt c (Ev.bind (impl_isSignal_ev l (by omega)) ?_)
    obtain ⟨k0, k1, k2⟩ := sdAsk_iff.1 c
    by_cases d : sig l = true
    · rw [if_pos ⟨c, d⟩, d]
      refine Ev.step (fun k => by simp only [impl_RunSecond.j0]; rfl) (Ev.ff (by decide) ?_)
      have h := impl_RunSecond_l0 a b sh m bi w k0 l (by have := sig_len d; omega) (sig_mem d) l [] [] y z rfl rfl k1 k2
      simpa using h
    · rw [if_neg (fun h => d h.2), Bool.eq_false_iff.mpr d]
      exact fail
  · rw [if_neg (fun h => c h.1)]
    exact Ev.ff c fail

def countPairM (a b sh m bi : Int) (w : Bool) (y z : Int) (l : List Int) : Int × Bool := if sdAsk a b sh m bi y z = true ∧ sig l = true then ((sdC a b sh m bi w l y z : Int), true) else (0, false)
theorem spec_CountPairFits_ev (a b sh m bi : Int) (w : Bool) (y z : Int) (l : List Int) (hl : l.length ≤ 10000000) : Ev (fun k => spec_CountPairFits.f k a b sh m bi w y z l) (countPairM a b sh m bi w y z l) := by
  simp only [spec_CountPairFits.f, spec_sdAsked_eq, Option.bind_some, countPairM]
  rw [sdAsk0]
  by_cases c : sdAsk a b sh m bi y z = true
  · refine Ev.tt c (Ev.bind (spec_wdSignal_ev l (by omega)) ?_)
    obtain ⟨k0, k1, k2⟩ := sdAsk_iff.1 c
    by_cases d : sig l = true
    · rw [if_pos ⟨c, d⟩]
      exact Ev.tt d (Ev.bind (spec_sdRun_ev a b sh m bi w k0 l d k1 k2) (Ev.now _))
    · rw [if_neg (fun h => d h.2)]
      exact Ev.ff d (Ev.now _)
  · rw [if_neg (fun h => c h.1)]
    exact Ev.ff c (Ev.now _)
theorem sd_fit_iff {b : Int} (g : goodB b = true) (w : Bool) (x : Int) : fitH (hf b) w x = x ↔ inW b x = true := by
  have hf1 := fitH_bd (hf b) w x (by have := (half g).1; omega)
  constructor
  · intro h
    rw [h] at hf1
    exact inW_iff.2 hf1
  · intro h
    have h' := inW_iff.1 h
    exact fitH_id _ w x h'.1 h'.2
theorem impl_CountPairFits_l0 (a b sh m bi : Int) (w : Bool) (ok : sdOk a b sh m bi = true) (l : List Int) (hl : l.length ≤ 1000000) (hb : ∀ x ∈ l, -100000 ≤ x ∧ x ≤ 100000) : ∀ (t p : List Int) (y z : Int) (c : Nat), l = p ++ t → c ≤ p.length → (-(hf bi) ≤ y ∧ y ≤ hf bi - 1) → (-(hf bi) ≤ z ∧ z ≤ hf bi - 1) →
    Ev (fun k => impl_CountPairFits.l0 k (c : Int) l (l.length : Int) (p.length : Int) a b sh m bi w y z) (((c + sdC a b sh m bi w t y z : Nat) : Int), true)
  | [], p, y, z, c, h, hc, hy, hz => by
    refine Ev.to (Ev.step (f := fun _ => some ((c : Int), true)) (fun k => ?_) (Ev.now _)) (by simp [sdC])
    subst h
    simp [impl_CountPairFits.l0]
  | x :: t, p, y, z, c, h, hc, hy, hz => by
    have hpl : p.length ≤ 1000000 := by rw [h] at hl; simp at hl; omega
    have hc1 : c ≤ (p ++ [x]).length := by simp; omega
    have hc2 : c + 1 ≤ (p ++ [x]).length := by simp; omega
    have e1 : (p.length : Int) < (l.length : Int) := by rw [h]; exact lt_mid p t x
    have e2 : rd l (p.length : Int) = x := by rw [h]; exact rd_mid p t x
    have e3 : wrap64 ((p.length : Int) + 1) = ((p ++ [x]).length : Int) := nx_mid p t x (by rw [← h]; omega)
    have hx := hb x (by rw [h]; simp)
    have e4 : wrap64 ((c : Int) + 1) = ((c + 1 : Nat) : Int) := w64_nat c 1 (by omega)
    have g := (sdOk_iff.1 ok).2.2.2
    have hf1 := fitH_bd (hf bi) w (sdRw a b sh m y z x) (by have := (half g).1; omega)
    have hraw := impl_Second_raw_ev a b sh m bi w ok hy hz hx
    have hstep := impl_Second_step_ev a b sh m bi w ok hy hz hx
    by_cases d : fitH (hf bi) w (sdRw a b sh m y z x) = sdRw a b sh m y z x
    · have ih := impl_CountPairFits_l0 a b sh m bi w ok l hl hb t (p ++ [x]) (fitH (hf bi) w (sdRw a b sh m y z x)) y c (by simp [h]) hc1 hf1 hy
      refine Ev.to (Ev.step (fun k => by simp only [impl_CountPairFits.l0]; rfl) ?_) (show (((c + sdC a b sh m bi w t (fitH (hf bi) w (sdRw a b sh m y z x)) y : Nat) : Int), true) = _ by simp only [sdC, if_pos d, Nat.zero_add])
      rw [e2, e3]
      exact Ev.tt e1 (Ev.tt (Int.natCast_nonneg _) (Ev.tt e1 (Ev.bind hraw (Ev.dbind (impl_Word_has_eq w _ g) (Ev.tt ((sd_fit_iff g w _).1 d) (Ev.bind hstep ih))))))
    · have ih := impl_CountPairFits_l0 a b sh m bi w ok l hl hb t (p ++ [x]) (fitH (hf bi) w (sdRw a b sh m y z x)) y (c + 1) (by simp [h]) hc2 hf1 hy
      refine Ev.to (Ev.step (fun k => by simp only [impl_CountPairFits.l0]; rfl) ?_) (show (((c + 1 + sdC a b sh m bi w t (fitH (hf bi) w (sdRw a b sh m y z x)) y : Nat) : Int), true) = _ by simp only [sdC, if_neg d, Nat.add_assoc])
      rw [e2, e3, e4]
      exact Ev.tt e1 (Ev.tt (Int.natCast_nonneg _) (Ev.tt e1 (Ev.bind hraw (Ev.dbind (impl_Word_has_eq w _ g) (Ev.ff (fun h => d ((sd_fit_iff g w _).2 h)) (Ev.bind hstep ih))))))
theorem impl_CountPairFits_ev (a b sh m bi : Int) (w : Bool) (y z : Int) (l : List Int) (hl : l.length ≤ 10000000) : Ev (fun k => impl_CountPairFits.f k a b sh m bi w y z l) (countPairM a b sh m bi w y z l) := by
  have fail : Ev (fun k => impl_CountPairFits.j0 k y z l true a b sh m bi w) (0, false) := by
    refine Ev.step (f := fun _ => some (0, false)) (fun k => ?_) (Ev.now _)
    simp [impl_CountPairFits.j0]
  simp only [impl_CountPairFits.f, impl_Second_isAt_eq, Option.bind_some, countPairM]
  by_cases c : sdAsk a b sh m bi y z = true
  · refine Ev.tt c (Ev.bind (impl_isSignal_ev l (by omega)) ?_)
    obtain ⟨k0, k1, k2⟩ := sdAsk_iff.1 c
    by_cases d : sig l = true
    · rw [if_pos ⟨c, d⟩, d]
      refine Ev.step (fun k => by simp only [impl_CountPairFits.j0]; rfl) (Ev.ff (by decide) ?_)
      have h := impl_CountPairFits_l0 a b sh m bi w k0 l (by have := sig_len d; omega) (sig_mem d) l [] y z 0 rfl (Nat.le_refl _) k1 k2
      simpa using h
    · rw [if_neg (fun h => d h.2), Bool.eq_false_iff.mpr d]
      exact fail
  · rw [if_neg (fun h => c h.1)]
    exact Ev.ff c fail

def secondStepM (a b sh m bi : Int) (w : Bool) (y z x : Int) : Int × Bool := if sdAsk a b sh m bi y z = true ∧ (-100000 ≤ x ∧ x ≤ 100000) then (fitH (hf bi) w (sdRw a b sh m y z x), true) else (0, false)
theorem spec_SecondStep_ev (a b sh m bi : Int) (w : Bool) (y z x : Int) : Ev (fun k => spec_SecondStep.f k a b sh m bi w y z x) (secondStepM a b sh m bi w y z x) := by
  simp only [spec_SecondStep.f, secondStepM, spec_sdAsked_eq, Option.bind_some]
  by_cases c : sdAsk a b sh m bi y z = true
  · obtain ⟨k0, k1, k2⟩ := sdAsk_iff.1 c
    by_cases d : -100000 ≤ x ∧ x ≤ 100000
    · have g := (sdOk_iff.1 k0).2.2.2
      rw [if_pos ⟨c, d⟩, c]
      refine Ev.tt (by simpa using d) ?_
      simp only [spec_sdStep.f]
      exact Ev.bind (Ev.bind (spec_sdRaw_ev a b sh m bi w k0 k1 k2 d) (Ev.dbind (spec_wdFit_eq w _ g) (Ev.now _))) (Ev.now _)
    · rw [if_neg (fun h => d h.2), c]
      exact Ev.ff (by simpa using d) (Ev.now _)
  · rw [if_neg (fun h => c h.1), Bool.eq_false_iff.mpr c]
    exact Ev.ff (by simp) (Ev.now _)
theorem impl_SecondStep_ev (a b sh m bi : Int) (w : Bool) (y z x : Int) : Ev (fun k => impl_SecondStep.f k a b sh m bi w y z x) (secondStepM a b sh m bi w y z x) := by
  simp only [impl_SecondStep.f, secondStepM, impl_Second_isAt_eq, Option.bind_some]
  by_cases c : sdAsk a b sh m bi y z = true
  · obtain ⟨k0, k1, k2⟩ := sdAsk_iff.1 c
    refine Ev.tt c ?_
    simp only [impl_isSample.f, impl_in_eq, Option.bind_some]
    by_cases d : -100000 ≤ x ∧ x ≤ 100000
    · rw [if_pos ⟨c, d⟩]
      exact Ev.tt (by simpa using d) (Ev.bind (impl_Second_step_ev a b sh m bi w k0 k1 k2 d) (Ev.now _))
    · rw [if_neg (fun h => d h.2)]
      exact Ev.ff (by simpa using d) (Ev.now _)
  · rw [if_neg (fun h => c h.1)]
    exact Ev.ff c (Ev.now _)

def nxM (a b S : Int) (f : Bool) (y z : Int) : Int := a * y + (if f = true then b * z else b * S * z)
def exG2 (a b S : Int) : List Int → Bool → Int → Int → Int → Option (List Int)
  | [], _, _, _, _ => some []
  | x :: t, f, y, z, c => if numOk (c * S) = true then (if numOk (nxM a b S f y z + x * (c * S)) = true then (exG2 a b S t false (nxM a b S f y z + x * (c * S)) y (c * S)).map (fun r => (nxM a b S f y z + x * (c * S)) :: r) else none) else none
def exO (q : List Int) : Option (List Int) → List Int × Bool
  | some r => (q ++ r, true)
  | none => ([], false)
theorem exO_cons (q : List Int) (v : Int) (g : Option (List Int)) : exO q (g.map (fun r => v :: r)) = exO (q ++ [v]) g := by
  cases g <;> simp [exO]
theorem pr_mul {a y : Int} {A Y : Nat} (ha : a.natAbs ≤ A) (hy : y.natAbs ≤ Y) : (a * y).natAbs ≤ A * Y := by
  rw [Int.natAbs_mul]
  exact Nat.mul_le_mul ha hy
theorem pr_pow {n : Nat} (h : n ≤ 10) : 1 ≤ (2 : Int) ^ n ∧ (2 : Int) ^ n ≤ 1024 := by
  have h1 : (2 : Nat) ^ n ≤ 2 ^ 10 := Nat.pow_le_pow_right (by decide) h
  have h3 : (2 : Int) ^ n = (((2 : Nat) ^ n : Nat) : Int) := by simp
  have h4 : (2 : Nat) ^ 10 = 1024 := by decide
  have h5 : (0 : Int) < 2 ^ n := Int.pow_pos (by decide)
  omega
/-- what of an exact step is no wrap -/
theorem es_num {a b x y z c S : Int} (ha : (-1024 ≤ a ∧ a ≤ 1024) ∧ (-1024 ≤ b ∧ b ≤ 1024)) (hx : -100000 ≤ x ∧ x ≤ 100000) (hy : -1000000000000 ≤ y ∧ y ≤ 1000000000000) (hz : -1000000000000 ≤ z ∧ z ≤ 1000000000000) (hc : 1 ≤ c ∧ c ≤ 1000000000000) (hS : 1 ≤ S ∧ S ≤ 1024) :
    (1 ≤ c * S ∧ c * S ≤ 1024000000000000) ∧ wrap64 (a * y) = a * y ∧ wrap64 (b * z) = b * z ∧ (-4000000000000000000 ≤ b * z * S ∧ b * z * S ≤ 4000000000000000000) ∧ (-4000000000000000000 ≤ b * S ∧ b * S ≤ 4000000000000000000) ∧ wrap64 (b * S * z) = b * S * z ∧ (wrap64 (a * y + b * z) = nxM a b S true y z ∧ wrap64 (a * y + b * S * z) = nxM a b S false y z) ∧
    (numOk (c * S) = true → wrap64 (x * (c * S)) = x * (c * S) ∧ ∀ f, wrap64 (nxM a b S f y z + x * (c * S)) = nxM a b S f y z + x * (c * S)) := by
  have h1 := pr_mul (A := 1024) (Y := 1000000000000) (a := a) (y := y) (by omega) (by omega)
  have h2 := pr_mul (A := 1024) (Y := 1000000000000) (a := b) (y := z) (by omega) (by omega)
  have h3 := pr_mul (A := 1024) (Y := 1024) (a := b) (y := S) (by omega) (by omega)
  have h4 := pr_mul (A := 1024 * 1000000000000) (Y := 1024) (a := b * z) (y := S) h2 (by omega)
  have h5 := pr_mul (A := 1024 * 1024) (Y := 1000000000000) (a := b * S) (y := z) h3 (by omega)
  have h6 := pr_mul (A := 1000000000000) (Y := 1024) (a := c) (y := S) (by omega) (by omega)
  have h7 : 1 * 1 ≤ c * S := Int.mul_le_mul hc.1 hS.1 (by omega) (by omega)
  have e1 : wrap64 (a * y) = a * y := w64 (by omega) (by omega)
  have e2 : wrap64 (b * z) = b * z := w64 (by omega) (by omega)
  have e3 : wrap64 (b * S * z) = b * S * z := w64 (by omega) (by omega)
  have e4 : wrap64 (a * y + b * z) = a * y + b * z := w64 (by omega) (by omega)
  have e5 : wrap64 (a * y + b * S * z) = a * y + b * S * z := w64 (by omega) (by omega)
  refine ⟨⟨by omega, by omega⟩, e1, e2, ⟨by omega, by omega⟩, ⟨by omega, by omega⟩, e3, ⟨by rw [e4, nxM, if_pos rfl], by rw [e5, nxM, if_neg (by decide)]⟩, fun hn => ?_⟩
  have hn' := numOk_iff.1 hn
  have h8 := pr_mul (A := 100000) (Y := 1000000000000) (a := x) (y := c * S) (by omega) (by omega)
  refine ⟨w64 (by omega) (by omega), fun f => ?_⟩
  cases f with
  | true => rw [nxM, if_pos rfl]; exact w64 (by omega) (by omega)
  | false => rw [nxM, if_neg (by decide)]; exact w64 (by omega) (by omega)
theorem spec_ExactSecond_l0 (a b : Int) (n : Nat) (m bi : Int) (w : Bool) (ha : (-1024 ≤ a ∧ a ≤ 1024) ∧ (-1024 ≤ b ∧ b ≤ 1024)) (hn : n ≤ 10) (l : List Int) (hl : l.length ≤ 1000000) (hb : ∀ x ∈ l, -100000 ≤ x ∧ x ≤ 100000) : ∀ (t p q : List Int) (y z c : Int), l = p ++ t → q.length = p.length → (-1000000000000 ≤ y ∧ y ≤ 1000000000000) → (-1000000000000 ≤ z ∧ z ≤ 1000000000000) → (1 ≤ c ∧ c ≤ 1000000000000) →
    Ev (fun k => spec_ExactSecond.l0 k y z q c l (l.length : Int) (p.length : Int) a b (n : Int) m bi w) (exO q (exG2 a b (2 ^ n) t (p.length == 0) y z c))
  | [], p, q, y, z, c, h, hq, hy, hz, hc => by
    refine Ev.to (Ev.step (f := fun _ => some (q, true)) (fun k => ?_) (Ev.now _)) (by simp [exG2, exO])
    subst h
    simp [spec_ExactSecond.l0]
  | x :: t, p, q, y, z, c, h, hq, hy, hz, hc => by
    have hql : q.length < 17592186044416 := by rw [h] at hl; simp at hl; omega
    have e1 : (p.length : Int) < (l.length : Int) := by rw [h]; exact lt_mid p t x
    have e2 : rd l (p.length : Int) = x := by rw [h]; exact rd_mid p t x
    have e3 : wrap64 ((p.length : Int) + 1) = ((p ++ [x]).length : Int) := nx_mid p t x (by rw [← h]; omega)
    have hx := hb x (by rw [h]; simp)
    have n0 : (0 : Int) ≤ (n : Int) := Int.natCast_nonneg _
    obtain ⟨⟨k1, k2⟩, f1, f2, f3, f4, f5, ⟨f6, f7⟩, f8⟩ := es_num ha hx hy hz hc (pr_pow hn)
    have e5 : shl .i64 c (n : Int) = c * 2 ^ n := shl_mul (by omega) c (by omega) (by omega)
    have e6 : shl .i64 (b * z) (n : Int) = b * z * 2 ^ n := shl_mul (by omega) (b * z) (by omega) (by omega)
    have e7 : b * z * 2 ^ n = b * 2 ^ n * z := Int.mul_right_comm _ _ _
    have e8 : ((p ++ [x]).length == 0) = false := by simp
    refine Ev.step (fun k => by simp only [spec_ExactSecond.l0]; rfl) ?_
    rw [e2, e3, e5, f1, f2, e6, e7, f6, f7]
    refine Ev.tt e1 (Ev.tt (Int.natCast_nonneg _) (Ev.tt e1 (Ev.tt n0 ?_)))
    by_cases d : numOk (c * 2 ^ n) = true
    · obtain ⟨g1, g2⟩ := f8 d
      have d' := numOk_iff.1 d
      rw [g1, g2, g2, exG2, if_pos d]
      refine Ev.ff (by omega) ?_
      by_cases hp : p.length = 0
      · have hpb : (p.length == 0) = true := by simp [hp]
        rw [hpb]
        refine Ev.tt (by omega) (Ev.dbind (spec_wdNumber_eq _) ?_)
        by_cases e : numOk (nxM a b (2 ^ n) true y z + x * (c * 2 ^ n)) = true
        · have e' := numOk_iff.1 e
          have ih := spec_ExactSecond_l0 a b n m bi w ha hn l hl hb t (p ++ [x]) (q ++ [nxM a b (2 ^ n) true y z + x * (c * 2 ^ n)]) (nxM a b (2 ^ n) true y z + x * (c * 2 ^ n)) y (c * 2 ^ n) (by simp [h]) (by simp [hq]) e' hy ⟨k1, d'.2⟩
          rw [e8] at ih
          rw [if_pos e, exO_cons]
          exact Ev.tt e (Ev.tt hql ih)
        · rw [if_neg e]
          exact Ev.ff e (Ev.now _)
      · have hpb : (p.length == 0) = false := by simp [hp]
        rw [hpb]
        refine Ev.ff (by omega) (Ev.dbind (spec_wdNumber_eq _) ?_)
        by_cases e : numOk (nxM a b (2 ^ n) false y z + x * (c * 2 ^ n)) = true
        · have e' := numOk_iff.1 e
          have ih := spec_ExactSecond_l0 a b n m bi w ha hn l hl hb t (p ++ [x]) (q ++ [nxM a b (2 ^ n) false y z + x * (c * 2 ^ n)]) (nxM a b (2 ^ n) false y z + x * (c * 2 ^ n)) y (c * 2 ^ n) (by simp [h]) (by simp [hq]) e' hy ⟨k1, d'.2⟩
          rw [e8] at ih
          rw [if_pos e, exO_cons]
          exact Ev.tt e (Ev.tt hql ih)
        · rw [if_neg e]
          exact Ev.ff e (Ev.now _)
    · rw [exG2, if_neg d]
      have d' : ¬ (-1000000000000 ≤ c * 2 ^ n ∧ c * 2 ^ n ≤ 1000000000000) := fun h => d (numOk_iff.2 h)
      exact Ev.tt (by omega) (Ev.now _)
theorem impl_nx_eq {a b y z : Int} {n : Nat} (i : Nat) (ha : (-1024 ≤ a ∧ a ≤ 1024) ∧ (-1024 ≤ b ∧ b ≤ 1024)) (hn : n ≤ 10) (hy : -1000000000000 ≤ y ∧ y ≤ 1000000000000) (hz : -1000000000000 ≤ z ∧ z ≤ 1000000000000) : impl_ExactSecond_nx a b (n : Int) (i : Int) y z = nxM a b (2 ^ n) (i == 0) y z := by
  obtain ⟨-, f1, f2, f3, f4, f5, ⟨f6, f7⟩, -⟩ := es_num (x := 0) (c := 1) ha (by omega) hy hz (by omega) (pr_pow hn)
  have e6 : shl .i64 b (n : Int) = b * 2 ^ n := shl_mul (by omega) b (by omega) (by omega)
  unfold impl_ExactSecond_nx
  rw [e6, f1, f2, f5]
  by_cases h : i = 0
  · subst h
    rw [if_pos (by simp), f6]
    rfl
  · have hb : (i == 0) = false := by simp [h]
    rw [if_neg (by omega), f7, hb]
theorem impl_ExactSecond_ex_l0 (a b : Int) (n : Nat) (ha : (-1024 ≤ a ∧ a ≤ 1024) ∧ (-1024 ≤ b ∧ b ≤ 1024)) (hn : n ≤ 10) (l : List Int) (hl : l.length ≤ 1000000) (hb : ∀ x ∈ l, -100000 ≤ x ∧ x ≤ 100000) : ∀ (t p q : List Int) (y z c : Int), l = p ++ t → q.length = p.length → (-1000000000000 ≤ y ∧ y ≤ 1000000000000) → (-1000000000000 ≤ z ∧ z ≤ 1000000000000) → (1 ≤ c ∧ c ≤ 1000000000000) →
    Ev (fun k => impl_ExactSecond_ex.l0 k y z q c (p.length : Int) l (n : Int) a b) (exO q (exG2 a b (2 ^ n) t (p.length == 0) y z c))
  | [], p, q, y, z, c, h, hq, hy, hz, hc => by
    refine Ev.to (Ev.step (f := fun _ => some (q, true)) (fun k => ?_) (Ev.now _)) (by simp [exG2, exO])
    subst h
    simp [impl_ExactSecond_ex.l0]
  | x :: t, p, q, y, z, c, h, hq, hy, hz, hc => by
    have hql : q.length < 17592186044416 := by rw [h] at hl; simp at hl; omega
    have e1 : (p.length : Int) < (l.length : Int) := by rw [h]; exact lt_mid p t x
    have e2 : rd l (p.length : Int) = x := by rw [h]; exact rd_mid p t x
    have e3 : wrap64 ((p.length : Int) + 1) = ((p ++ [x]).length : Int) := nx_mid p t x (by rw [← h]; omega)
    have hx := hb x (by rw [h]; simp)
    have n0 : (0 : Int) ≤ (n : Int) := Int.natCast_nonneg _
    obtain ⟨⟨k1, k2⟩, f1, f2, f3, f4, f5, ⟨f6, f7⟩, f8⟩ := es_num ha hx hy hz hc (pr_pow hn)
    have e5 : shl .i64 c (n : Int) = c * 2 ^ n := shl_mul (by omega) c (by omega) (by omega)
    have e8 : ((p ++ [x]).length == 0) = false := by simp
    have e9 := impl_nx_eq p.length ha hn hy hz
    refine Ev.step (fun k => by simp only [impl_ExactSecond_ex.l0]; rfl) ?_
    rw [e2, e3, e5, e9]
    refine Ev.tt e1 (Ev.tt (Int.natCast_nonneg _) (Ev.tt n0 (Ev.dbind (impl_isNumber_eq _) ?_)))
    by_cases d : numOk (c * 2 ^ n) = true
    · obtain ⟨g1, g2⟩ := f8 d
      have d' := numOk_iff.1 d
      rw [g1, g2, exG2, if_pos d]
      refine Ev.tt d (Ev.dbind (impl_isNumber_eq _) ?_)
      by_cases e : numOk (nxM a b (2 ^ n) (p.length == 0) y z + x * (c * 2 ^ n)) = true
      · have e' := numOk_iff.1 e
        have ih := impl_ExactSecond_ex_l0 a b n ha hn l hl hb t (p ++ [x]) (q ++ [nxM a b (2 ^ n) (p.length == 0) y z + x * (c * 2 ^ n)]) (nxM a b (2 ^ n) (p.length == 0) y z + x * (c * 2 ^ n)) y (c * 2 ^ n) (by simp [h]) (by simp [hq]) e' hy ⟨k1, d'.2⟩
        rw [e8] at ih
        rw [if_pos e, exO_cons]
        exact Ev.tt e (Ev.tt hql ih)
      · rw [if_neg e]
        exact Ev.ff e (Ev.now _)
    · rw [exG2, if_neg d]
      exact Ev.ff d (Ev.now _)
def exact2M (a b sh m bi y z : Int) (l : List Int) : List Int × Bool := if sdAsk a b sh m bi y z = true ∧ sig l = true then exO [] (exG2 a b (2 ^ sh.toNat) l true y z 1) else ([], false)
theorem sd_num {b y : Int} (g : goodB b = true) (h : -(hf b) ≤ y ∧ y ≤ hf b - 1) : -1000000000000 ≤ y ∧ y ≤ 1000000000000 := by
  have := (half g).1
  omega
theorem spec_ExactSecond_ev (a b sh m bi : Int) (w : Bool) (y z : Int) (l : List Int) (hl : l.length ≤ 10000000) : Ev (fun k => spec_ExactSecond.f k a b sh m bi w y z l) (exact2M a b sh m bi y z l) := by
  have fail : Ev (fun k => spec_ExactSecond.j0 k y z l true a b sh m bi w) ([], false) := by
    refine Ev.step (f := fun _ => some ([], false)) (fun k => ?_) (Ev.now _)
    simp [spec_ExactSecond.j0]
  simp only [spec_ExactSecond.f, spec_sdAsked_eq, Option.bind_some, exact2M]
  rw [sdAsk0]
  by_cases c : sdAsk a b sh m bi y z = true
  · refine Ev.tt c (Ev.bind (spec_wdSignal_ev l (by omega)) ?_)
    obtain ⟨k0, k1, k2⟩ := sdAsk_iff.1 c
    by_cases d : sig l = true
    · obtain ⟨q1, q2, q3, g⟩ := sdOk_iff.1 k0
      have hs := sig_len d
      obtain ⟨n, rfl⟩ : ∃ n : Nat, sh = (n : Int) := ⟨sh.toNat, by omega⟩
      rw [if_pos ⟨c, d⟩, d, Int.toNat_natCast]
      refine Ev.step (fun k => by simp only [spec_ExactSecond.j0]; rfl) (Ev.ff (by decide) ?_)
      have h := spec_ExactSecond_l0 a b n m bi w q1 (by omega) l (by omega) (sig_mem d) l [] [] y z 1 rfl rfl (sd_num g k1) (sd_num g k2) (by omega)
      simpa using h
    · rw [if_neg (fun h => d h.2), Bool.eq_false_iff.mpr d]
      exact fail
  · rw [if_neg (fun h => c h.1)]
    exact Ev.ff c fail
theorem impl_ExactSecond_ev (a b sh m bi : Int) (w : Bool) (y z : Int) (l : List Int) (hl : l.length ≤ 10000000) : Ev (fun k => impl_ExactSecond.f k a b sh m bi w y z l) (exact2M a b sh m bi y z l) := by
  simp only [impl_ExactSecond.f, impl_Second_isAt_eq, Option.bind_some, exact2M]
  by_cases c : sdAsk a b sh m bi y z = true
  · refine Ev.tt c (Ev.bind (impl_isSignal_ev l (by omega)) ?_)
    obtain ⟨k0, k1, k2⟩ := sdAsk_iff.1 c
    by_cases d : sig l = true
    · obtain ⟨q1, q2, q3, g⟩ := sdOk_iff.1 k0
      have hs := sig_len d
      obtain ⟨n, rfl⟩ : ∃ n : Nat, sh = (n : Int) := ⟨sh.toNat, by omega⟩
      rw [if_pos ⟨c, d⟩, Int.toNat_natCast]
      have h := impl_ExactSecond_ex_l0 a b n q1 (by omega) l (by omega) (sig_mem d) l [] [] y z 1 rfl rfl (sd_num g k1) (sd_num g k2) (by omega)
      exact Ev.tt d (by simpa using h)
    · rw [if_neg (fun h => d h.2)]
      exact Ev.ff d (Ev.now _)
  · rw [if_neg (fun h => c h.1)]
    exact Ev.ff c (Ev.now _)

def triM (a b sh m bi : Int) : Bool × Bool := if sdOk a b sh m bi = true then (decide ((b.natAbs : Int) < 2 ^ sh.toNat ∧ (a.natAbs : Int) < 2 ^ sh.toNat - b), true) else (false, false)
theorem tri_sides {a b : Int} {n : Nat} (hb : -1024 ≤ b ∧ b ≤ 1024) (hn : n ≤ 10) : shl .i64 1 (n : Int) = 2 ^ n ∧ wrap64 ((2 : Int) ^ n - b) = 2 ^ n - b := by
  have := pr_pow hn
  exact ⟨shl_one (s := n) (by omega), w64 (by omega) (by omega)⟩
theorem impl_IsInTriangle_eq (a b sh m bi : Int) (w : Bool) : impl_IsInTriangle.f a b sh m bi w = some (triM a b sh m bi) := by
  simp only [impl_IsInTriangle.f, impl_isSecond_eq, Option.bind_some, triM]
  by_cases c : sdOk a b sh m bi = true
  · obtain ⟨k1, k2, k3, g⟩ := sdOk_iff.1 c
    obtain ⟨n, rfl⟩ : ∃ n : Nat, sh = (n : Int) := ⟨sh.toNat, by omega⟩
    obtain ⟨e1, e2⟩ := tri_sides (a := a) k1.2 (show n ≤ 10 by omega)
    rw [if_pos c, if_pos c, if_pos (Int.natCast_nonneg n), impl_size_eq b (by omega), impl_size_eq a (by omega), Int.toNat_natCast]
    simp only [Option.bind_some]
    rw [e1, e2]
    by_cases d : (b.natAbs : Int) < 2 ^ n
    · rw [if_pos d]
      simp [d]
    · rw [if_neg d]
      simp [d]
  · rw [if_neg c, if_neg c]
theorem spec_IsInTriangle_eq (a b sh m bi : Int) (w : Bool) : spec_IsInTriangle.f a b sh m bi w = some (triM a b sh m bi) := by
  simp only [spec_IsInTriangle.f, spec_sdGood_eq, Option.bind_some, triM]
  by_cases c : sdOk a b sh m bi = true
  · obtain ⟨k1, k2, k3, g⟩ := sdOk_iff.1 c
    obtain ⟨n, rfl⟩ : ∃ n : Nat, sh = (n : Int) := ⟨sh.toNat, by omega⟩
    obtain ⟨e1, e2⟩ := tri_sides (a := a) k1.2 (show n ≤ 10 by omega)
    rw [if_pos c, if_pos c, if_pos (Int.natCast_nonneg n), spec_l1Abs_eq b (by omega), spec_l1Abs_eq a (by omega), Int.toNat_natCast]
    simp only [Option.bind_some]
    rw [e1, e2]
    by_cases d : (b.natAbs : Int) < 2 ^ n
    · rw [if_pos d]
      simp [d]
    · rw [if_neg d]
      simp [d]
  · rw [if_neg c, if_neg c]

def discM (a b sh : Int) : Int := a * a + 4 * b * 2 ^ sh.toNat
def rootsM (a b sh m bi : Int) : ByteArray × Bool := if sdOk a b sh m bi = true then (if discM a b sh > 0 then (⟨#[116, 119, 111]⟩, true) else if discM a b sh < 0 then (⟨#[116, 117, 114, 110]⟩, true) else (⟨#[111, 110, 101]⟩, true)) else (⟨#[]⟩, false)
theorem disc_num {a b : Int} {n : Nat} (ha : (-1024 ≤ a ∧ a ≤ 1024) ∧ (-1024 ≤ b ∧ b ≤ 1024)) (hn : n ≤ 10) : wrap64 (wrap64 (a * a) + shl .i64 (wrap64 (4 * b)) (n : Int)) = discM a b (n : Int) := by
  have hp := pr_pow hn
  have h1 := pr_mul (A := 1024) (Y := 1024) (a := a) (y := a) (by omega) (by omega)
  have h2 := pr_mul (A := 4096) (Y := 1024) (a := 4 * b) (y := 2 ^ n) (by omega) (by omega)
  have e1 : shl .i64 (4 * b) (n : Int) = 4 * b * 2 ^ n := shl_mul (by omega) (4 * b) (by omega) (by omega)
  rw [w64 (n := 4 * b) (by omega) (by omega), e1, w64 (n := a * a) (by omega) (by omega), w64 (n := a * a + 4 * b * 2 ^ n) (by omega) (by omega), discM, Int.toNat_natCast]
theorem impl_RootsOf_eq (a b sh m bi : Int) (w : Bool) : impl_RootsOf.f a b sh m bi w = some (rootsM a b sh m bi) := by
  simp only [impl_RootsOf.f, impl_isSecond_eq, Option.bind_some, rootsM]
  by_cases c : sdOk a b sh m bi = true
  · obtain ⟨k1, k2, k3, g⟩ := sdOk_iff.1 c
    obtain ⟨n, rfl⟩ : ∃ n : Nat, sh = (n : Int) := ⟨sh.toNat, by omega⟩
    rw [if_pos c, if_pos c, if_pos (Int.natCast_nonneg n), disc_num k1 (by omega)]
    by_cases d : discM a b (n : Int) > 0
    · rw [if_pos d, if_pos d]
    · rw [if_neg d, if_neg d]
      by_cases e : discM a b (n : Int) < 0
      · rw [if_pos e, if_pos e]
      · rw [if_neg e, if_neg e]
  · rw [if_neg c, if_neg c]
theorem spec_RootsOf_eq (a b sh m bi : Int) (w : Bool) : spec_RootsOf.f a b sh m bi w = some (rootsM a b sh m bi) := by
  simp only [spec_RootsOf.f, spec_sdGood_eq, Option.bind_some, rootsM]
  by_cases c : sdOk a b sh m bi = true
  · obtain ⟨k1, k2, k3, g⟩ := sdOk_iff.1 c
    obtain ⟨n, rfl⟩ : ∃ n : Nat, sh = (n : Int) := ⟨sh.toNat, by omega⟩
    rw [if_pos c, if_pos c, if_pos (Int.natCast_nonneg n), disc_num k1 (by omega), spec_l1Sign.f]
    by_cases d : discM a b (n : Int) > 0
    · rw [if_pos d, if_pos d]
      rfl
    · rw [if_neg d, if_neg d]
      by_cases e : discM a b (n : Int) < 0
      · rw [if_pos e, if_pos e]
        rfl
      · rw [if_neg e, if_neg e]
        rfl
  · rw [if_neg c, if_neg c]

def soA (a sh a2 sh2 : Int) : Int := a * 2 ^ sh2.toNat + a2 * 2 ^ sh.toNat
def soM (a sh m b : Int) (w : Bool) (a2 sh2 m2 b2 : Int) : Int × Int × Int × Int × Int × Bool × Bool := if foOk a sh m b = true ∧ foOk a2 sh2 m2 b2 = true ∧ sdOk (soA a sh a2 sh2) (-a * a2) (sh + sh2) m b = true then (soA a sh a2 sh2, -a * a2, sh + sh2, m, b, w, true) else (0, 0, 0, 0, 0, false, false)
theorem so_num {a a2 : Int} {n n2 : Nat} (ha : -1024 ≤ a ∧ a ≤ 1024) (ha2 : -1024 ≤ a2 ∧ a2 ≤ 1024) (hn : n ≤ 10) (hn2 : n2 ≤ 10) : shl .i64 a (n2 : Int) = a * 2 ^ n2 ∧ shl .i64 a2 (n : Int) = a2 * 2 ^ n ∧ wrap64 (a * 2 ^ n2 + a2 * 2 ^ n) = soA a (n : Int) a2 (n2 : Int) ∧ wrap64 (wrap64 (-a) * a2) = -a * a2 ∧ wrap64 ((n : Int) + (n2 : Int)) = (n : Int) + (n2 : Int) := by
  have hp := pr_pow hn
  have hp2 := pr_pow hn2
  have h1 := pr_mul (A := 1024) (Y := 1024) (a := a) (y := 2 ^ n2) (by omega) (by omega)
  have h2 := pr_mul (A := 1024) (Y := 1024) (a := a2) (y := 2 ^ n) (by omega) (by omega)
  have h3 := pr_mul (A := 1024) (Y := 1024) (a := -a) (y := a2) (by omega) (by omega)
  refine ⟨shl_mul (by omega) a (by omega) (by omega), shl_mul (by omega) a2 (by omega) (by omega), ?_, ?_, w64 (by omega) (by omega)⟩
  · rw [soA, Int.toNat_natCast, Int.toNat_natCast]
    exact w64 (by omega) (by omega)
  · rw [w64 (n := -a) (by omega) (by omega)]
    exact w64 (by omega) (by omega)
theorem impl_SecondOfFirsts_ev (a sh m b : Int) (w : Bool) (a2 sh2 m2 b2 : Int) (w2 : Bool) : Ev (fun k => impl_SecondOfFirsts.f k a sh m b w a2 sh2 m2 b2 w2) (soM a sh m b w a2 sh2 m2 b2) := by
  have fail : Ev (fun k => impl_SecondOfFirsts.j0 k true a sh m b w a2 sh2 m2 b2 w2) (0, 0, 0, 0, 0, false, false) := by
    refine Ev.step (f := fun _ => some (0, 0, 0, 0, 0, false, false)) (fun k => ?_) (Ev.now _)
    simp [impl_SecondOfFirsts.j0]
  simp only [impl_SecondOfFirsts.f, impl_isFirst_eq, Option.bind_some, soM]
  by_cases c : foOk a sh m b = true
  · refine Ev.tt c ?_
    by_cases d : foOk a2 sh2 m2 b2 = true
    · obtain ⟨k1, k2, k3, g⟩ := foOk_iff.1 c
      obtain ⟨q1, q2, q3, g2⟩ := foOk_iff.1 d
      obtain ⟨n, rfl⟩ : ∃ n : Nat, sh = (n : Int) := ⟨sh.toNat, by omega⟩
      obtain ⟨n2, rfl⟩ : ∃ n : Nat, sh2 = (n : Int) := ⟨sh2.toNat, by omega⟩
      obtain ⟨e1, e2, e3, e4, e5⟩ := so_num k1 q1 (show n ≤ 10 by omega) (show n2 ≤ 10 by omega)
      have st : Ev (fun k => impl_SecondOfFirsts.j0 k false a (n : Int) m b w a2 (n2 : Int) m2 b2 w2) (if sdOk (soA a n a2 n2) (-a * a2) ((n : Int) + n2) m b = true then (soA a n a2 n2, -a * a2, (n : Int) + n2, m, b, w, true) else (0, 0, 0, 0, 0, false, false)) := by
        refine Ev.step (fun k => by simp only [impl_SecondOfFirsts.j0]; rfl) (Ev.ff (by decide) (Ev.tt (Int.natCast_nonneg _) (Ev.tt (Int.natCast_nonneg _) ?_)))
        rw [e1, e2, e3, e4, e5, impl_isSecond_eq]
        simp only [Option.bind_some]
        by_cases e : sdOk (soA a n a2 n2) (-a * a2) ((n : Int) + n2) m b = true
        · rw [if_pos e, if_pos e]
          exact Ev.now _
        · rw [if_neg e, if_neg e]
          exact Ev.now _
      by_cases e : sdOk (soA a n a2 n2) (-a * a2) ((n : Int) + n2) m b = true
      · rw [if_pos ⟨c, d, e⟩, d]
        rw [if_pos e] at st
        exact st
      · rw [if_neg (fun h => e h.2.2), d]
        rw [if_neg e] at st
        exact st
    · rw [if_neg (fun h => d h.2.1), Bool.eq_false_iff.mpr d]
      exact fail
  · rw [if_neg (fun h => c h.1)]
    exact Ev.ff c fail
theorem spec_SecondOfFirsts_ev (a sh m b : Int) (w : Bool) (a2 sh2 m2 b2 : Int) (w2 : Bool) : Ev (fun k => spec_SecondOfFirsts.f k a sh m b w a2 sh2 m2 b2 w2) (soM a sh m b w a2 sh2 m2 b2) := by
  have fail : Ev (fun k => spec_SecondOfFirsts.j0 k true a sh m b w a2 sh2 m2 b2 w2) (0, 0, 0, 0, 0, false, false) := by
    refine Ev.step (f := fun _ => some (0, 0, 0, 0, 0, false, false)) (fun k => ?_) (Ev.now _)
    simp [spec_SecondOfFirsts.j0]
  simp only [spec_SecondOfFirsts.f, spec_foGood_eq, Option.bind_some, soM]
  by_cases c : foOk a sh m b = true
  · refine Ev.tt c ?_
    by_cases d : foOk a2 sh2 m2 b2 = true
    · obtain ⟨k1, k2, k3, g⟩ := foOk_iff.1 c
      obtain ⟨q1, q2, q3, g2⟩ := foOk_iff.1 d
      obtain ⟨n, rfl⟩ : ∃ n : Nat, sh = (n : Int) := ⟨sh.toNat, by omega⟩
      obtain ⟨n2, rfl⟩ : ∃ n : Nat, sh2 = (n : Int) := ⟨sh2.toNat, by omega⟩
      obtain ⟨e1, e2, e3, e4, e5⟩ := so_num k1 q1 (show n ≤ 10 by omega) (show n2 ≤ 10 by omega)
      have st : Ev (fun k => spec_SecondOfFirsts.j0 k false a (n : Int) m b w a2 (n2 : Int) m2 b2 w2) (if sdOk (soA a n a2 n2) (-a * a2) ((n : Int) + n2) m b = true then (soA a n a2 n2, -a * a2, (n : Int) + n2, m, b, w, true) else (0, 0, 0, 0, 0, false, false)) := by
        refine Ev.step (fun k => by simp only [spec_SecondOfFirsts.j0]; rfl) (Ev.ff (by decide) (Ev.tt (Int.natCast_nonneg _) (Ev.tt (Int.natCast_nonneg _) ?_)))
        rw [e1, e2, e3, e4, e5, spec_sdGood_eq]
        simp only [Option.bind_some]
        by_cases e : sdOk (soA a n a2 n2) (-a * a2) ((n : Int) + n2) m b = true
        · rw [if_pos e, if_pos e]
          exact Ev.now _
        · rw [if_neg e, if_neg e]
          exact Ev.now _
      by_cases e : sdOk (soA a n a2 n2) (-a * a2) ((n : Int) + n2) m b = true
      · rw [if_pos ⟨c, d, e⟩, d]
        rw [if_pos e] at st
        exact st
      · rw [if_neg (fun h => e h.2.2), d]
        rw [if_neg e] at st
        exact st
    · rw [if_neg (fun h => d h.2.1), Bool.eq_false_iff.mpr d]
      exact fail
  · rw [if_neg (fun h => c h.1)]
    exact Ev.ff c fail

def shF : List S62 → Int
  | [] => 0
  | p :: t => p.f1 + shF t
theorem shF_in : ∀ (l : List S62), (∀ p ∈ l, 0 ≤ p.f1 ∧ p.f1 ≤ 10) → 0 ≤ shF l ∧ shF l ≤ 10 * (l.length : Int)
  | [], _ => by simp [shF]
  | p :: t, h => by
    have h1 := h p (by simp)
    have h2 := shF_in t (fun q hq => h q (by simp [hq]))
    simp only [shF, List.length_cons]
    omega
theorem impl_shiftOf_l0 (l : List S62) (hl : l.length ≤ 1000000) : ∀ (t p : List S62) (c : Int), l = p ++ t → (∀ q ∈ t, 0 ≤ q.f1 ∧ q.f1 ≤ 10) → 0 ≤ c → c ≤ 10 * (p.length : Int) → Ev (fun k => impl_shiftOf.l0 k c l (l.length : Int) (p.length : Int)) (c + shF t)
  | [], p, c, h, hq, h0, h1 => by
    refine Ev.to (Ev.step (f := fun _ => some c) (fun k => ?_) (Ev.now _)) (by simp [shF])
    subst h
    simp [impl_shiftOf.l0]
  | x :: t, p, c, h, hq, h0, h1 => by
    have hp : p.length ≤ 1000000 := by rw [h] at hl; simp at hl; omega
    have hx := hq x (by simp)
    have h2 : c + x.f1 ≤ 10 * ((p ++ [x]).length : Int) := by simp; omega
    have e1 : (p.length : Int) < (l.length : Int) := by rw [h]; exact lt_mid p t x
    have e2 : rd_T62 l (p.length : Int) = x := by rw [h]; exact rdF_mid p t x
    have e4 : wrap64 (c + x.f1) = c + x.f1 := w64 (by omega) (by omega)
    have e3 : wrap64 ((p.length : Int) + 1) = ((p ++ [x]).length : Int) := nx_mid p t x (by rw [← h]; omega)
    have ih := impl_shiftOf_l0 l hl t (p ++ [x]) (c + x.f1) (by simp [h]) (fun q h => hq q (by simp [h])) (by omega) h2
    refine Ev.to (Ev.step (fun k => by simp only [impl_shiftOf.l0]; rfl) ?_) (show c + x.f1 + shF t = _ by simp only [shF, Int.add_assoc])
    rw [e2, e3, e4]
    exact Ev.tt e1 (Ev.tt (Int.natCast_nonneg _) (Ev.tt e1 ih))
def scM (S : Int) : List Int → Int → Option (List Int)
  | [], _ => some []
  | x :: t, c => if numOk (c * S) = true then (scM S t (c * S)).map (fun r => x * (c * S) :: r) else none
def psM (F : Int) : List Int → Int → Option (List Int)
  | [], _ => some []
  | x :: t, last => if last ≠ 0 ∧ 400000000000000000 / last.natAbs < F.natAbs then none else if numOk (x + F * last) = true then (psM F t (x + F * last)).map (fun r => (x + F * last) :: r) else none
def chX (sh : Int) : List S62 → List Int → Option (List Int)
  | [], now => some now
  | p :: t, now => (psM (p.f0 * 2 ^ (sh - p.f1).toNat) now 0).bind (chX sh t)
def oX : Option (List Int) → List Int × Bool
  | some r => (r, true)
  | none => ([], false)
theorem psM_ok (F : Int) : ∀ (t : List Int) (last : Int) (r : List Int), psM F t last = some r → r.length = t.length ∧ ∀ x ∈ r, -1000000000000 ≤ x ∧ x ≤ 1000000000000
  | [], last, r, h => by
    have e : r = [] := by simpa [psM] using h.symm
    subst e
    simp
  | x :: t, last, r, h => by
    rw [psM] at h
    split at h
    · exact absurd h (by simp)
    · split at h
      · rename_i c
        obtain ⟨r', h1, h2⟩ := Option.map_eq_some_iff.1 h
        obtain ⟨i1, i2⟩ := psM_ok F t _ r' h1
        have c' := numOk_iff.1 c
        subst h2
        refine ⟨by simp [i1], fun z hz => ?_⟩
        rcases List.mem_cons.1 hz with rfl | hz
        · exact c'
        · exact i2 z hz
      · exact absurd h (by simp)
theorem ps_pow {n : Nat} (h : n ≤ 20) : 1 ≤ (2 : Int) ^ n ∧ (2 : Int) ^ n ≤ 1048576 := by
  have h1 : (2 : Nat) ^ n ≤ 2 ^ 20 := Nat.pow_le_pow_right (by decide) h
  have h3 : (2 : Int) ^ n = (((2 : Nat) ^ n : Nat) : Int) := by simp
  have h4 : (2 : Nat) ^ 20 = 1048576 := by decide
  have h5 : (0 : Int) < 2 ^ n := Int.pow_pos (by decide)
  omega
/-- what of a part's step is no wrap -/
theorem ps_num {F x last : Int} (hF : F.natAbs ≤ 1073741824) (hx : -100000000000000000 ≤ x ∧ x ≤ 100000000000000000) (hl : -1000000000000 ≤ last ∧ last ≤ 1000000000000) (h0 : last ≠ 0) :
    (¬ ((last.natAbs : Int) = 0)) ∧ wrap64 (Int.tdiv 400000000000000000 (last.natAbs : Int)) = ((400000000000000000 / last.natAbs : Nat) : Int) ∧ (¬ 400000000000000000 / last.natAbs < F.natAbs → wrap64 (x + wrap64 (F * last)) = x + F * last) := by
  refine ⟨by omega, ?_, fun h => ?_⟩
  · have e : Int.tdiv 400000000000000000 (last.natAbs : Int) = ((400000000000000000 / last.natAbs : Nat) : Int) := (td 400000000000000000 last.natAbs)
    have hd : 400000000000000000 / last.natAbs ≤ 400000000000000000 := Nat.div_le_self _ _
    rw [e]
    generalize 400000000000000000 / last.natAbs = q at hd ⊢
    exact w64 (by omega) (by omega)
  · have h1 : F.natAbs * last.natAbs ≤ 400000000000000000 := by
      have h2 : F.natAbs ≤ 400000000000000000 / last.natAbs := by omega
      exact Nat.le_trans (Nat.mul_le_mul_right _ h2) (Nat.div_mul_le_self _ _)
    have h3 : (F * last).natAbs ≤ 400000000000000000 := by rw [Int.natAbs_mul]; exact h1
    rw [w64 (n := F * last) (by omega) (by omega)]
    exact w64 (by omega) (by omega)
theorem exC_l2 (sh s : Nat) (hs : s ≤ sh) (hsh : sh ≤ 20) {a m b : Int} {w : Bool} (ha : -1024 ≤ a ∧ a ≤ 1024) (L : List S62) (i : Int) (n : Nat) (hn : n ≤ 1000) (R : List Int → List Int × Bool)
    (hc : ∀ N : List Int, N.length = n → (∀ x ∈ N, -1000000000000 ≤ x ∧ x ≤ 1000000000000) → Ev (fun k => impl_exactChain.l1 k (sh : Int) N L (L.length : Int) (wrap64 (i + 1))) (R N)) :
    ∀ (t d : List Int) (last : Int), d.length + t.length = n → (∀ x ∈ t, -100000000000000000 ≤ x ∧ x ≤ 100000000000000000) → (∀ x ∈ d, -1000000000000 ≤ x ∧ x ≤ 1000000000000) → (d = [] → last = 0) → (-1000000000000 ≤ last ∧ last ≤ 1000000000000) →
    Ev (fun k => impl_exactChain.l2 k (sh : Int) (d ++ t) last L (L.length : Int) i (n : Int) (d.length : Int) a (s : Int) m b w) (match psM (a * 2 ^ ((sh : Int) - (s : Int)).toNat) t last with | some r => R (d ++ r) | none => ([], false))
  | [], d, last, h, ht, hd, h0, hl => by
    rw [psM]
    have e : d.length = n := by simpa using h
    refine Ev.step (fun k => by simp only [impl_exactChain.l2]; rfl) (Ev.ff (by omega) ?_)
    have := hc (d ++ []) (by simpa using e) (by simpa using hd)
    exact this
  | x :: t, d, last, h, ht, hd, h0, hl => by
    rw [List.length_cons] at h
    have hlen : (d ++ x :: t).length = n := by simp; omega
    have hx := ht x (by simp)
    have e1 : (d.length : Int) < (n : Int) := by omega
    have e2 : rd (d ++ x :: t) (d.length : Int) = x := rd_mid d t x
    have e3 : wrap64 ((d.length : Int) + 1) = ((d ++ [x]).length : Int) := nx_mid d t x (by omega)
    have e4 : ((sh : Int) - (s : Int)).toNat = sh - s := by omega
    have e5 : wrap64 ((sh : Int) - (s : Int)) = ((sh - s : Nat) : Int) := by rw [w64 (n := (sh : Int) - (s : Int)) (by omega) (by omega)]; omega
    have hp := ps_pow (show sh - s ≤ 20 by omega)
    have hF := pr_mul (A := 1024) (Y := 1048576) (a := a) (y := 2 ^ (sh - s)) (by omega) (by omega)
    have e6 : shl .i64 a ((sh - s : Nat) : Int) = a * 2 ^ (sh - s) := shl_mul (by omega) a (by omega) (by omega)
    have e7 : ((d.length : Int) < ((d ++ x :: t).length : Int)) := by omega
    have put : ∀ v : Int, (d ++ x :: t).set (d.length : Int).toNat v = (d ++ [v]) ++ t := by intro v; simp
    have hlen2 : ∀ v : Int, ((d ++ [x]).length : Int) = ((d ++ [v]).length : Int) := by intro v; simp
    rw [e4]
    have ih : ∀ v : Int, (-1000000000000 ≤ v ∧ v ≤ 1000000000000) → Ev (fun k => impl_exactChain.l2 k (sh : Int) ((d ++ x :: t).set (d.length : Int).toNat v) v L (L.length : Int) i (n : Int) (wrap64 ((d.length : Int) + 1)) a (s : Int) m b w) (match psM (a * 2 ^ (sh - s)) t v with | some r => R ((d ++ [v]) ++ r) | none => ([], false)) := by
      intro v hv
      have := exC_l2 sh s hs hsh (m := m) (b := b) (w := w) ha L i n hn R hc t (d ++ [v]) v (by simp; omega) (fun z hz => ht z (by simp [hz])) (fun z hz => by
        rcases List.mem_append.1 hz with hz | hz
        · exact hd z hz
        · rw [List.mem_singleton.1 hz]; exact hv) (by simp) hv
      rw [e4] at this
      rw [put, e3, hlen2 v]
      exact this
    have fin : ∀ v : Int, (match (psM (a * 2 ^ (sh - s)) t v).map (fun r => v :: r) with | some r => R (d ++ r) | none => ([], false)) = (match psM (a * 2 ^ (sh - s)) t v with | some r => R ((d ++ [v]) ++ r) | none => ([], false)) := by
      intro v
      cases psM (a * 2 ^ (sh - s)) t v with
      | none => rfl
      | some r => simp
    have j3t : last ≠ 0 → Ev (fun k => impl_exactChain.j3 k (sh : Int) (d ++ x :: t) last (d.length : Int) x L (L.length : Int) i (n : Int) (d.length : Int) true a (s : Int) m b w) (match psM (a * 2 ^ (sh - s)) (x :: t) last with | some r => R (d ++ r) | none => ([], false)) := by
      intro hz
      obtain ⟨q1, q2, q3⟩ := ps_num (F := a * 2 ^ (sh - s)) hF hx hl hz
      refine Ev.step (fun k => by simp only [impl_exactChain.j3]; rfl) ?_
      refine Ev.tt (by decide) ?_
      rw [e5, e6]
      refine Ev.tt (Int.natCast_nonneg _) (Ev.dbind (impl_size_eq _ (by omega)) (Ev.dbind (impl_size_eq last (by omega)) (Ev.ff q1 ?_)))
      rw [q2]
      by_cases g : 400000000000000000 / last.natAbs < (a * 2 ^ (sh - s)).natAbs
      · rw [psM, if_pos ⟨hz, g⟩]
        exact Ev.tt (by omega) (Ev.now _)
      · rw [psM, if_neg (fun h => g h.2), q3 g]
        refine Ev.ff (by omega) (Ev.dbind (impl_isNumber_eq _) ?_)
        by_cases e : numOk (x + a * 2 ^ (sh - s) * last) = true
        · rw [if_pos e, fin]
          exact Ev.tt e (Ev.tt (Int.natCast_nonneg _) (Ev.tt e7 (ih _ (numOk_iff.1 e))))
        · rw [if_neg e]
          exact Ev.ff e (Ev.now _)
    have j3f : last = 0 → Ev (fun k => impl_exactChain.j3 k (sh : Int) (d ++ x :: t) last (d.length : Int) x L (L.length : Int) i (n : Int) (d.length : Int) false a (s : Int) m b w) (match psM (a * 2 ^ (sh - s)) (x :: t) last with | some r => R (d ++ r) | none => ([], false)) := by
      intro hz
      have e0 : x + a * 2 ^ (sh - s) * last = x := by rw [hz, Int.mul_zero, Int.add_zero]
      refine Ev.step (fun k => by simp only [impl_exactChain.j3]; rfl) (Ev.ff (by decide) (Ev.dbind (impl_isNumber_eq _) ?_))
      rw [psM, if_neg (fun h => h.1 hz), e0]
      by_cases e : numOk x = true
      · rw [if_pos e, fin]
        exact Ev.tt e (Ev.tt (Int.natCast_nonneg _) (Ev.tt e7 (ih _ (numOk_iff.1 e))))
      · rw [if_neg e]
        exact Ev.ff e (Ev.now _)
    refine Ev.step (fun k => by simp only [impl_exactChain.l2]; rfl) ?_
    rw [e2]
    refine Ev.tt e1 (Ev.tt (Int.natCast_nonneg _) (Ev.tt e7 ?_))
    by_cases hd0 : (d.length : Int) > 0
    · refine Ev.tt hd0 ?_
      by_cases hz : last = 0
      · have : (last != 0) = false := by simp [hz]
        rw [this]
        exact j3f hz
      · have : (last != 0) = true := by simp [hz]
        rw [this]
        exact j3t hz
    · have hdn : d = [] := List.length_eq_zero_iff.1 (by omega)
      exact Ev.ff hd0 (j3f (h0 hdn))
theorem exC_l1 (sh : Nat) (hsh : sh ≤ 20) (L : List S62) (hL : L.length ≤ 1000) (n : Nat) (hn : n ≤ 1000) : ∀ (t p : List S62) (now : List Int), L = p ++ t → now.length = n → (∀ q ∈ t, (-1024 ≤ q.f0 ∧ q.f0 ≤ 1024) ∧ 0 ≤ q.f1 ∧ q.f1 ≤ (sh : Int)) → (∀ x ∈ now, -100000000000000000 ≤ x ∧ x ≤ 100000000000000000) →
    Ev (fun k => impl_exactChain.l1 k (sh : Int) now L (L.length : Int) (p.length : Int)) (oX (chX (sh : Int) t now))
  | [], p, now, h, hnow, ht, hx => by
    refine Ev.to (Ev.step (f := fun _ => some (now, true)) (fun k => ?_) (Ev.now _)) (by simp [chX, oX])
    subst h
    simp [impl_exactChain.l1]
  | q :: t, p, now, h, hnow, ht, hx => by
    have e1 : (p.length : Int) < (L.length : Int) := by rw [h]; exact lt_mid p t q
    have e2 : rd_T62 L (p.length : Int) = q := by rw [h]; exact rdF_mid p t q
    have e3 : wrap64 ((p.length : Int) + 1) = ((p ++ [q]).length : Int) := nx_mid p t q (by rw [← h]; omega)
    obtain ⟨q1, q2, q3⟩ := ht q (by simp)
    obtain ⟨s, hs⟩ : ∃ s : Nat, q.f1 = (s : Int) := ⟨q.f1.toNat, by omega⟩
    have ih := fun (N : List Int) (hN : N.length = n) (hv : ∀ x ∈ N, -1000000000000 ≤ x ∧ x ≤ 1000000000000) => exC_l1 sh hsh L hL n hn t (p ++ [q]) N (by simp [h]) hN (fun z hz => ht z (by simp [hz])) (fun z hz => by have := hv z hz; omega)
    have h2 := exC_l2 sh s (by omega) hsh (a := q.f0) (m := q.f2) (b := q.f3.f0) (w := q.f3.f1) q1 L (p.length : Int) n hn (fun N => oX (chX (sh : Int) t N)) (fun N hN hv => by rw [e3]; exact ih N hN hv) now [] 0 (by simpa using hnow) hx (by simp) (by simp) (by omega)
    refine Ev.to (Ev.step (fun k => by simp only [impl_exactChain.l1]; rfl) (Ev.tt e1 (Ev.tt (Int.natCast_nonneg _) (Ev.tt e1 ?_)))) (show (match psM (q.f0 * 2 ^ ((sh : Int) - (s : Int)).toNat) now 0 with | some r => oX (chX (sh : Int) t ([] ++ r)) | none => ([], false)) = _ by
      rw [chX, hs]
      cases psM (q.f0 * 2 ^ ((sh : Int) - (s : Int)).toNat) now 0 with
      | none => rfl
      | some r => simp)
    rw [e2, hs, hnow]
    simpa using h2
theorem exC_l0 (sh : Nat) (hsh : sh ≤ 20) (L : List S62) (hL : L.length ≤ 1000) (hq : ∀ q ∈ L, (-1024 ≤ q.f0 ∧ q.f0 ≤ 1024) ∧ 0 ≤ q.f1 ∧ q.f1 ≤ (sh : Int)) (l : List Int) (hl : l.length ≤ 1000) (hb : ∀ x ∈ l, -100000 ≤ x ∧ x ≤ 100000) : ∀ (t p now : List Int) (c : Int), l = p ++ t → now.length = p.length → (1 ≤ c ∧ c ≤ 1000000000000) → (∀ x ∈ now, -100000000000000000 ≤ x ∧ x ≤ 100000000000000000) →
    Ev (fun k => impl_exactChain.l0 k L (sh : Int) now c l (l.length : Int) (p.length : Int)) (oX ((scM (2 ^ sh) t c).bind fun r => chX (sh : Int) L (now ++ r)))
  | [], p, now, c, h, hnow, hc, hx => by
    have e : p.length = l.length := by rw [h]; simp
    have := exC_l1 sh hsh L hL l.length hl L [] now rfl (by omega) hq hx
    refine Ev.step (fun k => by simp only [impl_exactChain.l0]; rfl) (Ev.ff (by omega) ?_)
    rw [scM]
    simpa using this
  | x :: t, p, now, c, h, hnow, hc, hx => by
    have hpl : p.length ≤ 1000 := by rw [h] at hl; simp at hl; omega
    have hnl : now.length < 17592186044416 := by omega
    have e1 : (p.length : Int) < (l.length : Int) := by rw [h]; exact lt_mid p t x
    have e2 : rd l (p.length : Int) = x := by rw [h]; exact rd_mid p t x
    have e3 : wrap64 ((p.length : Int) + 1) = ((p ++ [x]).length : Int) := nx_mid p t x (by rw [← h]; omega)
    have hx0 := hb x (by rw [h]; simp)
    have hp := ps_pow hsh
    have h1 := pr_mul (A := 1000000000000) (Y := 1048576) (a := c) (y := 2 ^ sh) (by omega) (by omega)
    have h2 : 1 * 1 ≤ c * 2 ^ sh := Int.mul_le_mul hc.1 hp.1 (by omega) (by omega)
    have e5 : shl .i64 c (sh : Int) = c * 2 ^ sh := shl_mul (by omega) c (by omega) (by omega)
    refine Ev.step (fun k => by simp only [impl_exactChain.l0]; rfl) ?_
    rw [e2, e3, e5]
    refine Ev.tt e1 (Ev.tt (Int.natCast_nonneg _) (Ev.tt e1 (Ev.tt (Int.natCast_nonneg _) (Ev.dbind (impl_isNumber_eq _) ?_))))
    by_cases d : numOk (c * 2 ^ sh) = true
    · have d' := numOk_iff.1 d
      have h3 := pr_mul (A := 100000) (Y := 1000000000000) (a := x) (y := c * 2 ^ sh) (by omega) (by omega)
      have e6 : wrap64 (x * (c * 2 ^ sh)) = x * (c * 2 ^ sh) := w64 (by omega) (by omega)
      have ih := exC_l0 sh hsh L hL hq l hl hb t (p ++ [x]) (now ++ [x * (c * 2 ^ sh)]) (c * 2 ^ sh) (by simp [h]) (by simp [hnow]) ⟨by omega, d'.2⟩ (fun z hz => by
        rcases List.mem_append.1 hz with hz | hz
        · exact hx z hz
        · rw [List.mem_singleton.1 hz]; omega)
      rw [e6, scM, if_pos d]
      refine Ev.tt d (Ev.tt hnl (Ev.to ih ?_))
      cases scM (2 ^ sh) t (c * 2 ^ sh) with
      | none => rfl
      | some r => simp
    · rw [scM, if_neg d]
      exact Ev.ff d (Ev.now _)

theorem impl_exactChain_ev (L : List S62) (hp : partsOk L = true) (hsh : shF L ≤ 20) (l : List Int) (hs : sig l = true) : Ev (fun k => impl_exactChain.f k L l) (oX ((scM (2 ^ (shF L).toNat) l 1).bind fun r => chX (shF L) L r)) := by
  obtain ⟨⟨h1, h2⟩, h3⟩ := partsOk_iff.1 hp
  have hq : ∀ q ∈ L, (-1024 ≤ q.f0 ∧ q.f0 ≤ 1024) ∧ 0 ≤ q.f1 ∧ q.f1 ≤ 10 := fun q hq => by
    obtain ⟨k1, k2, -, -⟩ := foOk_iff.1 (show foOk q.f0 q.f1 q.f2 q.f3.f0 = true from h3 q hq)
    exact ⟨k1, k2⟩
  have hin := shF_in L (fun q h => (hq q h).2)
  have le : ∀ (l : List S62), (∀ p ∈ l, 0 ≤ p.f1 ∧ p.f1 ≤ 10) → ∀ p ∈ l, p.f1 ≤ shF l := by
    intro l
    induction l with
    | nil => intro _ p hp; exact absurd hp (by simp)
    | cons x t ih =>
      intro h p hp
      have h4 := shF_in t (fun q hq => h q (by simp [hq]))
      have h5 := h x (by simp)
      simp only [shF]
      rcases List.mem_cons.1 hp with rfl | hp
      · omega
      · have := ih (fun q hq => h q (by simp [hq])) p hp
        omega
  have h6 := le L (fun q h => (hq q h).2)
  have h7 := impl_shiftOf_l0 L (by omega) L [] 0 rfl (fun q h => (hq q h).2) (by omega) (by simp)
  rw [Int.zero_add] at h7
  obtain ⟨n, hn⟩ : ∃ n : Nat, shF L = (n : Int) := ⟨(shF L).toNat, by omega⟩
  simp only [impl_exactChain.f]
  have h8 : Ev (fun k => impl_shiftOf.f k L) (shF L) := by simpa [impl_shiftOf.f] using h7
  refine Ev.bind h8 ?_
  have hl := sig_len hs
  have h9 := exC_l0 n (by omega) L (by omega) (fun q h => ⟨(hq q h).1, (hq q h).2.1, by have := h6 q h; omega⟩) l (by omega) (sig_mem hs) l [] [] 1 rfl rfl (by omega) (by simp)
  rw [hn, Int.toNat_natCast]
  simpa using h9

theorem sec_j0 {l : List Int} (hl : Bytes l) (a sd A B sh m b : Int) (w : Bool) (h0 : 0 ≤ a) (h1 : a ≤ 20000000000) : ∃ A' B' sh' m' b' w' a' sd', Ev (fun k => spec_l1Cur_second.j0 k l a sd A B sh m b w) (A', B', sh', m', b', w', a', sd') ∧ a ≤ a' ∧ a' ≤ a + 20 := by
  obtain ⟨v6, a6, sd6, e6, ha6, hb6, -⟩ := pick_ok hl a sd 18 (by omega) (by omega) (by omega)
  by_cases c0 : v6 = 0
  · obtain ⟨v7, a7, sd7, e7, ha7, hb7, -⟩ := among_ok hl a6 sd6 [1024, (-1025), 0, 4611686018427387904] (by omega) (by omega) (by simp) (by simp)
    exact ⟨_, _, _, _, _, _, _, _, Ev.step (fun k => by simp only [spec_l1Cur_second.j0, e6, Option.bind_some]; rfl) (Ev.tt c0 (Ev.dbind e7 (Ev.now _))), by show a ≤ a7; omega, by show a7 ≤ a + 20; omega⟩
  · by_cases c1 : v6 = 1
    · obtain ⟨v7, a7, sd7, e7, ha7, hb7, -⟩ := among_ok hl a6 sd6 [1024, (-1024), 1025, (-4611686018427387904)] (by omega) (by omega) (by simp) (by simp)
      exact ⟨_, _, _, _, _, _, _, _, Ev.step (fun k => by simp only [spec_l1Cur_second.j0, e6, Option.bind_some]; rfl) (Ev.ff c0 (Ev.tt c1 (Ev.dbind e7 (Ev.now _)))), by show a ≤ a7; omega, by show a7 ≤ a + 20; omega⟩
    · by_cases c2 : v6 = 2
      · obtain ⟨v7, a7, sd7, e7, ha7, hb7, -⟩ := among_ok hl a6 sd6 [10, 11, (-1)] (by omega) (by omega) (by simp) (by simp)
        exact ⟨_, _, _, _, _, _, _, _, Ev.step (fun k => by simp only [spec_l1Cur_second.j0, e6, Option.bind_some]; rfl) (Ev.ff c0 (Ev.ff c1 (Ev.tt c2 (Ev.dbind e7 (Ev.now _))))), by show a ≤ a7; omega, by show a7 ≤ a + 20; omega⟩
      · by_cases c3 : v6 = 3
        · obtain ⟨b7, w7, a7, sd7, e7, ha7, hb7⟩ := word_ok hl a6 sd6 (by omega) (by omega)
          exact ⟨_, _, _, _, _, _, _, _, Ev.step (fun k => by simp only [spec_l1Cur_second.j0, e6, Option.bind_some]; rfl) (Ev.ff c0 (Ev.ff c1 (Ev.ff c2 (Ev.tt c3 (Ev.dbind e7 (Ev.now _)))))), by show a ≤ a7; omega, by show a7 ≤ a + 20; omega⟩
        · exact ⟨_, _, _, _, _, _, _, _, Ev.step (fun k => by simp only [spec_l1Cur_second.j0, e6, Option.bind_some]; rfl) (Ev.ff c0 (Ev.ff c1 (Ev.ff c2 (Ev.ff c3 (Ev.now _))))), by show a ≤ a6; omega, by show a6 ≤ a + 20; omega⟩
theorem sec_shl {c v : Int} (hc : 0 ≤ c ∧ c ≤ 4) (h0 : 0 ≤ v) (h1 : v ≤ 4) : wrap64 (shl .i64 c v + 3) ≤ 1000000 := by
  obtain ⟨n, rfl⟩ : ∃ n : Nat, v = (n : Int) := ⟨v.toNat, by omega⟩
  have hp := pr_pow (show n ≤ 10 by omega)
  have h := pr_mul (A := 4) (Y := 1024) (a := c) (y := 2 ^ n) (by omega) (by omega)
  rw [shl_mul (s := n) (by omega) c (by omega) (by omega), w64 (n := c * 2 ^ n + 3) (by omega) (by omega)]
  omega
theorem second_ok {l : List Int} (hl : Bytes l) (a sd n : Int) (h0 : 0 ≤ a) (h1 : a ≤ 10000000000) (hn : 0 ≤ n ∧ n ≤ 1000) : ∃ A B sh m b w a' sd', Ev (fun k => spec_l1Cur_second.f k l a sd n) (A, B, sh, m, b, w, a', sd') ∧ a ≤ a' ∧ a' ≤ a + 60 := by
  obtain ⟨v, a1, sd1, e1, ha1, hb1, hv, hv2⟩ := pick_ok hl a sd 4 h0 (by omega) (by omega)
  have hw : wrap64 (n - 1) = n - 1 := w64 (by omega) (by omega)
  obtain ⟨v2, a2, sd2, e2, ha2, hb2, -⟩ := pick_ok hl a1 sd1 (wrap64 (shl .i64 4 v + 3)) (by omega) (by omega) (sec_shl (by omega) hv (by omega))
  obtain ⟨v3, a3, sd3, e3, ha3, hb3, -⟩ := pick_ok hl a2 sd2 (wrap64 (shl .i64 2 v + 3)) (by omega) (by omega) (sec_shl (by omega) hv (by omega))
  obtain ⟨v4, a4, sd4, e4, ha4, hb4, -⟩ := pick_ok hl a3 sd3 3 (by omega) (by omega) (by omega)
  obtain ⟨v5, a5, sd5, e5, ha5, hb5, -⟩ := pick_ok hl a4 sd4 (n - 1) (by omega) (by omega) (by omega)
  obtain ⟨v6, a6, sd6, e6, ha6, hb6, -⟩ := one_ok hl a5 sd5 2 (by omega) (by omega) (by omega)
  obtain ⟨v7, a7, sd7, e7, ha7, hb7, -⟩ := one_ok hl a6 sd6 4 (by omega) (by omega) (by omega)
  have st : ∀ g : Nat → Option (Int × Int × Int × Int × Int × Bool × Int × Int), (∀ k, spec_l1Cur_second.f k l a sd n = g k) → ∀ r, Ev g r → Ev (fun k => spec_l1Cur_second.f k l a sd n) r := fun g hg r h => by
    have : (fun k => spec_l1Cur_second.f k l a sd n) = g := funext hg
    rw [this]
    exact h
  by_cases c : v7 = true
  · obtain ⟨A, B, sh, m, b, w, a8, sd8, e8, ha8, hb8⟩ := sec_j0 hl a7 sd7 (wrap64 (wrap64 (v2 - shl .i64 2 v) - 1)) (wrap64 (-(shl .i64 1 v))) v v4 (wrap64 (2 + v5)) v6 (by omega) (by omega)
    refine ⟨A, B, sh, m, b, w, a8, sd8, st _ (fun k => ?_) _ e8, by omega, by omega⟩
    simp only [spec_l1Cur_second.f, e1, Option.bind_some, if_pos hv, e2, e3, e4, hw, e5, e6, e7, if_pos c]
  · obtain ⟨A, B, sh, m, b, w, a8, sd8, e8, ha8, hb8⟩ := sec_j0 hl a7 sd7 (wrap64 (wrap64 (v2 - shl .i64 2 v) - 1)) (wrap64 (wrap64 (v3 - shl .i64 1 v) - 1)) v v4 (wrap64 (2 + v5)) v6 (by omega) (by omega)
    refine ⟨A, B, sh, m, b, w, a8, sd8, st _ (fun k => ?_) _ e8, by omega, by omega⟩
    simp only [spec_l1Cur_second.f, e1, Option.bind_some, if_pos hv, e2, e3, e4, hw, e5, e6, e7, if_neg c]

theorem drawExactSecond_ok {l : List Int} (hl : Bytes l) : ∃ A B sh m b w y z s, Ev (fun k => spec_DrawExactSecond.f k l) (A, B, sh, m, b, w, y, z, s) ∧ s.length ≤ 100001 := by
  obtain ⟨A, B, sh, m, b, w, a1, sd1, e1, ha, hb⟩ := second_ok hl 0 0 8 (by omega) (by omega) (by omega)
  obtain ⟨y, a2, sd2, e2, ha2, hb2, -⟩ := inWord_ok hl a1 sd1 b w (by omega) (by omega)
  obtain ⟨z, a3, sd3, e3, ha3, hb3, -⟩ := inWord_ok hl a2 sd2 b w (by omega) (by omega)
  obtain ⟨s, a4, sd4, e4, hs, -, -⟩ := signal_ok hl a3 sd3 6 9 (by omega) (by omega) (by omega) (by omega)
  refine ⟨A, B, sh, m, b, w, y, z, s, ?_, hs⟩
  simp only [spec_DrawExactSecond.f]
  exact Ev.bind e1 (Ev.bind e2 (Ev.bind e3 (Ev.bind e4 (Ev.now _))))

theorem drawTriangle_ok {l : List Int} (hl : Bytes l) : ∃ A B sh m b w, Ev (fun k => spec_DrawIsInTriangle.f k l) (A, B, sh, m, b, w) := by
  obtain ⟨A, B, sh, m, b, w, a1, sd1, e1, ha, hb⟩ := second_ok hl 0 0 6 (by omega) (by omega) (by omega)
  refine ⟨A, B, sh, m, b, w, ?_⟩
  simp only [spec_DrawIsInTriangle.f, spec_DrawIsSecond.f]
  exact Ev.bind (Ev.bind e1 (Ev.now _)) (Ev.now _)

theorem drawSecondStep_ok {l : List Int} (hl : Bytes l) : ∃ A B sh m b w y z x, Ev (fun k => spec_DrawSecondStep.f k l) (A, B, sh, m, b, w, y, z, x) := by
  obtain ⟨A, B, sh, m, b, w, a1, sd1, e1, ha, hb⟩ := second_ok hl 0 0 8 (by omega) (by omega) (by omega)
  obtain ⟨y, a2, sd2, e2, ha2, hb2, -⟩ := inWord_ok hl a1 sd1 b w (by omega) (by omega)
  obtain ⟨z, a3, sd3, e3, ha3, hb3, -⟩ := inWord_ok hl a2 sd2 b w (by omega) (by omega)
  obtain ⟨x, a4, sd4, e4, -, -⟩ := sample_ok hl a3 sd3 20 (by omega) (by omega) (by omega)
  refine ⟨A, B, sh, m, b, w, y, z, x, ?_⟩
  simp only [spec_DrawSecondStep.f]
  exact Ev.bind e1 (Ev.bind e2 (Ev.bind e3 (Ev.dbind e4 (Ev.now _))))

theorem drawFirsts_ok {l : List Int} (hl : Bytes l) : ∃ a sh m b w a2 sh2 m2 b2 w2, spec_DrawSecondOfFirsts.f l = some (a, sh, m, b, w, a2, sh2, m2, b2, w2) := by
  obtain ⟨A, sh, m, b, w, a1, sd1, e1, ha, hb⟩ := first_ok hl 0 0 8 (by omega) (by omega) (by omega)
  obtain ⟨A2, sh2, m2, b2, w2, a3, sd3, e3, ha3, hb3⟩ := first_ok hl a1 sd1 8 (by omega) (by omega) (by omega)
  refine ⟨A, sh, m, b, w, A2, sh2, m2, b2, w2, ?_⟩
  simp only [spec_DrawSecondOfFirsts.f, e1, e3, Option.bind_some]

theorem pr_ne (x : Bool) : ¬ (x != x) = true := by simp
theorem pr_disc (u v : Int) : (u + v) * (u + v) - 4 * (u * v) = (u - v) * (u - v) := by grind
theorem pr_fac1 (a b P Q : Int) : (P - a) * (Q - b) = P * Q - b * P - a * Q + a * b := by grind
theorem pr_fac2 (a b P Q : Int) : (P + a) * (Q + b) = P * Q + b * P + a * Q + a * b := by grind
theorem pr_pos {x y : Int} (h : 0 < x * y) : (0 < x ∧ 0 < y) ∨ (x < 0 ∧ y < 0) := by
  rcases Int.lt_trichotomy x 0 with hx | hx | hx
  · right
    refine ⟨hx, ?_⟩
    rcases Int.lt_trichotomy y 0 with hy | hy | hy
    · exact hy
    · subst hy; simp at h
    · have := Int.mul_neg_of_neg_of_pos hx hy; omega
  · subst hx; simp at h
  · left
    refine ⟨hx, ?_⟩
    rcases Int.lt_trichotomy y 0 with hy | hy | hy
    · have := Int.mul_neg_of_pos_of_neg hx hy; omega
    · subst hy; simp at h
    · exact hy
theorem pr_tri {a b P Q : Int} (hP : 1 ≤ P) (hQ : 1 ≤ Q) : (((a * b).natAbs : Int) < P * Q ∧ ((a * Q + b * P).natAbs : Int) < P * Q + a * b) ↔ ((a.natAbs : Int) < P ∧ (b.natAbs : Int) < Q) := by
  have f1 := pr_fac1 a b P Q
  have f2 := pr_fac2 a b P Q
  constructor
  · rintro ⟨h1, h2⟩
    have p1 : 0 < (P - a) * (Q - b) := by omega
    have p2 : 0 < (P + a) * (Q + b) := by omega
    rcases pr_pos p1 with ⟨x1, y1⟩ | ⟨x1, y1⟩
    · rcases pr_pos p2 with ⟨x2, y2⟩ | ⟨x2, y2⟩
      · omega
      · have : P * Q ≤ (-a) * (-b) := Int.mul_le_mul (by omega) (by omega) (by omega) (by omega)
        rw [Int.neg_mul_neg] at this
        omega
    · have : P * Q ≤ a * b := Int.mul_le_mul (by omega) (by omega) (by omega) (by omega)
      omega
  · rintro ⟨h1, h2⟩
    have p1 : 0 < (P - a) * (Q - b) := Int.mul_pos (by omega) (by omega)
    have p2 : 0 < (P + a) * (Q + b) := Int.mul_pos (by omega) (by omega)
    refine ⟨?_, by omega⟩
    rw [Int.natAbs_mul]
    have h3 : a.natAbs * b.natAbs < P.toNat * Q.toNat := Nat.mul_lt_mul'' (by omega) (by omega)
    have h4 : ((P.toNat * Q.toNat : Nat) : Int) = P * Q := by rw [Int.natCast_mul, Int.toNat_of_nonneg (by omega), Int.toNat_of_nonneg (by omega)]
    omega
/-- one part behind the other is the one of the second order -/
theorem pr_chain (G H a b S : Int) (hA : a = G + H) (hB : b * S = -(G * H)) : ∀ (t : List Int) (c y1 y z : Int) (f : Bool) (u v1 v2 r : List Int), scM S t c = some u → psM G u y1 = some v1 → psM H v1 y = some v2 → exG2 a b S t f y z c = some r → y1 = y - H * z → (f = true → z = 0) → v2 = r
  | [], c, y1, y, z, f, u, v1, v2, r, h1, h2, h3, h4, h5, h6 => by
    have e1 : u = [] := by simpa [scM] using h1.symm
    subst e1
    have e2 : v1 = [] := by simpa [psM] using h2.symm
    subst e2
    have e3 : v2 = [] := by simpa [psM] using h3.symm
    have e4 : r = [] := by simpa [exG2] using h4.symm
    rw [e3, e4]
  | x :: t, c, y1, y, z, f, u, v1, v2, r, h1, h2, h3, h4, h5, h6 => by
    by_cases d : numOk (c * S) = true
    · rw [scM, if_pos d] at h1
      rw [exG2, if_pos d] at h4
      obtain ⟨u', g1, rfl⟩ := Option.map_eq_some_iff.1 h1
      rw [psM] at h2
      by_cases d1 : y1 ≠ 0 ∧ 400000000000000000 / y1.natAbs < G.natAbs
      · rw [if_pos d1] at h2
        exact absurd h2 (by simp)
      · rw [if_neg d1] at h2
        by_cases d2 : numOk (x * (c * S) + G * y1) = true
        · rw [if_pos d2] at h2
          obtain ⟨v1', g2, rfl⟩ := Option.map_eq_some_iff.1 h2
          rw [psM] at h3
          by_cases d3 : y ≠ 0 ∧ 400000000000000000 / y.natAbs < H.natAbs
          · rw [if_pos d3] at h3
            exact absurd h3 (by simp)
          · rw [if_neg d3] at h3
            by_cases d4 : numOk (x * (c * S) + G * y1 + H * y) = true
            · rw [if_pos d4] at h3
              obtain ⟨v2', g3, rfl⟩ := Option.map_eq_some_iff.1 h3
              have ev : x * (c * S) + G * y1 + H * y = nxM a b S f y z + x * (c * S) := by
                rw [nxM]
                cases f with
                | true =>
                  rw [if_pos rfl, h5, h6 rfl, hA]
                  grind
                | false =>
                  rw [if_neg (by decide), h5, hA, hB]
                  grind
              rw [← ev, if_pos d4] at h4
              obtain ⟨r', g4, rfl⟩ := Option.map_eq_some_iff.1 h4
              have ih := pr_chain G H a b S hA hB t (c * S) (x * (c * S) + G * y1) _ y false u' v1' v2' r' g1 g2 g3 g4 (by omega) (by simp)
              rw [ih]
            · rw [if_neg d4] at h3
              exact absurd h3 (by simp)
        · rw [if_neg d2] at h2
          exact absurd h2 (by simp)
    · rw [scM, if_neg d] at h1
      exact absurd h1 (by simp)
theorem shM_one (x m : Int) : shM x 1 m = x := by
  have h1 : x % 1 = 0 := by omega
  have h2 : x / 1 = x := by omega
  rw [shM, h1, h2, if_neg (by omega), if_neg (by omega)]
/-- without shifts and fitting exact numbers are those of the run -/
theorem pr_exact_run (a b m bi : Int) (w : Bool) : ∀ (t : List Int) (y z : Int) (f : Bool) (r : List Int), exG2 a b 1 t f y z 1 = some r → sdC a b 0 m bi w t y z = 0 → r = sdM a b 0 m bi w t y z
  | [], y, z, f, r, h, hc => by
    have e : r = [] := by simpa [exG2] using h.symm
    rw [e, sdM]
  | x :: t, y, z, f, r, h, hc => by
    have ev : nxM a b 1 f y z + x * (1 * 1) = sdRw a b 0 m y z x := by
      rw [sdRw, nxM]
      have : (2 : Int) ^ (0 : Int).toNat = 1 := rfl
      rw [this, shM_one]
      cases f <;> simp
    rw [exG2] at h
    split at h
    · split at h
      · obtain ⟨r', g, rfl⟩ := Option.map_eq_some_iff.1 h
        have d : fitH (hf bi) w (sdRw a b 0 m y z x) = sdRw a b 0 m y z x := by
          by_cases d : fitH (hf bi) w (sdRw a b 0 m y z x) = sdRw a b 0 m y z x
          · exact d
          · rw [sdC, if_neg d] at hc
            omega
        rw [sdC, if_pos d, d, Nat.zero_add] at hc
        rw [ev] at g ⊢
        have ih := pr_exact_run a b m bi w t _ y false r' g hc
        rw [sdM, d, ih]
      · exact absurd h (by simp)
    · exact absurd h (by simp)
theorem exG2_length (a b S : Int) : ∀ (t : List Int) (f : Bool) (y z c : Int) (r : List Int), exG2 a b S t f y z c = some r → r.length = t.length
  | [], f, y, z, c, r, h => by
    have e : r = [] := by simpa [exG2] using h.symm
    rw [e]
  | x :: t, f, y, z, c, r, h => by
    rw [exG2] at h
    split at h
    · split at h
      · obtain ⟨r', g1, g2⟩ := Option.map_eq_some_iff.1 h
        rw [← g2, List.length_cons, List.length_cons, exG2_length a b S t _ _ _ _ _ g1]
      · exact absurd h (by simp)
    · exact absurd h (by simp)
theorem exact2_len (a b sh m bi y z : Int) (l : List Int) : (exact2M a b sh m bi y z l).1.length ≤ 1000 := by
  rw [exact2M]
  split
  · rename_i c
    have hs := sig_len c.2
    cases hg : exG2 a b (2 ^ sh.toNat) l true y z 1 with
    | none => exact Nat.zero_le _
    | some r =>
      have := exG2_length _ _ _ _ _ _ _ _ _ hg
      show ([] ++ r).length ≤ _
      rw [List.nil_append]
      omega
  · exact Nat.zero_le _
theorem law_j5 {l1 : List Int} (hb1 : Bytes l1) : Ev (fun k => laws_FnPairsRun.j5 k l1) true := by
  obtain ⟨A, B, sh, m, b, w, d⟩ := drawTriangle_ok hb1
  obtain ⟨A2, B2, sh2, m2, b2, w2, y2, z2, x2, d2⟩ := drawSecondStep_ok hb1
  have e1 : impl_IsSecond.f A B sh m b w = some (sdOk A B sh m b) := by simp only [impl_IsSecond.f, impl_isSecond_eq, Option.bind_some]
  have e2 : spec_IsSecond.f A B sh m b w = some (sdOk A B sh m b) := by simp only [spec_IsSecond.f, spec_sdGood_eq, Option.bind_some]
  have e3 : ((triM A B sh m b).2 == sdOk A B sh m b) = true := by
    rw [triM]
    by_cases c : sdOk A B sh m b = true
    · rw [if_pos c, c]; rfl
    · rw [if_neg c, Bool.eq_false_iff.mpr c]; rfl
  refine Ev.step (fun k => by simp only [laws_FnPairsRun.j5]; rfl) ?_
  refine Ev.bind d (Ev.dbind (impl_IsInTriangle_eq A B sh m b w) (Ev.dbind (spec_IsInTriangle_eq A B sh m b w) (Ev.dbind (impl_RootsOf_eq A B sh m b w) (Ev.dbind (spec_RootsOf_eq A B sh m b w) (Ev.bind d2 (Ev.bind (impl_SecondStep_ev A2 B2 sh2 m2 b2 w2 y2 z2 x2) (Ev.bind (spec_SecondStep_ev A2 B2 sh2 m2 b2 w2 y2 z2 x2) ?_)))))))
  refine Ev.tt (by simp) (Ev.tt (by simp) (Ev.tt (by simp) (Ev.tt rfl (Ev.dbind e1 (Ev.tt e3 (Ev.dbind e1 (Ev.dbind e2 (Ev.tt (by simp) (Ev.tt (by simp) ?_)))))))))
  exact Ev.to (Ev.now _) (by simp)
theorem so_ok {a sh m b : Int} {w : Bool} {a2 sh2 m2 b2 : Int} (h : (soM a sh m b w a2 sh2 m2 b2).2.2.2.2.2.2 = true) : foOk a sh m b = true ∧ foOk a2 sh2 m2 b2 = true ∧ sdOk (soA a sh a2 sh2) (-a * a2) (sh + sh2) m b = true := by
  rw [soM] at h
  by_cases c : foOk a sh m b = true ∧ foOk a2 sh2 m2 b2 = true ∧ sdOk (soA a sh a2 sh2) (-a * a2) (sh + sh2) m b = true
  · exact c
  · rw [if_neg c] at h
    exact absurd h (by decide)
theorem pr_n10 {n : Nat} (h : 0 ≤ (n : Int) ∧ (n : Int) ≤ 10) : n ≤ 10 := by omega
theorem pr_sub0 {u v : Int} : (u - v = 0 ∨ u - v = 0) ↔ u = v := by omega
theorem pr_pos0 {d : Int} (h : d > 0) : d ≠ 0 := by omega
theorem pr_nn {d : Int} (h : 0 ≤ d) (h2 : ¬ d > 0) : d = 0 := by omega
theorem law_j4 {l1 : List Int} (hb1 : Bytes l1) {a sh m b : Int} {w : Bool} {a2 sh2 m2 b2 : Int} {w2 : Bool} (c : foOk a sh m b = true) (c2 : foOk a2 sh2 m2 b2 = true) (c3 : sdOk (soA a sh a2 sh2) (-a * a2) (sh + sh2) m b = true) :
    Ev (fun k => laws_FnPairsRun.j4 k l1 false a sh m b w a2 sh2 m2 b2 w2 (soA a sh a2 sh2) (-a * a2) (sh + sh2) m b w) true := by
  obtain ⟨k1, k2, k3, g⟩ := foOk_iff.1 c
  obtain ⟨q1, q2, q3, g2⟩ := foOk_iff.1 c2
  obtain ⟨s1, s2, s3, s4⟩ := sdOk_iff.1 c3
  obtain ⟨n, rfl⟩ : ∃ n : Nat, sh = (n : Int) := ⟨sh.toNat, by omega⟩
  obtain ⟨n2, rfl⟩ : ∃ n : Nat, sh2 = (n : Int) := ⟨sh2.toNat, by omega⟩
  have hn := pr_n10 k2
  have hn2 := pr_n10 q2
  obtain ⟨e1, e2, e3, e4, e5⟩ := so_num k1 q1 hn hn2
  have hp := pr_pow hn
  have hp2 := pr_pow hn2
  have eS : (2 : Int) ^ ((n : Int) + (n2 : Int)).toNat = 2 ^ n * 2 ^ n2 := by
    rw [← Int.natCast_add, Int.toNat_natCast, Int.pow_add]
  have eA : soA a (n : Int) a2 (n2 : Int) = a * 2 ^ n2 + a2 * 2 ^ n := by rw [soA, Int.toNat_natCast, Int.toNat_natCast]
  have t := pr_tri (a := a) (b := a2) (P := 2 ^ n) (Q := 2 ^ n2) hp.1 hp2.1
  have tri : (triM (soA a n a2 n2) (-a * a2) ((n : Int) + n2) m b) = (decide ((a.natAbs : Int) < 2 ^ n) && decide ((a2.natAbs : Int) < 2 ^ n2), true) := by
    rw [triM, if_pos c3, eS, eA]
    have h1 : (-a * a2).natAbs = (a * a2).natAbs := by rw [Int.neg_mul, Int.natAbs_neg]
    have h2 : (2 : Int) ^ n * 2 ^ n2 - -a * a2 = 2 ^ n * 2 ^ n2 + a * a2 := by rw [Int.neg_mul, Int.sub_neg]
    rw [h1, h2]
    congr 1
    rw [← Bool.decide_and]
    exact decide_eq_decide.2 t
  have sh1 : shrinkM a (n : Int) m b = (decide ((a.natAbs : Int) < 2 ^ n), true) := by rw [shrinkM, if_pos c, Int.toNat_natCast]
  have sh2' : shrinkM a2 (n2 : Int) m2 b2 = (decide ((a2.natAbs : Int) < 2 ^ n2), true) := by rw [shrinkM, if_pos c2, Int.toNat_natCast]
  have dd : discM (soA a n a2 n2) (-a * a2) ((n : Int) + n2) = (a * 2 ^ n2 - a2 * 2 ^ n) * (a * 2 ^ n2 - a2 * 2 ^ n) := by
    rw [discM, eS, eA, ← pr_disc]
    grind
  have dn : 0 ≤ discM (soA a n a2 n2) (-a * a2) ((n : Int) + n2) := by
    rw [dd]
    rcases Int.le_total 0 (a * 2 ^ n2 - a2 * 2 ^ n) with h | h
    · exact Int.mul_nonneg h h
    · exact Int.mul_nonneg_of_nonpos_of_nonpos h h
  have dz : (discM (soA a n a2 n2) (-a * a2) ((n : Int) + n2) = 0) ↔ a * 2 ^ n2 = a2 * 2 ^ n := by
    rw [dd, Int.mul_eq_zero]
    exact pr_sub0
  have rt : ∃ z : ByteArray, rootsM (soA a n a2 n2) (-a * a2) ((n : Int) + n2) m b = (z, true) ∧ ¬ z.toList = ([116, 117, 114, 110] : List UInt8) ∧ ((z.toList == ([111, 110, 101] : List UInt8)) = (a * 2 ^ n2 == a2 * 2 ^ n)) := by
    rw [rootsM, if_pos c3]
    by_cases h : discM (soA a n a2 n2) (-a * a2) ((n : Int) + n2) > 0
    · have h' : ¬ a * 2 ^ n2 = a2 * 2 ^ n := fun e => pr_pos0 h (dz.2 e)
      rw [if_pos h]
      refine ⟨_, rfl, by decide +kernel, ?_⟩
      rw [beq_eq_false_iff_ne.mpr h']
      decide +kernel
    · have h0 : discM (soA a n a2 n2) (-a * a2) ((n : Int) + n2) = 0 := pr_nn dn h
      rw [if_neg h, if_neg (Int.not_lt.2 dn)]
      refine ⟨_, rfl, by decide +kernel, ?_⟩
      rw [beq_iff_eq.mpr (dz.1 h0)]
      decide +kernel
  obtain ⟨z, r1, r2, r3⟩ := rt
  refine Ev.step (fun k => by simp only [laws_FnPairsRun.j4]; rfl) ?_
  refine Ev.ff (by decide) (Ev.dbind (impl_IsShrinking_eq a n m b w) (Ev.dbind (impl_IsShrinking_eq a2 n2 m2 b2 w2) (Ev.dbind (impl_IsInTriangle_eq _ _ _ m b w) (Ev.dbind (impl_RootsOf_eq _ _ _ m b w) ?_))))
  rw [e1, e2, tri, sh1, sh2', r1]
  dsimp only
  refine Ev.tt (Int.natCast_nonneg _) (Ev.tt (Int.natCast_nonneg _) (Ev.tt rfl (Ev.tt rfl (Ev.tt rfl (Ev.tt rfl ?_)))))
  by_cases h : (a.natAbs : Int) < 2 ^ n
  · rw [decide_eq_true h, Bool.true_and]
    exact Ev.tt rfl (Ev.ff (pr_ne _) (Ev.ff r2 (Ev.ff (by rw [r3]; exact pr_ne _) (law_j5 hb1))))
  · rw [decide_eq_false h, Bool.false_and]
    exact Ev.ff (by decide) (Ev.ff (by decide) (Ev.ff r2 (Ev.ff (by rw [r3]; exact pr_ne _) (law_j5 hb1))))
theorem oX_some {g : Option (List Int)} (h : (oX g).2 = true) : ∃ r, g = some r ∧ (oX g).1 = r := by
  cases g with
  | none => exact absurd h (by decide)
  | some r => exact ⟨r, rfl, rfl⟩
theorem exO_some {g : Option (List Int)} (h : (exO [] g).2 = true) : ∃ r, g = some r ∧ (exO [] g).1 = r := by
  cases g with
  | none => exact absurd h (by decide)
  | some r => exact ⟨r, rfl, by simp [exO]⟩
theorem pr_sig : sig [5, 0, (-3), 1] = true := by decide
theorem pr_sums {n n2 : Nat} : ((n : Int) + ((n2 : Int) + 0) - (n : Int)).toNat = n2 ∧ ((n : Int) + ((n2 : Int) + 0) - (n2 : Int)).toNat = n ∧ ((n : Int) + ((n2 : Int) + 0)).toNat = n + n2 ∧ ((n : Int) + (n2 : Int)).toNat = n + n2 := by omega
theorem law_chain {a sh m b : Int} {w : Bool} {a2 sh2 m2 b2 : Int} {w2 : Bool} (c : foOk a sh m b = true) (c2 : foOk a2 sh2 m2 b2 = true) (c3 : sdOk (soA a sh a2 sh2) (-a * a2) (sh + sh2) m b = true) :
    ∃ X : List Int × Bool, Ev (fun k => impl_ExactChain.f k [(⟨a, sh, m, ⟨b, w⟩⟩ : S62), (⟨a2, sh2, m2, ⟨b2, w2⟩⟩ : S62)] [5, 0, (-3), 1]) X ∧ X.1.length ≤ 1000 ∧ (X.2 = true → (exact2M (soA a sh a2 sh2) (-a * a2) (sh + sh2) m b 0 0 [5, 0, (-3), 1]).2 = true → X.1 = (exact2M (soA a sh a2 sh2) (-a * a2) (sh + sh2) m b 0 0 [5, 0, (-3), 1]).1) := by
  obtain ⟨k1, k2, k3, g⟩ := foOk_iff.1 c
  obtain ⟨q1, q2, q3, g2⟩ := foOk_iff.1 c2
  obtain ⟨n, rfl⟩ : ∃ n : Nat, sh = (n : Int) := ⟨sh.toNat, by omega⟩
  obtain ⟨n2, rfl⟩ : ∃ n : Nat, sh2 = (n : Int) := ⟨sh2.toNat, by omega⟩
  have hn := pr_n10 k2
  have hn2 := pr_n10 q2
  have hp : partsOk [(⟨a, (n : Int), m, ⟨b, w⟩⟩ : S62), (⟨a2, (n2 : Int), m2, ⟨b2, w2⟩⟩ : S62)] = true := by
    rw [partsOk_iff]
    refine ⟨⟨by simp, by simp⟩, fun p hp => ?_⟩
    rcases List.mem_cons.1 hp with rfl | hp
    · exact c
    · rw [List.mem_singleton.1 hp]
      exact c2
  have hF : shF [(⟨a, (n : Int), m, ⟨b, w⟩⟩ : S62), (⟨a2, (n2 : Int), m2, ⟨b2, w2⟩⟩ : S62)] = (n : Int) + ((n2 : Int) + 0) := rfl
  have hE := impl_exactChain_ev _ hp (by rw [hF]; omega) [5, 0, (-3), 1] pr_sig
  have hA := impl_areParts_ev [(⟨a, (n : Int), m, ⟨b, w⟩⟩ : S62), (⟨a2, (n2 : Int), m2, ⟨b2, w2⟩⟩ : S62)] (by simp)
  rw [hp] at hA
  have hS := impl_isSignal_ev [5, 0, (-3), 1] (by simp)
  rw [pr_sig] at hS
  obtain ⟨p1, p2, p3, p4⟩ := @pr_sums n n2
  rw [hF, p3] at hE
  refine ⟨oX ((scM (2 ^ (n + n2)) [5, 0, (-3), 1] 1).bind fun r => chX ((n : Int) + ((n2 : Int) + 0)) [(⟨a, (n : Int), m, ⟨b, w⟩⟩ : S62), (⟨a2, (n2 : Int), m2, ⟨b2, w2⟩⟩ : S62)] r), ?_, ?_, ?_⟩
  · simp only [impl_ExactChain.f]
    exact Ev.bind hA (Ev.tt rfl (Ev.bind hS (Ev.tt rfl (Ev.bind hE (Ev.now _)))))
  · cases hg : (scM (2 ^ (n + n2)) [5, 0, (-3), 1] 1).bind fun r => chX ((n : Int) + ((n2 : Int) + 0)) [(⟨a, (n : Int), m, ⟨b, w⟩⟩ : S62), (⟨a2, (n2 : Int), m2, ⟨b2, w2⟩⟩ : S62)] r with
    | none => exact Nat.zero_le _
    | some r =>
      obtain ⟨u, h1, h2⟩ := Option.bind_eq_some_iff.1 hg
      simp only [chX, p1, p2] at h2
      obtain ⟨v1, h3, h4⟩ := Option.bind_eq_some_iff.1 h2
      obtain ⟨v2, h5, h6⟩ := Option.bind_eq_some_iff.1 h4
      have l1 := (psM_ok _ _ _ _ h3).1
      have l2 := (psM_ok _ _ _ _ h5).1
      have sl : ∀ (t : List Int) (S c : Int) (r : List Int), scM S t c = some r → r.length = t.length := by
        intro t
        induction t with
        | nil =>
          intro S c r h
          have e : r = [] := by simpa [scM] using h.symm
          rw [e]
        | cons x t ih =>
          intro S c r h
          rw [scM] at h
          split at h
          · obtain ⟨r', g1, g2⟩ := Option.map_eq_some_iff.1 h
            rw [← g2, List.length_cons, List.length_cons, ih _ _ _ g1]
          · exact absurd h (by simp)
      have l3 := sl _ _ _ _ h1
      have e : v2 = r := by simpa using h6
      show r.length ≤ 1000
      rw [← e, l2, l1, l3]
      decide
  · intro hx hw
    obtain ⟨r, hr, hr1⟩ := oX_some hx
    have hask : sdAsk (soA a n a2 n2) (-a * a2) ((n : Int) + n2) m b 0 0 = true ∧ sig [5, 0, (-3), 1] = true := by
      by_cases h : sdAsk (soA a n a2 n2) (-a * a2) ((n : Int) + n2) m b 0 0 = true ∧ sig [5, 0, (-3), 1] = true
      · exact h
      · rw [exact2M, if_neg h] at hw
        exact absurd hw (by decide)
    rw [exact2M, if_pos hask, p4] at hw ⊢
    obtain ⟨r2, hr2, hr3⟩ := exO_some hw
    rw [hr3]
    obtain ⟨u, h1, h2⟩ := Option.bind_eq_some_iff.1 hr
    simp only [chX, p1, p2] at h2
    obtain ⟨v1, h3, h4⟩ := Option.bind_eq_some_iff.1 h2
    obtain ⟨v2, h5, h6⟩ := Option.bind_eq_some_iff.1 h4
    have e : v2 = r := by simpa using h6
    have hc := pr_chain (a * 2 ^ n2) (a2 * 2 ^ n) (soA a n a2 n2) (-a * a2) (2 ^ (n + n2)) (by rw [soA, Int.toNat_natCast, Int.toNat_natCast]) (by rw [Int.pow_add]; grind) [5, 0, (-3), 1] 1 0 0 0 true u v1 v2 r2 h1 h3 h5 hr2 (by simp) (fun _ => rfl)
    show (oX _).1 = r2
    rw [hr1, ← e, hc]
theorem law_j3 {l1 : List Int} (hb1 : Bytes l1) (a sh m b : Int) (w : Bool) (a2 sh2 m2 b2 : Int) (w2 : Bool) :
    Ev (fun k => laws_FnPairsRun.j3 k l1 (soM a sh m b w a2 sh2 m2 b2).2.2.2.2.2.2 false a sh m b w a2 sh2 m2 b2 w2 (soM a sh m b w a2 sh2 m2 b2).1 (soM a sh m b w a2 sh2 m2 b2).2.1 (soM a sh m b w a2 sh2 m2 b2).2.2.1 (soM a sh m b w a2 sh2 m2 b2).2.2.2.1 (soM a sh m b w a2 sh2 m2 b2).2.2.2.2.1 (soM a sh m b w a2 sh2 m2 b2).2.2.2.2.2.1) true := by
  refine Ev.step (fun k => by simp only [laws_FnPairsRun.j3]; rfl) (Ev.ff (by decide) ?_)
  by_cases h : (soM a sh m b w a2 sh2 m2 b2).2.2.2.2.2.2 = true
  · refine Ev.tt h ?_
    obtain ⟨c, c2, c3⟩ := so_ok h
    have e : soM a sh m b w a2 sh2 m2 b2 = (soA a sh a2 sh2, -a * a2, sh + sh2, m, b, w, true) := by rw [soM, if_pos ⟨c, c2, c3⟩]
    rw [e]
    dsimp only
    obtain ⟨X, x1, x2, x3⟩ := law_chain (w := w) (w2 := w2) c c2 c3
    have j4 := law_j4 (w := w) (w2 := w2) hb1 c c2 c3
    refine Ev.dbind rfl (Ev.bind x1 (Ev.bind (impl_ExactSecond_ev (soA a sh a2 sh2) (-a * a2) (sh + sh2) m b w 0 0 [5, 0, (-3), 1] (by simp)) ?_))
    by_cases hx : X.2 = true
    · refine Ev.tt hx ?_
      by_cases hw : (exact2M (soA a sh a2 sh2) (-a * a2) (sh + sh2) m b 0 0 [5, 0, (-3), 1]).2 = true
      · rw [← x3 hx hw]
        exact Ev.tt hw (Ev.bind (laws_uSame_ev _ (by omega)) j4)
      · exact Ev.ff hw j4
    · exact Ev.ff hx j4
  · exact Ev.ff h (law_j5 hb1)
theorem law_j2 {l1 : List Int} (hb1 : Bytes l1) : Ev (fun k => laws_FnPairsRun.j2 k l1) true := by
  obtain ⟨a, sh, m, b, w, a2, sh2, m2, b2, w2, d⟩ := drawFirsts_ok hb1
  have j3 := law_j3 hb1 a sh m b w a2 sh2 m2 b2 w2
  refine Ev.step (fun k => by simp only [laws_FnPairsRun.j2]; rfl) ?_
  refine Ev.dbind d (Ev.bind (impl_SecondOfFirsts_ev a sh m b w a2 sh2 m2 b2 w2) (Ev.bind (spec_SecondOfFirsts_ev a sh m b w a2 sh2 m2 b2 w2) (Ev.ff (pr_ne _) ?_)))
  have eqs : ∀ (x y z u v : Int) (t : Bool), (!(x == x) || (!(y == y) || (!(z == z) || (!(u == u) || ((!(v == v) || (!(t == t)))))))) = false := by
    intro x y z u v t
    simp
  dsimp only
  rw [eqs]
  exact j3
theorem sd_facts {a b sh m bi : Int} (w : Bool) (ok : sdOk a b sh m bi = true) {y z x : Int} (hy : -(hf bi) ≤ y ∧ y ≤ hf bi - 1) (hz : -(hf bi) ≤ z ∧ z ≤ hf bi - 1) (hx : -100000 ≤ x ∧ x ≤ 100000) :
    (-(hf bi) ≤ fitH (hf bi) w (sdRw a b sh m y z x) ∧ fitH (hf bi) w (sdRw a b sh m y z x) ≤ hf bi - 1) ∧ Ev (fun k => impl_SecondStep.f k a b sh m bi w y z x) (fitH (hf bi) w (sdRw a b sh m y z x), true) := by
  have g := (sdOk_iff.1 ok).2.2.2
  have h := impl_SecondStep_ev a b sh m bi w y z x
  rw [secondStepM, if_pos ⟨sdAsk_iff.2 ⟨ok, hy, hz⟩, hx⟩] at h
  exact ⟨fitH_bd (hf bi) w _ (by have := (half g).1; omega), h⟩
theorem law_l0 {l1 : List Int} (hb1 : Bytes l1) {a b sh m bi : Int} {w : Bool} (ok : sdOk a b sh m bi = true) (S R E : List Int) (hS : S.length ≤ 1000) (hlen : R.length = S.length) (one : Bool) (fits : Int) (hE : sh = 0 → one = true → fits = 0 → E = R) :
    ∀ (t p pr : List Int) (y z : Int), S = p ++ t → R = pr ++ sdM a b sh m bi w t y z → pr.length = p.length → (-(hf bi) ≤ y ∧ y ≤ hf bi - 1) → (-(hf bi) ≤ z ∧ z ≤ hf bi - 1) → (∀ x ∈ t, -100000 ≤ x ∧ x ≤ 100000) →
    Ev (fun k => laws_FnPairsRun.l0 k l1 R E one fits y z S (S.length : Int) (p.length : Int) a b sh m bi w) true
  | [], p, pr, y, z, h, hR, hp, hy, hz, hx => by
    rw [List.append_nil] at h
    refine Ev.step (fun k => by simp only [laws_FnPairsRun.l0]; rfl) (Ev.ff (by rw [h]; exact Int.lt_irrefl _) ?_)
    by_cases c1 : sh = 0
    · refine Ev.tt c1 ?_
      by_cases c2 : one = true
      · refine Ev.tt c2 ?_
        by_cases c3 : fits = 0
        · rw [hE c1 c2 c3]
          exact Ev.tt c3 (Ev.bind (laws_uSame_ev _ (by omega)) (Ev.tt rfl (law_j2 hb1)))
        · exact Ev.ff c3 (law_j2 hb1)
      · exact Ev.ff c2 (law_j2 hb1)
    · exact Ev.ff c1 (law_j2 hb1)
  | x :: t, p, pr, y, z, h, hR, hp, hy, hz, hx => by
    have e1 : (p.length : Int) < (S.length : Int) := by rw [h]; exact lt_mid p t x
    have e5 : (p.length : Int) < (R.length : Int) := by omega
    have e2 : rd S (p.length : Int) = x := by rw [h]; exact rd_mid p t x
    have e4 : rd R (p.length : Int) = fitH (hf bi) w (sdRw a b sh m y z x) := by rw [hR, sdM, ← hp]; exact rd_mid _ _ _
    have e3 : wrap64 ((p.length : Int) + 1) = ((p ++ [x]).length : Int) := nx_mid p t x (by rw [← h]; omega)
    obtain ⟨hf1, st⟩ := sd_facts w ok hy hz (hx x (by simp))
    have hRR : R = (pr ++ [fitH (hf bi) w (sdRw a b sh m y z x)]) ++ sdM a b sh m bi w t (fitH (hf bi) w (sdRw a b sh m y z x)) y := by rw [hR, sdM]; simp
    have ih := law_l0 hb1 ok S R E hS hlen one fits hE t (p ++ [x]) _ _ y (by simp [h]) hRR (by simp [hp]) hf1 hy (fun q hq => hx q (by simp [hq]))
    refine Ev.step (fun k => by simp only [laws_FnPairsRun.l0]; rfl) ?_
    rw [e2, e3]
    exact Ev.tt e1 (Ev.tt (Int.natCast_nonneg _) (Ev.tt e1 (Ev.bind st (Ev.tt rfl (Ev.tt e5 (Ev.tt e4.symm ih))))))
theorem law_j0 {l1 : List Int} (hb1 : Bytes l1) (a b sh m bi : Int) (w : Bool) (y z : Int) (s : List Int) :
    Ev (fun k => laws_FnPairsRun.j0 k l1 y z s (runSecondM a b sh m bi w y z s).1 (runSecondM a b sh m bi w y z s).2 (exact2M a b sh m bi y z s).1 (exact2M a b sh m bi y z s).2 (countPairM a b sh m bi w y z s).1 false a b sh m bi w) true := by
  refine Ev.step (fun k => by simp only [laws_FnPairsRun.j0]; rfl) (Ev.ff (by decide) ?_)
  by_cases h : (runSecondM a b sh m bi w y z s).2 = true
  · have hc : sdAsk a b sh m bi y z = true ∧ sig s = true := by
      by_cases c : sdAsk a b sh m bi y z = true ∧ sig s = true
      · exact c
      · rw [runSecondM, if_neg c] at h
        exact absurd h (by decide)
    obtain ⟨k0, k1, k2⟩ := sdAsk_iff.1 hc.1
    have hs := sig_len hc.2
    refine Ev.tt h ?_
    have e1 : (runSecondM a b sh m bi w y z s).1 = sdM a b sh m bi w s y z := by rw [runSecondM, if_pos hc]
    have hE : sh = 0 → (exact2M a b sh m bi y z s).2 = true → (countPairM a b sh m bi w y z s).1 = 0 → (exact2M a b sh m bi y z s).1 = sdM a b sh m bi w s y z := by
      intro g0 g1 g2
      subst g0
      rw [exact2M, if_pos hc] at g1 ⊢
      rw [countPairM, if_pos hc] at g2
      obtain ⟨r, r1, r2⟩ := exO_some g1
      rw [r2]
      exact pr_exact_run a b m bi w s y z true r r1 (by dsimp only at g2; omega)
    rw [e1]
    exact law_l0 hb1 k0 s _ _ (by omega) (sdM_length ..) _ _ hE s [] [] y z rfl rfl rfl k1 k2 (sig_mem hc.2)
  · exact Ev.ff h (law_j2 hb1)
theorem FnPairsRun : laws_FnPairsRun.Pure := by
  intro l0 l1 hm0 he0 hx0 hm1 he1 hx1
  apply Ev.rounds
  simp only [laws_FnPairsRun.f]
  refine Ev.dbind (laws_big_eq l0 l1 (by omega) (by omega)) ?_
  by_cases c : decide (1048576 < l0.length + l1.length) = true
  · exact Ev.tt c (Ev.now _)
  have hlen : l0.length + l1.length ≤ 1048576 := by simpa using c
  refine Ev.ff c ?_
  have hb0 : Bytes l0 := bytes_of (by omega) hx0
  have hb1 : Bytes l1 := bytes_of (by omega) hx1
  obtain ⟨a, b, sh, m, bi, w, y, z, s, d, hs⟩ := drawExactSecond_ok hb0
  have j0 := law_j0 hb1 a b sh m bi w y z s
  have hCR : (countPairM a b sh m bi w y z s).2 = (runSecondM a b sh m bi w y z s).2 := by
    rw [countPairM, runSecondM]
    split <;> rfl
  have hER : (exact2M a b sh m bi y z s).2 = true → (!(runSecondM a b sh m bi w y z s).2) = false := by
    intro h
    rw [exact2M] at h
    by_cases c : sdAsk a b sh m bi y z = true ∧ sig s = true
    · rw [runSecondM, if_pos c]
      rfl
    · rw [if_neg c] at h
      exact absurd h (by decide)
  have hlr : (runSecondM a b sh m bi w y z s).1.length ≤ 1000000 := by
    rw [runSecondM]
    split
    · show (sdM a b sh m bi w s y z).length ≤ _
      rw [sdM_length]
      omega
    · exact Nat.zero_le _
  have hle := exact2_len a b sh m bi y z s
  refine Ev.bind d (Ev.bind (impl_RunSecond_ev a b sh m bi w y z s (by omega)) (Ev.bind (spec_RunSecond_ev a b sh m bi w y z s (by omega)) (Ev.bind (impl_ExactSecond_ev a b sh m bi w y z s (by omega)) (Ev.bind (spec_ExactSecond_ev a b sh m bi w y z s (by omega)) (Ev.bind (impl_CountPairFits_ev a b sh m bi w y z s (by omega)) (Ev.bind (spec_CountPairFits_ev a b sh m bi w y z s (by omega)) ?_))))))
  dsimp only
  refine Ev.ff (pr_ne _) (Ev.bind (laws_uSame_ev _ (by omega)) (Ev.tt rfl (Ev.ff (pr_ne _) (Ev.bind (laws_uSame_ev _ (by omega)) (Ev.tt rfl (Ev.ff (pr_ne _) (Ev.tt rfl (Ev.ff (by rw [hCR]; exact pr_ne _) ?_))))))))
  by_cases e : (exact2M a b sh m bi y z s).2 = true
  · refine Ev.tt e ?_
    rw [hER e]
    exact j0
  · exact Ev.ff e j0

end Go.Proofs.Ytjplcongellcmaa.Pure
