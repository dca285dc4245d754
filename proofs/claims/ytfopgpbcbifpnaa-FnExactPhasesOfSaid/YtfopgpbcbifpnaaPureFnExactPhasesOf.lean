/- The program's PhasesOf returns what the reference's returns, for all arguments. Conditions: none beyond those that the statement itself prints. -/
import Derived.Test.YtfopgpbcbifpnaaPFnExactPhasesOfx4
namespace Go.Proofs.Ytfopgpbcbifpnaa.Pure
open Go.RowKit Go.Proofs.Ytfopgpbcbifpnaa.PFnExactPhasesOf Go.Proofs.YtfopgpbcbifpnaaW.PrintWords Go.Proofs.YtfopgpbcbifpnaaW.PrintLast Go.Proofs.YtfopgpbcbifpnaaW.PrintMore
set_option linter.unusedVariables false
set_option linter.unusedSimpArgs false

theorem w64 {n : Int} (h1 : -9223372036854775808 ≤ n) (h2 : n ≤ 9223372036854775807) : wrap64 n = n := by
  unfold wrap64
  omega
theorem Ev.to {α : Type} {g : Nat → Option α} {r r' : α} (h : Ev g r) (e : r = r') : Ev g r' := e ▸ h
theorem Ev.const {α : Type} {g : Option α} {r : α} (h : g = some r) : Ev (fun _ => g) r := ⟨0, fun _ _ => h⟩
theorem Ev.dbind {α β : Type} {g : Option α} {f : Nat → α → Option β} {a : α} {r : β} (h : g = some a) (k : Ev (fun n => f n a) r) : Ev (fun n => g.bind (f n)) r :=
  Ev.bind (g := fun _ => g) (Ev.const h) k
theorem Ev.tt {α : Type} {c : Prop} {_ : Decidable c} {g f : Nat → Option α} {r : α} (h : c) (k : Ev g r) : Ev (fun n => if c then g n else f n) r := by
  simpa only [if_pos h] using k
theorem Ev.ff {α : Type} {c : Prop} {_ : Decidable c} {g f : Nat → Option α} {r : α} (h : ¬ c) (k : Ev f r) : Ev (fun n => if c then g n else f n) r := by
  simpa only [if_neg h] using k
theorem rd_mid (p t : List Int) (x : Int) : rd (p ++ x :: t) (p.length : Int) = x := by
  simp [rd]
theorem lt_mid {α : Type} (p t : List α) (x : α) : (p.length : Int) < ((p ++ x :: t).length : Int) := by
  simp
  omega
theorem nx_mid {α : Type} (p t : List α) (x : α) (h : (p ++ x :: t).length ≤ 140737488351232) : wrap64 ((p.length : Int) + 1) = ((p ++ [x]).length : Int) := by
  simp at h ⊢
  exact w64 (by omega) (by omega)
theorem ap_mid {α : Type} (p t : List α) (x : α) : p ++ x :: t = (p ++ [x]) ++ t := by simp
theorem w64_nat (a b : Nat) (h : a + b ≤ 1000000000) : wrap64 ((a : Int) + (b : Int)) = ((a + b : Nat) : Int) := by
  rw [w64 (n := (a : Int) + (b : Int)) (by omega) (by omega)]
  omega
theorem w64_suc {α : Type} (q : List α) (x : α) (h : q.length ≤ 1000000000) : wrap64 ((q.length : Int) + 1) = ((q ++ [x]).length : Int) := by
  rw [w64 (n := (q.length : Int) + 1) (by omega) (by omega)]
  simp
theorem ar1 {a b c d : Nat} (h1 : a + 1 ≤ c) (h2 : b + 1 ≤ d) : ((a + b : Nat) : Int) < ((c + d - 1 : Nat) : Int) := by omega
theorem ar2 {a b c d : Nat} (h1 : a + 1 ≤ c) (h2 : b + 1 ≤ d) : a + b < c + d - 1 := by omega
theorem ar3 (a b : Nat) : ¬ (a ≤ a + b ∧ a + b - a < b) := by omega
theorem ar4 {v M : Int} (h : -M ≤ v ∧ v ≤ M) (hm : M ≤ 4000000000000000000) : wrap64 v = v := w64 (by omega) (by omega)
theorem ar5 {c v P M H : Int} (hc : -P ≤ c ∧ c ≤ P) (hv : -M ≤ v ∧ v ≤ M) (hp : P + M ≤ H) (hH : H ≤ 4000000000000000000) : wrap64 (c + v) = c + v := w64 (by omega) (by omega)
theorem ar6 {a b : Nat} {M : Int} (h : a + 1 ≤ b) (hM : 0 ≤ M) : (a : Int) * M + M ≤ (b : Int) * M := by
  have h1 : ((a : Int) + 1) * M ≤ (b : Int) * M := Int.mul_le_mul_of_nonneg_right (by omega) hM
  rw [Int.add_mul, Int.one_mul] at h1
  exact h1
theorem ar7 {a b c d : Nat} (h1 : a + 1 ≤ c) (h2 : b + 1 ≤ d) (h : c + d ≤ 100000000) : a + b ≤ 1000000000 := by omega
theorem ar8 {a c d : Nat} (h1 : a + 1 ≤ c) (h : c + d ≤ 100000000) : a ≤ 1000000000 := by omega
theorem tm (a b : Nat) : Int.tmod (a : Int) (b : Int) = ((a % b : Nat) : Int) := (Int.ofNat_tmod a b).symm
theorem td (a b : Nat) : Int.tdiv (a : Int) (b : Int) = ((a / b : Nat) : Int) := (Int.ofNat_tdiv a b).symm
theorem w64n {a : Nat} (h : a ≤ 1000000000) : wrap64 (a : Int) = (a : Int) := w64 (by omega) (by omega)

def backOf (n : Int) : Int × Bool := if n = 3 then (-1, true) else if n = 4 then (0, true) else if n = 6 then (1, true) else (0, false)
def tnF (c : Int) : List Int → Int → Int → Int × Int
  | [], y, z => (y, z)
  | x :: t, y, z => tnF c t (wrap64 ((wrap64 (x + (wrap64 (c * y)))) - z)) y
def sig (l : List Int) : Bool := decide (l.length ≤ 64) && l.all fun x => decide (-100000 ≤ x) && decide (x ≤ 100000)
def toneStates (l : List Int) (n : Int) : Int × Int × Bool := if (backOf n).2 = true then (if sig l = true then ((tnF (backOf n).1 l 0 0).1, (tnF (backOf n).1 l 0 0).2, true) else (0, 0, false)) else (0, 0, false)
theorem sig_len {l : List Int} (h : sig l = true) : l.length ≤ 64 := by
  simp [sig] at h
  exact h.1
theorem sig_mem {l : List Int} (h : sig l = true) : ∀ x ∈ l, -100000 ≤ x ∧ x ≤ 100000 := by
  simp [sig] at h
  exact h.2
def isBits (l : List Int) : Bool := decide (l.length ≤ 200) && l.all fun x => decide (x = 1 ∨ x = -1)
theorem isBits_len {l : List Int} (h : isBits l = true) : l.length ≤ 200 := by
  simp [isBits] at h
  exact h.1
theorem isBits_mem {l : List Int} (h : isBits l = true) : ∀ x ∈ l, x = 1 ∨ x = -1 := by
  simp [isBits] at h
  exact h.2
def toldM (l : List Int) : List Int × Bool := if sig l = true then (l, true) else ([], false)
theorem toldM_len (l : List Int) : (toldM l).1.length ≤ 64 := by
  unfold toldM
  split
  · exact sig_len ‹_›
  · simp
def bitM (x v : Int) : Int := if x ≥ v then 1 else -1
theorem bitM_cases (x v : Int) : bitM x v = 1 ∨ bitM x v = -1 := by
  unfold bitM
  split <;> simp
def tkS (st last : Int) (fixed : Bool) (bit : Int) : Int :=
  if fixed = true then st else if last = 0 then st else if bit = last then (if 2 * st ≤ 4096 then 2 * st else 4096) else (if 1 ≤ st / 2 then st / 2 else 1)
theorem tkS_bd {st last : Int} {fixed : Bool} {bit : Int} (h0 : 1 ≤ st) (h1 : st ≤ 4096) : 1 ≤ tkS st last fixed bit ∧ tkS st last fixed bit ≤ 4096 := by
  unfold tkS
  repeat' split
  all_goals omega
theorem mul_bit {st bit : Int} (hb : bit = 1 ∨ bit = -1) : st * bit = st ∨ st * bit = -st := by
  rcases hb with rfl | rfl
  · left; omega
  · right; omega
/-- bit, value and step behind each sample -/
def codeM (fixed : Bool) : List Int → Int → Int → Int → List (Int × Int × Int)
  | [], _, _, _ => []
  | x :: t, v, st, last =>
    let b := bitM x v
    let s := tkS st last fixed b
    (b, v + s * b, s) :: codeM fixed t (v + s * b) s b
theorem codeM_length (fixed : Bool) : ∀ (l : List Int) (v st last : Int), (codeM fixed l v st last).length = l.length
  | [], _, _, _ => rfl
  | x :: t, v, st, last => by simp [codeM, codeM_length fixed t]
def fixM (st : Int) : List Int → Int → List Int
  | [], _ => []
  | x :: t, v => bitM x v :: fixM st t (v + bitM x v * st)
theorem fixM_length (st : Int) : ∀ (l : List Int) (v : Int), (fixM st l v).length = l.length
  | [], _ => rfl
  | x :: t, v => by simp [fixM, fixM_length st t]
def fixedBits (l : List Int) (st : Int) : List Int × Bool := if sig l = true ∧ 1 ≤ st ∧ st ≤ 4096 then (fixM st l 0, true) else ([], false)
def decM (fixed : Bool) : List Int → Int → Int → Int → List (Int × Int)
  | [], _, _, _ => []
  | b :: t, v, st, last => (v + tkS st last fixed b * b, tkS st last fixed b) :: decM fixed t (v + tkS st last fixed b * b) (tkS st last fixed b) b
theorem decM_length (fixed : Bool) : ∀ (l : List Int) (v st last : Int), (decM fixed l v st last).length = l.length
  | [], _, _, _ => rfl
  | x :: t, v, st, last => by simp [decM, decM_length fixed t]
def gapM : List Int → List Int → List Int
  | x :: t, y :: u => (x - y) :: gapM t u
  | _, _ => []
theorem gapM_length : ∀ (l m : List Int), l.length = m.length → (gapM l m).length = l.length
  | [], m, _ => by cases m <;> simp [gapM]
  | x :: t, [], h => by simp at h
  | x :: t, y :: u, h => by
    simp at h
    simp [gapM, gapM_length t u h]
theorem codeM_val (fixed : Bool) : ∀ (l : List Int) (v st last : Int) (n : Int), 1 ≤ st → st ≤ 4096 → -4096 * n ≤ v → v ≤ 4096 * n → ∀ y ∈ (codeM fixed l v st last).map (·.2.1), -4096 * (n + l.length) ≤ y ∧ y ≤ 4096 * (n + l.length)
  | [], _, _, _, _, _, _, _, _, y, hy => by simp [codeM] at hy
  | x :: t, v, st, last, n, h0, h1, hv0, hv1, y, hy => by
    have hb := bitM_cases x v
    have hk := tkS_bd (last := last) (fixed := fixed) (bit := bitM x v) h0 h1
    have hm := mul_bit (st := tkS st last fixed (bitM x v)) hb
    simp only [codeM, List.map_cons, List.mem_cons] at hy
    rcases hy with rfl | hy
    · simp; omega
    · have := codeM_val fixed t _ _ _ (n + 1) hk.1 hk.2 (by omega) (by omega) y hy
      simp; omega
def stepOk (st : Int) : Bool := decide (1 ≤ st) && decide (st ≤ 4096)
theorem stepOk_iff {st : Int} : stepOk st = true ↔ 1 ≤ st ∧ st ≤ 4096 := by simp [stepOk]
def stepBits (l : List Int) (st : Int) : List Int × Bool := if sig l = true then (if stepOk st = true then ((codeM false l 0 st 0).map (·.1), true) else ([], false)) else ([], false)
def stepValues (l : List Int) (st : Int) : List Int × Bool := if isBits l = true then (if stepOk st = true then toldM ((decM false l 0 st 0).map (·.1)) else ([], false)) else ([], false)
def stepsOfBits (l : List Int) (st : Int) : List Int × Bool := if isBits l = true then (if stepOk st = true then toldM ((decM false l 0 st 0).map (·.2)) else ([], false)) else ([], false)
def fixedValues (l : List Int) (st : Int) : List Int × Bool := if isBits l = true then (if stepOk st = true then toldM ((decM true l 0 st 0).map (·.1)) else ([], false)) else ([], false)
def stepGaps (l : List Int) (st : Int) : List Int × Bool := if sig l = true then (if stepOk st = true then toldM (gapM l ((codeM false l 0 st 0).map (·.2.1))) else ([], false)) else ([], false)
def wts (l : List Int) : Bool := decide (1 ≤ l.length) && decide (l.length ≤ 9) && l.all fun x => decide (-1000 ≤ x) && decide (x ≤ 1000)
theorem wts_len {l : List Int} (h : wts l = true) : 1 ≤ l.length ∧ l.length ≤ 9 := by
  simp [wts] at h
  exact ⟨h.1.1, h.1.2⟩
theorem wts_mem {l : List Int} (h : wts l = true) : ∀ x ∈ l, -1000 ≤ x ∧ x ≤ 1000 := by
  simp [wts] at h
  exact h.2
def ratio (p q : Int) : Bool := (decide (1 ≤ p) && decide (p ≤ 8)) && (decide (1 ≤ q) && decide (q ≤ 8))
theorem ratio_iff {p q : Int} : ratio p q = true ↔ (1 ≤ p ∧ p ≤ 8) ∧ (1 ≤ q ∧ q ≤ 8) := by simp [ratio]
def rsOk (h l : List Int) (p q : Int) : Bool := wts h && ((sig l && ratio p q) && decide ((l.length : Int) * p ≤ 64))
def peakM : List Int → Nat → Nat
  | [], m => m
  | x :: t, m => peakM t (max m x.natAbs)

def cv : List Int → List Int → Nat → Int
  | [], _, _ => 0
  | w :: _, s, 0 => w * s.getD 0 0
  | w :: h, s, n + 1 => w * s.getD (n + 1) 0 + cv h s n
def Lf (f : Nat → Int) (N : Nat) : List Int := (List.range N).map f
theorem Lf_length (f : Nat → Int) (N : Nat) : (Lf f N).length = N := by simp [Lf]
theorem rd_Lf (f : Nat → Int) (N i : Nat) (h : i < N) : rd (Lf f N) (i : Int) = f i := by
  simp [rd, Lf, h]
theorem set_Lf (f : Nat → Int) (N i : Nat) (v : Int) : (Lf f N).set i v = Lf (fun n => if n = i then v else f n) N := by
  apply List.ext_getElem
  · simp [Lf]
  · intro n h1 h2
    simp [Lf, List.getElem_set]
    by_cases c : i = n
    · simp [c]
    · rw [if_neg c, if_neg (fun h => c h.symm)]
theorem Lf_congr {f g : Nat → Int} {N : Nat} (h : ∀ n, n < N → f n = g n) : Lf f N = Lf g N := by
  apply List.ext_getElem
  · simp [Lf]
  · intro n h1 h2
    simp [Lf] at h1 ⊢
    exact h n h1
theorem cv_snoc (s : List Int) (w : Int) : ∀ (p : List Int) (n : Nat), cv (p ++ [w]) s n = cv p s n + (if p.length ≤ n then w * s.getD (n - p.length) 0 else 0)
  | [], 0 => by simp [cv]
  | [], n + 1 => by simp [cv]
  | a :: p, 0 => by simp [cv]
  | a :: p, n + 1 => by
    simp only [List.cons_append, cv, cv_snoc s w p n, List.length_cons, Nat.add_le_add_iff_right, Nat.add_sub_add_right]
    omega
theorem getD_bd {s : List Int} {a M : Int} (hM : 0 ≤ M) (h : ∀ x ∈ s, -M ≤ a * x ∧ a * x ≤ M) (n : Nat) : -M ≤ a * s.getD n 0 ∧ a * s.getD n 0 ≤ M := by
  rw [List.getD_eq_getElem?_getD]
  by_cases c : n < s.length
  · rw [List.getElem?_eq_getElem c]
    exact h _ (List.getElem_mem c)
  · rw [List.getElem?_eq_none (by omega)]
    simp
    omega
theorem cv_bd {s : List Int} {M : Int} (hM : 0 ≤ M) : ∀ (h : List Int) (n : Nat), (∀ a ∈ h, ∀ x ∈ s, -M ≤ a * x ∧ a * x ≤ M) → -(h.length * M) ≤ cv h s n ∧ cv h s n ≤ h.length * M
  | [], n, hb => by simp [cv]
  | a :: h, 0, hb => by
    have h1 := getD_bd hM (hb a (by simp)) 0
    have h2 : 0 ≤ (h.length : Int) * M := Int.mul_nonneg (by omega) hM
    simp only [cv, List.length_cons, Int.natCast_add, Int.add_mul]
    omega
  | a :: h, n + 1, hb => by
    have h1 := getD_bd hM (hb a (by simp)) (n + 1)
    have h2 := cv_bd hM h n (fun b hbm => hb b (by simp [hbm]))
    simp only [cv, List.length_cons, Int.natCast_add, Int.add_mul]
    omega
def conv (h s : List Int) : List Int := if s = [] then [] else Lf (cv h s) (h.length + s.length - 1)
theorem conv_length (h s : List Int) (hs : s ≠ []) : (conv h s).length = h.length + s.length - 1 := by
  rw [conv, if_neg hs, Lf_length]
/-- what stands in the list when the weights p are done, and of the weight w the samples q -/
def cvi (p q s : List Int) (w : Int) (n : Nat) : Int := cv p s n + (if p.length ≤ n ∧ n - p.length < q.length then w * s.getD (n - p.length) 0 else 0)
theorem cvi_nil (p s : List Int) (w : Int) : cvi p [] s w = cv p s := by
  funext n
  simp [cvi]
theorem cvi_all (p s : List Int) (w : Int) (n : Nat) : cvi p s s w n = cv (p ++ [w]) s n := by
  rw [cv_snoc, cvi]
  by_cases c : p.length ≤ n
  · by_cases d : n - p.length < s.length
    · rw [if_pos ⟨c, d⟩, if_pos c]
    · rw [if_neg (fun h => d h.2), if_pos c, List.getD_eq_getElem?_getD, List.getElem?_eq_none (by omega)]
      simp
  · rw [if_neg (fun h => c h.1), if_neg c]
theorem getD_mid (q t : List Int) (x : Int) : (q ++ x :: t).getD q.length 0 = x := by simp
theorem cvi_step (p q t : List Int) (w x : Int) (n : Nat) : (if n = p.length + q.length then cvi p q (q ++ x :: t) w n + w * x else cvi p q (q ++ x :: t) w n) = cvi p (q ++ [x]) (q ++ x :: t) w n := by
  unfold cvi
  by_cases c : n = p.length + q.length
  · subst c
    have e : p.length + q.length - p.length = q.length := by omega
    rw [if_pos rfl, e, getD_mid, if_neg (by omega), if_pos ⟨by omega, by simp⟩]
    omega
  · rw [if_neg c]
    by_cases d : p.length ≤ n ∧ n - p.length < q.length
    · rw [if_pos d, if_pos ⟨d.1, by simp; omega⟩]
    · rw [if_neg d, if_neg (fun h => d ⟨h.1, by have := h.2; simp at this; omega⟩)]
theorem Lf_succ (f : Nat → Int) (n : Nat) : Lf f (n + 1) = Lf f n ++ [f n] := by simp [Lf, List.range_succ]
def dropN (len rate first : Nat) : Nat := (len - first + rate - 1) / rate
theorem dropN_lt {len rate first j : Nat} (hr : 1 ≤ rate) : j < dropN len rate first ↔ first + j * rate < len := by
  unfold dropN
  rw [Nat.lt_iff_add_one_le, Nat.le_div_iff_mul_le (by omega), Nat.add_mul]
  omega
def dropM (l : List Int) (rate first : Nat) : List Int := Lf (fun j => l.getD (first + j * rate) 0) (dropN l.length rate first)
theorem dropM_length (l : List Int) (rate first : Nat) : (dropM l rate first).length = dropN l.length rate first := Lf_length _ _
theorem dropN_le {len rate first : Nat} (hr : 1 ≤ rate) : dropN len rate first ≤ len := by
  apply Nat.le_of_not_lt
  intro h
  have := (dropN_lt hr).1 h
  have h2 : len * 1 ≤ len * rate := Nat.mul_le_mul_left len hr
  omega
def stuffM (p : Nat) : List Int → List Int
  | [] => []
  | x :: t => (x :: List.replicate (p - 1) 0) ++ stuffM p t
theorem stuffM_length (p : Nat) (hp : 1 ≤ p) : ∀ l : List Int, (stuffM p l).length = l.length * p
  | [] => by simp [stuffM]
  | x :: t => by
    simp only [stuffM, List.length_append, List.length_cons, List.length_replicate, stuffM_length p hp t, Nat.add_mul]
    omega
theorem stuffM_snoc (p : Nat) (x : Int) : ∀ l : List Int, stuffM p (l ++ [x]) = stuffM p l ++ (x :: List.replicate (p - 1) 0)
  | [] => by simp [stuffM]
  | y :: t => by simp [stuffM, stuffM_snoc p x t]
theorem rd_getD (l : List Int) (i : Nat) : rd l (i : Int) = l.getD i 0 := by simp [rd]
theorem stuffM_sig (p : Nat) : ∀ l : List Int, (∀ x ∈ l, -100000 ≤ x ∧ x ≤ 100000) → ∀ x ∈ stuffM p l, -100000 ≤ x ∧ x ≤ 100000
  | [], _, x, h => by simp [stuffM] at h
  | y :: t, hl, x, h => by
    simp only [stuffM, List.mem_append, List.mem_cons, List.mem_replicate] at h
    rcases h with (rfl | ⟨_, rfl⟩) | h
    · exact hl _ (by simp)
    · omega
    · exact stuffM_sig p t (fun z hz => hl z (by simp [hz])) x h
theorem sig_iff {l : List Int} : sig l = true ↔ l.length ≤ 64 ∧ ∀ x ∈ l, -100000 ≤ x ∧ x ≤ 100000 := by simp [sig]
theorem ediv_bd {x b : Int} (hb : 0 < b) (hx : -4611686018427387904 ≤ x ∧ x ≤ 4611686018427387904) : -4611686018427387905 ≤ x / b ∧ x / b ≤ 4611686018427387905 := by
  have h0 := Int.emod_nonneg x (show b ≠ 0 by omega)
  have h1 := Int.emod_lt_of_pos x hb
  have h2 := Int.emod_add_mul_ediv x b
  constructor
  · apply Int.not_lt.1
    intro h
    have : b * (x / b) ≤ 1 * (x / b) := Int.mul_le_mul_of_nonpos_right (by omega) (by omega)
    have h3 : b * (x / b) ≤ b * (-4611686018427387906) := Int.mul_le_mul_of_nonneg_left (by omega) (by omega)
    omega
  · apply Int.not_lt.1
    intro h
    have h3 : 1 * (x / b) ≤ b * (x / b) := Int.mul_le_mul_of_nonneg_right (by omega) (by omega)
    omega
def atM (s : List Int) (i : Int) : Int := if 0 ≤ i then s.getD i.toNat 0 else 0
theorem getD_all {l : List Int} {M : Int} (hM : 0 ≤ M) (h : ∀ x ∈ l, -M ≤ x ∧ x ≤ M) (n : Nat) : -M ≤ l.getD n 0 ∧ l.getD n 0 ≤ M := by
  rw [List.getD_eq_getElem?_getD]
  by_cases c : n < l.length
  · rw [List.getElem?_eq_getElem c]
    exact h _ (List.getElem_mem c)
  · rw [List.getElem?_eq_none (by omega)]
    simp
    omega

theorem laws_toIntS_l0 (l : List Int) (hl : l.length ≤ 140737488351232) : ∀ (t p : List Int), l = p ++ t → Ev (fun k => laws_toIntS.l0 k l (p ++ List.replicate t.length 0) (p.length : Int)) l
  | [], p, h => by
    apply Ev.step (f := fun _ => some l)
    · intro k
      subst h
      simp [laws_toIntS.l0]
    · exact Ev.now _
  | x :: t, p, h => by
    have e1 : (p.length : Int) < (l.length : Int) := by rw [h]; exact lt_mid p t x
    have e2 : rd l (p.length : Int) = x := by rw [h]; exact rd_mid p t x
    have e3 : wrap64 ((p.length : Int) + 1) = ((p ++ [x]).length : Int) := nx_mid p t x (h ▸ hl)
    have e4 : (p.length : Int) < ((p ++ List.replicate (x :: t).length 0 : List Int).length : Int) := by simp; omega
    have e5 : (p ++ List.replicate (x :: t).length 0 : List Int).set (p.length : Int).toNat x = (p ++ [x]) ++ List.replicate t.length 0 := by
      simp [List.replicate_succ]
    refine Ev.step (fun k => ?_) (laws_toIntS_l0 l hl t (p ++ [x]) (by simp [h]))
    simp only [laws_toIntS.l0, if_pos e1, if_pos (Int.natCast_nonneg _), if_pos e4, e2, e3, e5]
theorem laws_toIntS_ev (l : List Int) (hl : l.length ≤ 17592186044416) : Ev (fun k => laws_toIntS.f k l) l := by
  have h := laws_toIntS_l0 l (by omega) l [] rfl
  simp only [laws_toIntS.f]
  refine Ev.tt (Int.natCast_nonneg _) (Ev.tt ?_ ?_)
  · simp; omega
  · simpa using h

theorem laws_eqIntS_l0 (l m : List Int) (hl : l.length ≤ 140737488351232) : ∀ (t p u q : List Int), l = p ++ t → m = q ++ u → p.length = q.length → t.length = u.length → Ev (fun k => laws_eqIntS.l0 k l m (p.length : Int)) (t == u)
  | [], p, [], q, h, h', e, _ => by
    apply Ev.step (f := fun _ => some _)
    · intro k
      subst h
      simp [laws_eqIntS.l0]; rfl
    · exact Ev.now _
  | x :: t, p, y :: u, q, h, h', e, e' => by
    have e1 : (p.length : Int) < (l.length : Int) := by rw [h]; exact lt_mid p t x
    have e2 : rd l (p.length : Int) = x := by rw [h]; exact rd_mid p t x
    have e3 : wrap64 ((p.length : Int) + 1) = ((p ++ [x]).length : Int) := nx_mid p t x (h ▸ hl)
    have e4 : (p.length : Int) < (m.length : Int) := by rw [h', e]; exact lt_mid q u y
    have e5 : rd m (p.length : Int) = y := by rw [h', e]; exact rd_mid q u y
    by_cases c : x = y
    · refine Ev.to (Ev.step (fun k => ?_) (laws_eqIntS_l0 l m hl t (p ++ [x]) u (q ++ [y]) (by simp [h]) (by simp [h']) (by simp [e]) (by simpa using e'))) (by simp [c])
      simp only [laws_eqIntS.l0, if_pos e1, if_pos (Int.natCast_nonneg _), if_pos e4, e2, e3, e5, if_pos c]
    · refine Ev.to (Ev.step (fun k => ?_) (Ev.now false)) (by simp [c])
      simp only [laws_eqIntS.l0, if_pos e1, if_pos (Int.natCast_nonneg _), if_pos e4, e2, e3, e5, if_neg c]
theorem laws_eqIntS_ev (l m : List Int) (hl : l.length ≤ 140737488351232) : Ev (fun k => laws_eqIntS.f k l m) (l == m) := by
  simp only [laws_eqIntS.f]
  by_cases c : (l.length : Int) = (m.length : Int)
  · exact Ev.tt c (laws_eqIntS_l0 l m hl l [] m [] rfl rfl rfl (by omega))
  · refine Ev.ff c (Ev.to (Ev.now false) ?_)
    have : l ≠ m := fun h => c (by rw [h])
    simp [this]
theorem laws_eqIntS_self (l : List Int) (hl : l.length ≤ 140737488351232) : Ev (fun k => laws_eqIntS.f k l l) true := Ev.to (laws_eqIntS_ev l l hl) (by simp)

def marks : Nat → Int → List Int
  | 0, _ => []
  | n + 1, m => m :: marks n (m + 1)
theorem marks_length : ∀ (n : Nat) (m : Int), (marks n m).length = n
  | 0, _ => rfl
  | n + 1, m => by simp [marks, marks_length n]
theorem laws_markIntS_l0 : ∀ (t p : List Int) (m : Int), p.length + t.length ≤ 140737488351232 → 0 ≤ m → m + t.length ≤ 1000000000000000000 → Ev (fun k => laws_markIntS.l0 k (p ++ t) m (p.length : Int)) (m + t.length, p ++ marks t.length m)
  | [], p, m, h, h0, h1 => Ev.to (Ev.step (f := fun _ => some (m, p)) (fun k => by simp [laws_markIntS.l0]) (Ev.now _)) (by simp [marks])
  | x :: t, p, m, h, h0, h1 => by
    have e1 : (p.length : Int) < ((p ++ x :: t).length : Int) := lt_mid p t x
    simp only [List.length_cons] at h h1
    have e3 : wrap64 ((p.length : Int) + 1) = ((p ++ [m]).length : Int) := by
      simp
      exact w64 (by omega) (by omega)
    have e5 : (p ++ x :: t).set (p.length : Int).toNat m = (p ++ [m]) ++ t := by simp
    have e6 : wrap64 (m + 1) = m + 1 := w64 (by omega) (by omega)
    refine Ev.to (Ev.step (fun k => ?_) (laws_markIntS_l0 t (p ++ [m]) (m + 1) (by simp; omega) (by omega) (by omega))) ?_
    · simp only [laws_markIntS.l0, if_pos e1, if_pos (Int.natCast_nonneg _), e3, e5, e6]
    · simp [marks]; omega
theorem laws_markIntS_ev (l : List Int) (m : Int) (h : l.length ≤ 140737488351232) (h0 : 0 ≤ m) (h1 : m ≤ 100000000000000000) : Ev (fun k => laws_markIntS.f k l m) (m + l.length, marks l.length m) := by
  have h := laws_markIntS_l0 l [] m (by simpa using h) h0 (by omega)
  simpa [laws_markIntS.f] using h

theorem laws_heldIntS_l0 : ∀ (n : Nat) (l p : List Int) (m : Int), l = p ++ marks n m → l.length ≤ 140737488351232 → 0 ≤ m → m + n ≤ 1000000000000000000 → Ev (fun k => laws_heldIntS.l0 k l m (p.length : Int)) (m + n)
  | 0, l, p, m, h, hl, h0, h1 => Ev.to (Ev.step (f := fun _ => some m) (fun k => by subst h; simp [laws_heldIntS.l0, marks]) (Ev.now _)) (by simp)
  | n + 1, l, p, m, h, hl, h0, h1 => by
    simp only [marks] at h
    have e1 : (p.length : Int) < (l.length : Int) := by rw [h]; exact lt_mid p _ _
    have e2 : rd l (p.length : Int) = m := by rw [h]; exact rd_mid p _ _
    have e3 : wrap64 ((p.length : Int) + 1) = ((p ++ [m]).length : Int) := nx_mid p _ m (h ▸ hl)
    have e6 : wrap64 (m + 1) = m + 1 := w64 (by omega) (by omega)
    refine Ev.to (Ev.step (fun k => ?_) (laws_heldIntS_l0 n l (p ++ [m]) (m + 1) (by simp [h]) hl (by omega) (by omega))) (by omega)
    simp only [laws_heldIntS.l0, if_pos e1, if_pos (Int.natCast_nonneg _), e2, if_true, e3, e6]
theorem laws_heldIntS_ev (n : Nat) (h : n ≤ 140737488351232) : Ev (fun k => laws_heldIntS.f k (marks n 1) 1) (1 + n) := by
  have h := laws_heldIntS_l0 n (marks n 1) [] 1 rfl (by simpa [marks_length] using h) (by omega) (by omega)
  simpa [laws_heldIntS.f] using h

theorem spec_l1In_eq (a b c : Int) : spec_l1In.f a b c = some (decide (b ≤ a) && decide (a ≤ c)) := by
  unfold spec_l1In.f
  by_cases h : b ≤ a <;> simp [h]

theorem impl_in_eq (a b c : Int) : impl_in.f a b c = some (decide (b ≤ a) && decide (a ≤ c)) := by
  unfold impl_in.f
  by_cases h : b ≤ a <;> simp [h]

theorem spec_l1All_l0 (lo hi : Int) (l : List Int) (hl : l.length ≤ 140737488351232) : ∀ (t p : List Int), l = p ++ t → Ev (fun k => spec_l1All.l0 k lo hi l (l.length : Int) (p.length : Int)) (t.all fun x => decide (lo ≤ x) && decide (x ≤ hi))
  | [], p, h => by
    apply Ev.step (f := fun _ => some _)
    · intro k
      subst h
      simp [spec_l1All.l0]; rfl
    · exact Ev.now _
  | x :: t, p, h => by
    have e1 : (p.length : Int) < (l.length : Int) := by rw [h]; exact lt_mid p t x
    have e2 : rd l (p.length : Int) = x := by rw [h]; exact rd_mid p t x
    have e3 : wrap64 ((p.length : Int) + 1) = ((p ++ [x]).length : Int) := nx_mid p t x (h ▸ hl)
    by_cases c : (decide (lo ≤ x) && decide (x ≤ hi)) = true
    · refine Ev.to (Ev.step (fun k => ?_) (spec_l1All_l0 lo hi l hl t (p ++ [x]) (by simp [h]))) (by rw [List.all_cons, c, Bool.true_and])
      simp only [spec_l1All.l0, if_pos e1, if_pos (Int.natCast_nonneg _), e2, e3, spec_l1In_eq, Option.bind_some, if_pos c]
    · refine Ev.to (Ev.step (fun k => ?_) (Ev.now false)) (by rw [List.all_cons, Bool.eq_false_iff.mpr c, Bool.false_and])
      simp only [spec_l1All.l0, if_pos e1, if_pos (Int.natCast_nonneg _), e2, e3, spec_l1In_eq, Option.bind_some, if_neg c]
theorem spec_l1All_ev (l : List Int) (lo hi : Int) (hl : l.length ≤ 140737488351232) : Ev (fun k => spec_l1All.f k l lo hi) (l.all fun x => decide (lo ≤ x) && decide (x ≤ hi)) := by
  simpa [spec_l1All.f] using spec_l1All_l0 lo hi l hl l [] rfl

theorem spec_weGood_ev (l : List Int) (hl : l.length ≤ 140737488351232) : Ev (fun k => spec_weGood.f k l) (wts l) := by
  simp only [spec_weGood.f]
  refine Ev.dbind (spec_l1In_eq _ 1 9) ?_
  by_cases c : (decide (1 ≤ (l.length : Int)) && decide ((l.length : Int) ≤ 9)) = true
  · refine Ev.tt c (Ev.bind (spec_l1All_ev l (-1000) 1000 hl) (Ev.to (Ev.now _) ?_))
    simp at c
    simp [wts]; omega
  · refine Ev.ff c (Ev.to (Ev.now _) ?_)
    simp at c
    simp [wts]; omega

theorem impl_isWeights_c1_eq (x : Int) : impl_isWeights_c1.f x = some (!(decide (-1000 ≤ x) && decide (x ≤ 1000))) := by
  unfold impl_isWeights_c1.f
  rw [impl_in_eq]
  rfl
theorem indexWeights_l0 (l : List Int) (hl : l.length ≤ 140737488351232) : ∀ (t p : List Int), l = p ++ t → ∃ r, Ev (fun k => slices_IndexFunc_int_int_impl_isWeights_c1.l0 k l (l.length : Int) (p.length : Int)) r ∧ (decide (r ≥ 0) = !(t.all fun x => decide (-1000 ≤ x) && decide (x ≤ 1000)))
  | [], p, h => by
    refine ⟨-1, Ev.step (f := fun _ => some (-1)) ?_ (Ev.now _), by simp⟩
    intro k
    subst h
    simp [slices_IndexFunc_int_int_impl_isWeights_c1.l0]
  | x :: t, p, h => by
    have e1 : (p.length : Int) < (l.length : Int) := by rw [h]; exact lt_mid p t x
    have e2 : rd l (p.length : Int) = x := by rw [h]; exact rd_mid p t x
    have e3 : wrap64 ((p.length : Int) + 1) = ((p ++ [x]).length : Int) := nx_mid p t x (h ▸ hl)
    by_cases c : (decide (-1000 ≤ x) && decide (x ≤ 1000)) = true
    · obtain ⟨r, h1, h2⟩ := indexWeights_l0 l hl t (p ++ [x]) (by simp [h])
      refine ⟨r, Ev.step (fun k => ?_) h1, by rw [h2, List.all_cons, c, Bool.true_and]⟩
      simp only [slices_IndexFunc_int_int_impl_isWeights_c1.l0, if_pos e1, if_pos (Int.natCast_nonneg _), e2, e3, impl_isWeights_c1_eq, c, Option.bind_some, Bool.not_true]
      rfl
    · have c := Bool.eq_false_iff.mpr c
      refine ⟨(p.length : Int), Ev.step (fun k => ?_) (Ev.now _), by rw [List.all_cons, c]; simp⟩
      simp only [slices_IndexFunc_int_int_impl_isWeights_c1.l0, if_pos e1, if_pos (Int.natCast_nonneg _), e2, e3, impl_isWeights_c1_eq, c, Option.bind_some, Bool.not_false]
      rfl
theorem impl_isWeights_ev (l : List Int) (hl : l.length ≤ 140737488351232) : Ev (fun k => impl_isWeights.f k l) (wts l) := by
  simp only [impl_isWeights.f]
  refine Ev.dbind (impl_in_eq _ 1 9) ?_
  by_cases c : (decide (1 ≤ (l.length : Int)) && decide ((l.length : Int) ≤ 9)) = true
  · obtain ⟨r, h1, h2⟩ := indexWeights_l0 l hl l [] rfl
    refine Ev.tt c (Ev.bind (a := decide (r ≥ 0)) ?_ (Ev.to (Ev.now _) ?_))
    · simp only [slices_ContainsFunc_int_int_impl_isWeights_c1.f, slices_IndexFunc_int_int_impl_isWeights_c1.f]
      exact Ev.bind h1 (Ev.now _)
    · rw [h2]
      simp at c
      simp [wts]; omega
  · refine Ev.ff c (Ev.to (Ev.now _) ?_)
    simp at c
    simp [wts]; omega

theorem impl_isRatio_eq (p q : Int) : impl_isRatio.f p q = some (ratio p q) := by
  unfold impl_isRatio.f ratio
  rw [impl_in_eq]
  simp only [Option.bind_some, impl_in_eq]
  by_cases c : (decide (1 ≤ p) && decide (p ≤ 8)) = true
  · rw [if_pos c, c, Bool.true_and]
  · rw [if_neg c, Bool.eq_false_iff.mpr c, Bool.false_and]

theorem impl_drop_l0 (l : List Int) (rate first : Nat) (hr : 1 ≤ rate) (hr8 : rate ≤ 1000) (hl : l.length ≤ 100000000) : ∀ (d j : Nat), j + d = dropN l.length rate first → first + j * rate ≤ 1000000000 →
    Ev (fun k => impl_drop.l0 k l (rate : Int) (Lf (fun j => l.getD (first + j * rate) 0) j) ((first + j * rate : Nat) : Int)) (dropM l rate first)
  | 0, j, hj, hb => by
    have hn : ¬ first + j * rate < l.length := fun h => by
      have := (dropN_lt (len := l.length) (first := first) hr).2 h
      omega
    have ej : j = dropN l.length rate first := hj
    refine Ev.to (Ev.step (f := fun _ => some _) (fun k => ?_) (Ev.now (Lf (fun j => l.getD (first + j * rate) 0) j))) (by rw [dropM, ← ej])
    simp only [impl_drop.l0]
    rw [if_neg (fun h => hn (Int.ofNat_lt.1 h))]
  | d + 1, j, hj, hb => by
    have hlt : first + j * rate < l.length := (dropN_lt hr).1 (by omega)
    have e3 : wrap64 (((first + j * rate : Nat) : Int) + (rate : Int)) = ((first + (j + 1) * rate : Nat) : Int) := by
      rw [w64_nat _ _ (by omega), Nat.add_mul, Nat.one_mul, Nat.add_assoc]
    have hbd : first + (j + 1) * rate ≤ 1000000000 := by rw [Nat.add_mul]; omega
    refine Ev.step (fun k => ?_) (impl_drop_l0 l rate first hr hr8 hl d (j + 1) (by omega) hbd)
    simp only [impl_drop.l0]
    rw [if_pos (Int.ofNat_lt.2 hlt), if_pos (Int.natCast_nonneg _), Lf_length, if_pos (by have := dropN_le (len := l.length) (first := first) hr; omega), rd_getD, e3, Lf_succ]
theorem impl_drop_ev (l : List Int) (rate first : Nat) (hr : 1 ≤ rate) (hr8 : rate ≤ 1000) (hl : l.length ≤ 100000000) (hf : first ≤ 1000000) : Ev (fun k => impl_drop.f k l (rate : Int) (first : Int)) (dropM l rate first) := by
  have h := impl_drop_l0 l rate first hr hr8 hl (dropN l.length rate first) 0 (by omega) (by omega)
  simpa [impl_drop.f, Lf] using h

/-- A number shifted: down, to the nearest one, towards 0. -/
def shM (x b mode : Int) : Int := if mode = 1 ∧ b ≤ 2 * (x % b) ∧ 0 < x % b then x / b + 1 else if mode = 2 ∧ x < 0 ∧ 0 < x % b then x / b + 1 else x / b
theorem div_uniq {x b q r : Int} (h : x = q * b + r) (h0 : 0 ≤ r) (h1 : r < b) : x / b = q := by
  have hb : 0 < b := by omega
  exact ((Int.ediv_emod_unique hb).2 ⟨by rw [h, Int.mul_comm]; omega, h0, h1⟩).1
theorem pow2_pos (s : Nat) : (0 : Int) < 2 ^ s := Int.pow_pos (by decide)
theorem pow2_le {s : Nat} (h : s ≤ 20) : (2 : Int) ^ s ≤ 1048576 := by
  have h1 : (2 : Nat) ^ s ≤ 2 ^ 20 := Nat.pow_le_pow_right (by decide) h
  have h3 : (2 : Int) ^ s = (((2 : Nat) ^ s : Nat) : Int) := by simp
  rw [h3]
  have h2 : (2 : Nat) ^ 20 = 1048576 := by decide
  omega
theorem shl_one {s : Nat} (h : s ≤ 20) : shl .i64 1 (s : Int) = 2 ^ s := by
  unfold shl
  have h1 : min ((s : Int)).toNat IntKind.i64.bits = s := by
    simp [IntKind.bits]; omega
  rw [h1, Int.one_mul, IntKind.wrap_i64]
  have := pow2_pos s
  have := pow2_le h
  omega
theorem shl_mul {s : Nat} (h : s ≤ 20) (y : Int) (h1 : -9223372036854775808 ≤ y * 2 ^ s) (h2 : y * 2 ^ s ≤ 9223372036854775807) : shl .i64 y (s : Int) = y * 2 ^ s := by
  unfold shl
  have e : min ((s : Int)).toNat IntKind.i64.bits = s := by
    simp [IntKind.bits]; omega
  rw [e, IntKind.wrap_i64]
  omega
theorem shr_div {s : Nat} (h : s ≤ 20) (y : Int) : shr .i64 y (s : Int) = y / 2 ^ s := by
  unfold shr
  have e : min ((s : Int)).toNat IntKind.i64.bits = s := by
    simp [IntKind.bits]; omega
  rw [e]
theorem mod_eq (x b : Int) : x = (x / b) * b + x % b := by
  have := Int.emod_add_mul_ediv x b
  rw [Int.mul_comm] at this
  omega

def numOk (x : Int) : Bool := decide (-1000000000000 ≤ x) && decide (x ≤ 1000000000000)
def modeOk (s mode : Int) : Bool := (decide (0 ≤ s) && decide (s ≤ 20)) && (decide (0 ≤ mode) && decide (mode ≤ 2))
theorem numOk_iff {x : Int} : numOk x = true ↔ -1000000000000 ≤ x ∧ x ≤ 1000000000000 := by simp [numOk]
theorem modeOk_iff {s m : Int} : modeOk s m = true ↔ (0 ≤ s ∧ s ≤ 20) ∧ (0 ≤ m ∧ m ≤ 2) := by simp [modeOk]

def phS (s : List Int) : List Int → Int → Int
  | [], _ => 0
  | x :: t, i => x * atM s i + phS s t (i - 1)
def phL (h : List Int) (p : Nat) : List (List Int) := (List.range p).map (dropM h p)
def phOut (h s : List Int) (p q i : Nat) : Int := phS s (dropM h p (i * q % p)) ((i * q / p : Nat) : Int)
def byPh (h s : List Int) (p q : Nat) : List Int := Lf (phOut h s p q) (dropN (s.length * p) q 0)
theorem phS_neg (s : List Int) : ∀ (t : List Int) (i : Int), i < 0 → phS s t i = 0
  | [], _, _ => rfl
  | x :: t, i, h => by
    rw [phS, atM, if_neg (by omega), phS_neg s t (i - 1) (by omega)]
    simp
theorem nat_eq_lt {a b : Nat} (h : ∀ j, j < a ↔ j < b) : a = b := by
  have h1 := h a
  have h2 := h b
  omega
theorem dropM_snoc (l : List Int) (x : Int) (p k : Nat) (hk : k < p) : dropM (l ++ [x]) p k = if l.length % p = k then dropM l p k ++ [x] else dropM l p k := by
  have hp : 0 < p := by omega
  have hg : ∀ n, n < l.length → (l ++ [x]).getD n 0 = l.getD n 0 := by
    intro n hn
    simp [List.getD_eq_getElem?_getD, List.getElem?_append_left hn]
  by_cases c : l.length % p = k
  · rw [if_pos c]
    have hm := Nat.mod_add_div l.length p
    rw [c, Nat.mul_comm] at hm
    have e1 : dropN l.length p k = l.length / p := by
      apply nat_eq_lt
      intro j
      have := (Nat.mul_lt_mul_right hp : j * p < l.length / p * p ↔ j < l.length / p)
      rw [dropN_lt (by omega)]
      omega
    have e2 : dropN (l ++ [x]).length p k = l.length / p + 1 := by
      apply nat_eq_lt
      intro j
      have := (Nat.mul_le_mul_right_iff hp : j * p ≤ l.length / p * p ↔ j ≤ l.length / p)
      have e : (l ++ [x]).length = l.length + 1 := by simp
      rw [dropN_lt (by omega), Nat.lt_add_one_iff, e]
      omega
    rw [dropM, dropM, e1, e2, Lf_succ]
    congr 1
    · apply Lf_congr
      intro j hj
      apply hg
      have := (Nat.mul_lt_mul_right hp).2 hj
      omega
    · rw [hm, getD_mid]
  · rw [if_neg c]
    have e : dropN (l ++ [x]).length p k = dropN l.length p k := by
      apply nat_eq_lt
      intro j
      rw [dropN_lt (by omega), dropN_lt (by omega)]
      have : k + j * p ≠ l.length := by
        intro h
        apply c
        rw [← h, Nat.add_mul_mod_self_right, Nat.mod_eq_of_lt hk]
      simp
      omega
    rw [dropM, dropM, e]
    apply Lf_congr
    intro j hj
    apply hg
    exact (dropN_lt (by omega)).1 hj
theorem phL_length (h : List Int) (p : Nat) : (phL h p).length = p := by simp [phL]
theorem rd_phL (h : List Int) (p j : Nat) (hj : j < p) : rd_L1 (phL h p) (j : Int) = dropM h p j := by
  simp [rd_L1, phL, hj]
theorem phL_snoc (l : List Int) (x : Int) (p : Nat) (hp : 0 < p) : (phL l p).set (l.length % p) (dropM l p (l.length % p) ++ [x]) = phL (l ++ [x]) p := by
  apply List.ext_getElem
  · simp [phL]
  · intro n h1 h2
    have hn : n < p := by simpa [phL] using h2
    simp only [List.getElem_set, phL, List.getElem_map, List.getElem_range]
    rw [dropM_snoc l x p n hn]
    by_cases c : l.length % p = n
    · rw [if_pos c, if_pos c, c]
    · rw [if_neg c, if_neg c]
theorem phL_nil (p : Nat) (hp : 0 < p) : List.replicate p ([] : List Int) = phL [] p := by
  apply List.ext_getElem
  · simp [phL]
  · intro n h1 h2
    simp only [List.getElem_replicate, phL, List.getElem_map, List.getElem_range]
    have : dropN 0 p n = 0 := by
      unfold dropN
      rw [Nat.zero_sub, Nat.zero_add]
      exact Nat.div_eq_of_lt (by omega)
    simp [dropM, this, Lf]
theorem dropM_bd {l : List Int} {M : Int} (hM : 0 ≤ M) (h : ∀ x ∈ l, -M ≤ x ∧ x ≤ M) (p k : Nat) : ∀ x ∈ dropM l p k, -M ≤ x ∧ x ≤ M := by
  intro x hx
  simp only [dropM, Lf, List.mem_map] at hx
  obtain ⟨j, _, rfl⟩ := hx
  exact getD_all hM h _
theorem prod_bd {a x : Int} (ha : -1000 ≤ a ∧ a ≤ 1000) (hx : -100000 ≤ x ∧ x ≤ 100000) : -100000000 ≤ a * x ∧ a * x ≤ 100000000 := by
  have h1 : (a.natAbs * x.natAbs : Nat) ≤ 1000 * 100000 := Nat.mul_le_mul (by omega) (by omega)
  have h2 := Int.natAbs_mul a x
  omega
theorem byPh_len (h s : List Int) (p q : Nat) (hs : s.length * p ≤ 64) (hq : 1 ≤ q) : (byPh h s p q).length ≤ 64 := by
  rw [byPh, Lf_length]
  have := dropN_le (len := s.length * p) (rate := q) (first := 0) hq
  omega

theorem spec_rsPhases_l0 (h : List Int) (p : Nat) (hp : 0 < p) (hl : h.length ≤ 100000) : ∀ (t q : List Int), h = q ++ t → Ev (fun k => spec_rsPhases.l0 k (p : Int) (phL q p) h (h.length : Int) (q.length : Int)) (phL h p)
  | [], q, e => by
    have e' : h = q := by simpa using e
    subst e'
    refine Ev.step (f := fun _ => some (phL h p)) (fun k => ?_) (Ev.now _)
    simp only [spec_rsPhases.l0]
    rw [if_neg (by omega)]
  | x :: t, q, e => by
    subst e
    have hq : q.length ≤ 100000 := by simp at hl; omega
    have hm := Nat.mod_lt q.length hp
    have hd := dropN_le (len := q.length) (rate := p) (first := q.length % p) hp
    refine Ev.step (fun k => ?_) (spec_rsPhases_l0 (q ++ x :: t) p hp hl t (q ++ [x]) (by simp))
    simp only [spec_rsPhases.l0]
    rw [if_pos (lt_mid q t x), if_pos (Int.natCast_nonneg _), if_pos (lt_mid q t x), if_neg (by omega), tm, if_pos (Int.natCast_nonneg _), phL_length, if_pos (Int.ofNat_lt.2 hm), rd_phL _ _ _ hm, dropM_length, if_pos (by omega), Int.toNat_natCast, rd_mid, phL_snoc _ _ _ hp, w64_suc q x (by omega)]
theorem spec_rsPhases_ev (h : List Int) (p : Nat) (hp : 0 < p) (hp8 : p ≤ 1000) (hl : h.length ≤ 100000) : Ev (fun k => spec_rsPhases.f k h (p : Int)) (phL h p) := by
  simp only [spec_rsPhases.f, Int.toNat_natCast]
  refine Ev.tt (Int.natCast_nonneg _) (Ev.tt (by omega) ?_)
  rw [phL_nil p hp]
  exact spec_rsPhases_l0 h p hp hl h [] rfl

theorem impl_phasesOf_l0 (h : List Int) (p : Nat) (hp : 1 ≤ p) (hp8 : p ≤ 8) (hl : h.length ≤ 100000) : ∀ (d j : Nat), j + d = p → Ev (fun k => impl_phasesOf.l0 k h (p : Int) ((List.range j).map (dropM h p)) (p : Int) (j : Int)) (phL h p)
  | 0, j, e => by
    have e' : j = p := e
    subst e'
    refine Ev.step (f := fun _ => some (phL h j)) (fun k => ?_) (Ev.now _)
    simp only [impl_phasesOf.l0]
    rw [if_neg (by omega)]
    rfl
  | d + 1, j, e => by
    refine Ev.step (fun k => by simp only [impl_phasesOf.l0]; rfl) ?_
    refine Ev.tt (by omega) (Ev.bind (impl_drop_ev h p j (by omega) (by omega) (by omega) (by omega)) ?_)
    refine Ev.tt (by rw [List.length_map, List.length_range]; omega) ?_
    have e1 : wrap64 ((j : Int) + 1) = ((j + 1 : Nat) : Int) := w64_nat j 1 (by omega)
    rw [e1]
    have := impl_phasesOf_l0 h p hp hp8 hl d (j + 1) (by omega)
    simpa [List.range_succ] using this
theorem impl_phasesOf_ev (h : List Int) (p : Nat) (hp : 1 ≤ p) (hp8 : p ≤ 8) (hl : h.length ≤ 100000) : Ev (fun k => impl_phasesOf.f k h (p : Int)) (phL h p) := by
  have := impl_phasesOf_l0 h p hp hp8 hl p 0 (by omega)
  simpa [impl_phasesOf.f] using this

theorem rdI_midq (p t : List (List Int)) (x : List Int) : rd_L1 (p ++ x :: t) (p.length : Int) = x := by simp [rd_L1]
theorem laws_eqIntSS_l0 (l : List (List Int)) (hl : l.length ≤ 100000000) (hx : ∀ x ∈ l, x.length ≤ 100000000) : ∀ (t p : List (List Int)), l = p ++ t → Ev (fun k => laws_eqIntSS.l0 k l l (p.length : Int)) true
  | [], p, h => by
    apply Ev.step (f := fun _ => some true)
    · intro k
      subst h
      simp [laws_eqIntSS.l0]
    · exact Ev.now _
  | x :: t, p, h => by
    have e1 : (p.length : Int) < (l.length : Int) := by rw [h]; exact lt_mid p t x
    have e2 : rd_L1 l (p.length : Int) = x := by rw [h]; exact rdI_midq p t x
    have e3 : wrap64 ((p.length : Int) + 1) = ((p ++ [x]).length : Int) := nx_mid p t x (by rw [← h]; omega)
    have hxx := hx x (by rw [h]; simp)
    refine Ev.step (fun k => by simp only [laws_eqIntSS.l0]; rfl) ?_
    rw [e2, e3]
    exact Ev.tt e1 (Ev.tt (Int.natCast_nonneg _) (Ev.tt e1 (Ev.bind (laws_eqIntS_self x (by omega)) (Ev.tt rfl (laws_eqIntSS_l0 l hl hx t (p ++ [x]) (by simp [h]))))))
theorem laws_eqIntSS_self (l : List (List Int)) (hl : l.length ≤ 100000000) (hx : ∀ x ∈ l, x.length ≤ 100000000) : Ev (fun k => laws_eqIntSS.f k l l) true := by
  simp only [laws_eqIntSS.f]
  exact Ev.tt (by trivial) (laws_eqIntSS_l0 l hl hx l [] rfl)

def marksS : List (List Int) → Int → List (List Int)
  | [], _ => []
  | x :: t, m => marks x.length m :: marksS t (m + (x.length : Int))
def totL : List (List Int) → Nat
  | [] => 0
  | x :: t => x.length + totL t
theorem marksS_length : ∀ (l : List (List Int)) (m : Int), (marksS l m).length = l.length
  | [], _ => rfl
  | x :: t, m => by simp [marksS, marksS_length t]
theorem totL_le : ∀ (l : List (List Int)), (∀ x ∈ l, x.length ≤ 100000000) → totL l ≤ 100000000 * l.length
  | [], _ => by simp [totL]
  | x :: t, h => by
    have h1 := totL_le t (fun y hy => h y (by simp [hy]))
    have h2 := h x (by simp)
    simp only [totL, List.length_cons]
    omega
theorem laws_markIntSS_l0 : ∀ (t p : List (List Int)) (m : Int), p.length + t.length ≤ 100000000 → (∀ x ∈ t, x.length ≤ 100000000) → 0 ≤ m → m + (totL t : Int) ≤ 100000000000000000 →
    Ev (fun k => laws_markIntSS.l0 k (p ++ t) m (p.length : Int)) (m + (totL t : Int), p ++ marksS t m)
  | [], p, m, h, hx, h0, h1 => Ev.to (Ev.step (f := fun _ => some (m, p)) (fun k => by simp [laws_markIntSS.l0]) (Ev.now _)) (by simp [marksS, totL])
  | x :: t, p, m, h, hx, h0, h1 => by
    have e1 : (p.length : Int) < ((p ++ x :: t).length : Int) := lt_mid p t x
    have e2 : rd_L1 (p ++ x :: t) (p.length : Int) = x := by simp [rd_L1]
    simp only [List.length_cons] at h
    simp only [totL] at h1
    have hxx := hx x (by simp)
    have e3 : wrap64 ((p.length : Int) + 1) = ((p ++ [marks x.length m]).length : Int) := by
      rw [w64 (n := (p.length : Int) + 1) (by omega) (by omega)]
      simp
    have e5 : (p ++ x :: t).set (p.length : Int).toNat (marks x.length m) = (p ++ [marks x.length m]) ++ t := by simp
    have ih := laws_markIntSS_l0 t (p ++ [marks x.length m]) (m + (x.length : Int)) (by simp; omega) (fun y hy => hx y (by simp [hy])) (by omega) (by omega)
    refine Ev.to (Ev.step (fun k => by simp only [laws_markIntSS.l0]; rfl) ?_) (show (m + (x.length : Int) + (totL t : Int), (p ++ [marks x.length m]) ++ marksS t (m + (x.length : Int))) = _ by simp [marksS, totL]; omega)
    rw [e2, e3]
    refine Ev.tt e1 (Ev.tt (Int.natCast_nonneg _) (Ev.bind (laws_markIntS_ev x m (by omega) h0 (by omega)) ?_))
    rw [e5]
    exact ih
theorem laws_markIntSS_ev (l : List (List Int)) (hl : l.length ≤ 100000000) (hx : ∀ x ∈ l, x.length ≤ 100000000) (m : Int) (h0 : 0 ≤ m) (h1 : m ≤ 10000000000000000) : Ev (fun k => laws_markIntSS.f k l m) (m + (totL l : Int), marksS l m) := by
  have ht := totL_le l hx
  have h2 : (totL l : Int) ≤ 10000000000000000 := by omega
  have h := laws_markIntSS_l0 l [] m (by simpa using hl) hx h0 (by omega)
  simpa [laws_markIntSS.f] using h

theorem laws_heldIntSS_l0 : ∀ (t l p : List (List Int)) (m : Int), l = p ++ marksS t m → l.length ≤ 100000000 → (∀ x ∈ t, x.length ≤ 100000000) → 0 ≤ m → m + (totL t : Int) ≤ 100000000000000000 →
    Ev (fun k => laws_heldIntSS.l0 k l m (p.length : Int)) (m + (totL t : Int))
  | [], l, p, m, h, hl, hx, h0, h1 => Ev.to (Ev.step (f := fun _ => some m) (fun k => by subst h; simp [laws_heldIntSS.l0, marksS]) (Ev.now _)) (by simp [totL])
  | x :: t, l, p, m, h, hl, hx, h0, h1 => by
    simp only [marksS] at h
    simp only [totL] at h1
    have hxx := hx x (by simp)
    have e1 : (p.length : Int) < (l.length : Int) := by rw [h]; exact lt_mid p _ _
    have e2 : rd_L1 l (p.length : Int) = marks x.length m := by rw [h]; simp [rd_L1]
    have e3 : wrap64 ((p.length : Int) + 1) = ((p ++ [marks x.length m]).length : Int) := nx_mid p _ (marks x.length m) (by rw [← h]; omega)
    have hh := laws_heldIntS_l0 x.length (marks x.length m) [] m rfl (by rw [marks_length]; omega) h0 (by omega)
    have ih := laws_heldIntSS_l0 t l (p ++ [marks x.length m]) (m + (x.length : Int)) (by simp [h]) hl (fun y hy => hx y (by simp [hy])) (by omega) (by omega)
    refine Ev.to (Ev.step (fun k => by simp only [laws_heldIntSS.l0]; rfl) ?_) (show m + (x.length : Int) + (totL t : Int) = _ by simp only [totL]; omega)
    rw [e2, e3]
    refine Ev.tt e1 (Ev.tt (Int.natCast_nonneg _) (Ev.bind (a := m + (x.length : Int)) ?_ (Ev.ff (by omega) ih)))
    simpa [laws_heldIntS.f] using hh
theorem laws_heldIntSS_ev (l : List (List Int)) (hl : l.length ≤ 100000000) (hx : ∀ x ∈ l, x.length ≤ 100000000) : Ev (fun k => laws_heldIntSS.f k (marksS l 1) 1) (1 + (totL l : Int)) := by
  have ht := totL_le l hx
  have h := laws_heldIntSS_l0 l (marksS l 1) [] 1 rfl (by rw [marksS_length]; exact hl) hx (by omega) (by omega)
  simpa [laws_heldIntSS.f] using h

def phasesM (h : List Int) (p : Int) : List (List Int) × Bool := if (wts h && (decide (1 ≤ p) && decide (p ≤ 8))) = true then (phL h p.toNat, true) else ([], false)
theorem impl_PhasesOf_ev (h : List Int) (p : Int) (hh : h.length ≤ 10000000) : Ev (fun k => impl_PhasesOf.f k h p) (phasesM h p) := by
  simp only [impl_PhasesOf.f, impl_isRatio_eq, Option.bind_some]
  refine Ev.bind (impl_isWeights_ev h (by omega)) ?_
  have hr : ratio p 1 = (decide (1 ≤ p) && decide (p ≤ 8)) := by simp [ratio]
  by_cases c : wts h = true
  · refine Ev.tt c ?_
    rw [hr]
    by_cases d : (decide (1 ≤ p) && decide (p ≤ 8)) = true
    · have hp : 1 ≤ p ∧ p ≤ 8 := by simpa only [Bool.and_eq_true, decide_eq_true_eq] using d
      obtain ⟨n, rfl⟩ : ∃ n : Nat, p = (n : Int) := ⟨p.toNat, by omega⟩
      have hl := wts_len c
      refine Ev.tt d (Ev.bind (impl_phasesOf_ev h n (by omega) (by omega) (by omega)) (Ev.to (Ev.now _) ?_))
      rw [phasesM, if_pos (by rw [c, d]; rfl), Int.toNat_natCast]
    · exact Ev.ff d (Ev.to (Ev.now _) (by rw [phasesM, if_neg (by rw [Bool.eq_false_iff.mpr d, Bool.and_false]; decide)]))
  · exact Ev.ff c (Ev.to (Ev.now _) (by rw [phasesM, if_neg (by rw [Bool.eq_false_iff.mpr c, Bool.false_and]; decide)]))
theorem spec_PhasesOf_ev (h : List Int) (p : Int) (hh : h.length ≤ 10000000) : Ev (fun k => spec_PhasesOf.f k h p) (phasesM h p) := by
  simp only [spec_PhasesOf.f, spec_l1In_eq, Option.bind_some]
  refine Ev.bind (spec_weGood_ev h (by omega)) ?_
  by_cases c : wts h = true
  · refine Ev.tt c ?_
    by_cases d : (decide (1 ≤ p) && decide (p ≤ 8)) = true
    · have hp : 1 ≤ p ∧ p ≤ 8 := by simpa only [Bool.and_eq_true, decide_eq_true_eq] using d
      obtain ⟨n, rfl⟩ : ∃ n : Nat, p = (n : Int) := ⟨p.toNat, by omega⟩
      have hl := wts_len c
      refine Ev.tt d (Ev.bind (spec_rsPhases_ev h n (by omega) (by omega) (by omega)) (Ev.to (Ev.now _) ?_))
      rw [phasesM, if_pos (by rw [c, d]; rfl), Int.toNat_natCast]
    · exact Ev.ff d (Ev.to (Ev.now _) (by rw [phasesM, if_neg (by rw [Bool.eq_false_iff.mpr d, Bool.and_false]; decide)]))
  · exact Ev.ff c (Ev.to (Ev.now _) (by rw [phasesM, if_neg (by rw [Bool.eq_false_iff.mpr c, Bool.false_and]; decide)]))
theorem phasesM_len (h : List Int) (p : Int) : (phasesM h p).1.length ≤ 1048576 ∧ ∀ x ∈ (phasesM h p).1, x.length ≤ 1048576 := by
  unfold phasesM
  split
  · rename_i c
    have c' : wts h = true ∧ 1 ≤ p ∧ p ≤ 8 := by simpa only [Bool.and_eq_true, decide_eq_true_eq] using c
    have hl := wts_len c'.1
    refine ⟨by simp only [phL_length]; omega, fun x hx => ?_⟩
    simp only [phL, List.mem_map] at hx
    obtain ⟨k, hk, rfl⟩ := hx
    have := dropN_le (len := h.length) (rate := p.toNat) (first := k) (by omega)
    rw [dropM_length]
    omega
  · exact ⟨by simp, fun x hx => by simp at hx⟩

theorem FnExactPhasesOf : laws_FnExactPhasesOf.Pure := by
  intro s p h1 h2 h3 h4
  apply Ev.rounds
  simp only [laws_FnExactPhasesOf.f]
  by_cases c2 : (s.length : Int) > 1048576
  · exact Ev.tt c2 (Ev.now _)
  refine Ev.ff c2 ?_
  have hs2 : s.length ≤ 1048576 := by omega
  have hs := spec_PhasesOf_ev s p (by omega)
  have hi := impl_PhasesOf_ev s p (by omega)
  obtain ⟨hb, hbx⟩ := phasesM_len s p
  generalize phasesM s p = r at *
  obtain ⟨r0, r1⟩ := r
  simp only at hb hbx
  have hes := laws_eqIntSS_self r0 (by omega) (fun x hx => by have := hbx x hx; omega)
  have hms := laws_markIntSS_ev r0 (by omega) (fun x hx => by have := hbx x hx; omega) 1 (by omega) (by omega)
  have hhs := laws_heldIntSS_ev r0 (by omega) (fun x hx => by have := hbx x hx; omega)
  generalize marksS r0 1 = ms at *
  generalize (totL r0 : Nat) = tt at *
  repeat ((try dsimp only); first | exact Ev.now _ | refine Ev.bind (laws_toIntS_ev s (by omega)) ?_ | refine Ev.bind hs ?_ | refine Ev.bind hi ?_ | refine Ev.bind hes ?_ | refine Ev.bind hms ?_ | refine Ev.bind hhs ?_ | refine Ev.bind (laws_eqIntS_self _ (by omega)) ?_ | refine Ev.bind (laws_markIntS_ev _ _ (by omega) (by omega) (by omega)) ?_ | refine Ev.tt rfl ?_ | refine Ev.ff (by first | omega | decide) ?_ | (refine Ev.step (fun k => by simp only [laws_FnExactPhasesOf.j0, bne_self_eq_false]; rfl) ?_) | (refine Ev.step (fun k => by simp only [laws_FnExactPhasesOf.j1, bne_self_eq_false]; rfl) ?_) | (refine Ev.step (fun k => by simp only [laws_FnExactPhasesOf.j2, bne_self_eq_false]; rfl) ?_))

end Go.Proofs.Ytfopgpbcbifpnaa.Pure
