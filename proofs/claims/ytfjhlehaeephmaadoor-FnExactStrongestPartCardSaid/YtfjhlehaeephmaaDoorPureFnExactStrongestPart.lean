/- The program's StrongestPart returns what the reference's returns, for all arguments. Conditions: none beyond those that the statement itself prints. -/
import Derived.Test.YtfjhlehaeephmaaDoorPFnExactStrongestPartx3
namespace Go.Proofs.YtfjhlehaeephmaaDoor.Pure
open Go.RowKit Go.Proofs.YtfjhlehaeephmaaDoor.PFnExactStrongestPart Go.Proofs.YtfjhlehaeephmaaDoorW.PrintWords Go.Proofs.YtfjhlehaeephmaaDoorW.PrintLast Go.Proofs.YtfjhlehaeephmaaDoorW.PrintMore
set_option linter.unusedVariables false
set_option linter.unusedSimpArgs false

theorem w64 {n : Int} (h1 : -9223372036854775808 ≤ n) (h2 : n ≤ 9223372036854775807) : wrap64 n = n := by
  unfold wrap64
  omega
theorem Ev.to {α : Type} {g : Nat → Option α} {r r' : α} (h : Ev g r) (e : r = r') : Ev g r' := e ▸ h
theorem Ev.const {α : Type} {g : Option α} {r : α} (h : g = some r) : Ev (fun _ => g) r := ⟨0, fun _ _ => h⟩
theorem Ev.dbind {α β : Type} {g : Option α} {f : Nat → α → Option β} {a : α} {r : β} (h : g = some a) (k : Ev (fun n => f n a) r) : Ev (fun n => g.bind (f n)) r :=
  Ev.bind (g := fun _ => g) (Ev.const h) k
theorem Ev.tt {α : Type} {c : Prop} {_ : Decidable c} {g f : Nat → Option α} {r : α} (h : c) (k : Ev g r) : Ev (fun n => if c then g n else f n) r := by
  simpa only [if_pos h] using k
theorem Ev.ff {α : Type} {c : Prop} {_ : Decidable c} {g f : Nat → Option α} {r : α} (h : ¬ c) (k : Ev f r) : Ev (fun n => if c then g n else f n) r := by
  simpa only [if_neg h] using k
theorem rd_mid (p t : List Int) (x : Int) : rd (p ++ x :: t) (p.length : Int) = x := by
  simp [rd]
theorem lt_mid {α : Type} (p t : List α) (x : α) : (p.length : Int) < ((p ++ x :: t).length : Int) := by
  simp
  omega
theorem nx_mid {α : Type} (p t : List α) (x : α) (h : (p ++ x :: t).length ≤ 140737488351232) : wrap64 ((p.length : Int) + 1) = ((p ++ [x]).length : Int) := by
  simp at h ⊢
  exact w64 (by omega) (by omega)
theorem ap_mid {α : Type} (p t : List α) (x : α) : p ++ x :: t = (p ++ [x]) ++ t := by simp
theorem w64_nat (a b : Nat) (h : a + b ≤ 1000000000) : wrap64 ((a : Int) + (b : Int)) = ((a + b : Nat) : Int) := by
  rw [w64 (n := (a : Int) + (b : Int)) (by omega) (by omega)]
  omega
theorem w64_suc {α : Type} (q : List α) (x : α) (h : q.length ≤ 1000000000) : wrap64 ((q.length : Int) + 1) = ((q ++ [x]).length : Int) := by
  rw [w64 (n := (q.length : Int) + 1) (by omega) (by omega)]
  simp
theorem ar1 {a b c d : Nat} (h1 : a + 1 ≤ c) (h2 : b + 1 ≤ d) : ((a + b : Nat) : Int) < ((c + d - 1 : Nat) : Int) := by omega
theorem ar2 {a b c d : Nat} (h1 : a + 1 ≤ c) (h2 : b + 1 ≤ d) : a + b < c + d - 1 := by omega
theorem ar3 (a b : Nat) : ¬ (a ≤ a + b ∧ a + b - a < b) := by omega
theorem ar4 {v M : Int} (h : -M ≤ v ∧ v ≤ M) (hm : M ≤ 4000000000000000000) : wrap64 v = v := w64 (by omega) (by omega)
theorem ar5 {c v P M H : Int} (hc : -P ≤ c ∧ c ≤ P) (hv : -M ≤ v ∧ v ≤ M) (hp : P + M ≤ H) (hH : H ≤ 4000000000000000000) : wrap64 (c + v) = c + v := w64 (by omega) (by omega)
theorem ar6 {a b : Nat} {M : Int} (h : a + 1 ≤ b) (hM : 0 ≤ M) : (a : Int) * M + M ≤ (b : Int) * M := by
  have h1 : ((a : Int) + 1) * M ≤ (b : Int) * M := Int.mul_le_mul_of_nonneg_right (by omega) hM
  rw [Int.add_mul, Int.one_mul] at h1
  exact h1
theorem ar7 {a b c d : Nat} (h1 : a + 1 ≤ c) (h2 : b + 1 ≤ d) (h : c + d ≤ 100000000) : a + b ≤ 1000000000 := by omega
theorem ar8 {a c d : Nat} (h1 : a + 1 ≤ c) (h : c + d ≤ 100000000) : a ≤ 1000000000 := by omega

def backOf (n : Int) : Int × Bool := if n = 3 then (-1, true) else if n = 4 then (0, true) else if n = 6 then (1, true) else (0, false)
def tnF (c : Int) : List Int → Int → Int → Int × Int
  | [], y, z => (y, z)
  | x :: t, y, z => tnF c t (wrap64 ((wrap64 (x + (wrap64 (c * y)))) - z)) y
def sig (l : List Int) : Bool := decide (l.length ≤ 64) && l.all fun x => decide (-100000 ≤ x) && decide (x ≤ 100000)
def toneStates (l : List Int) (n : Int) : Int × Int × Bool := if (backOf n).2 = true then (if sig l = true then ((tnF (backOf n).1 l 0 0).1, (tnF (backOf n).1 l 0 0).2, true) else (0, 0, false)) else (0, 0, false)
theorem sig_len {l : List Int} (h : sig l = true) : l.length ≤ 64 := by
  simp [sig] at h
  exact h.1
theorem sig_mem {l : List Int} (h : sig l = true) : ∀ x ∈ l, -100000 ≤ x ∧ x ≤ 100000 := by
  simp [sig] at h
  exact h.2
def isBits (l : List Int) : Bool := decide (l.length ≤ 200) && l.all fun x => decide (x = 1 ∨ x = -1)
theorem isBits_len {l : List Int} (h : isBits l = true) : l.length ≤ 200 := by
  simp [isBits] at h
  exact h.1
theorem isBits_mem {l : List Int} (h : isBits l = true) : ∀ x ∈ l, x = 1 ∨ x = -1 := by
  simp [isBits] at h
  exact h.2
def toldM (l : List Int) : List Int × Bool := if sig l = true then (l, true) else ([], false)
theorem toldM_len (l : List Int) : (toldM l).1.length ≤ 64 := by
  unfold toldM
  split
  · exact sig_len ‹_›
  · simp
def bitM (x v : Int) : Int := if x ≥ v then 1 else -1
theorem bitM_cases (x v : Int) : bitM x v = 1 ∨ bitM x v = -1 := by
  unfold bitM
  split <;> simp
def tkS (st last : Int) (fixed : Bool) (bit : Int) : Int :=
  if fixed = true then st else if last = 0 then st else if bit = last then (if 2 * st ≤ 4096 then 2 * st else 4096) else (if 1 ≤ st / 2 then st / 2 else 1)
theorem tkS_bd {st last : Int} {fixed : Bool} {bit : Int} (h0 : 1 ≤ st) (h1 : st ≤ 4096) : 1 ≤ tkS st last fixed bit ∧ tkS st last fixed bit ≤ 4096 := by
  unfold tkS
  repeat' split
  all_goals omega
theorem mul_bit {st bit : Int} (hb : bit = 1 ∨ bit = -1) : st * bit = st ∨ st * bit = -st := by
  rcases hb with rfl | rfl
  · left; omega
  · right; omega
/-- bit, value and step behind each sample -/
def codeM (fixed : Bool) : List Int → Int → Int → Int → List (Int × Int × Int)
  | [], _, _, _ => []
  | x :: t, v, st, last =>
    let b := bitM x v
    let s := tkS st last fixed b
    (b, v + s * b, s) :: codeM fixed t (v + s * b) s b
theorem codeM_length (fixed : Bool) : ∀ (l : List Int) (v st last : Int), (codeM fixed l v st last).length = l.length
  | [], _, _, _ => rfl
  | x :: t, v, st, last => by simp [codeM, codeM_length fixed t]
def fixM (st : Int) : List Int → Int → List Int
  | [], _ => []
  | x :: t, v => bitM x v :: fixM st t (v + bitM x v * st)
theorem fixM_length (st : Int) : ∀ (l : List Int) (v : Int), (fixM st l v).length = l.length
  | [], _ => rfl
  | x :: t, v => by simp [fixM, fixM_length st t]
def fixedBits (l : List Int) (st : Int) : List Int × Bool := if sig l = true ∧ 1 ≤ st ∧ st ≤ 4096 then (fixM st l 0, true) else ([], false)
def decM (fixed : Bool) : List Int → Int → Int → Int → List (Int × Int)
  | [], _, _, _ => []
  | b :: t, v, st, last => (v + tkS st last fixed b * b, tkS st last fixed b) :: decM fixed t (v + tkS st last fixed b * b) (tkS st last fixed b) b
theorem decM_length (fixed : Bool) : ∀ (l : List Int) (v st last : Int), (decM fixed l v st last).length = l.length
  | [], _, _, _ => rfl
  | x :: t, v, st, last => by simp [decM, decM_length fixed t]
def gapM : List Int → List Int → List Int
  | x :: t, y :: u => (x - y) :: gapM t u
  | _, _ => []
theorem gapM_length : ∀ (l m : List Int), l.length = m.length → (gapM l m).length = l.length
  | [], m, _ => by cases m <;> simp [gapM]
  | x :: t, [], h => by simp at h
  | x :: t, y :: u, h => by
    simp at h
    simp [gapM, gapM_length t u h]
theorem codeM_val (fixed : Bool) : ∀ (l : List Int) (v st last : Int) (n : Int), 1 ≤ st → st ≤ 4096 → -4096 * n ≤ v → v ≤ 4096 * n → ∀ y ∈ (codeM fixed l v st last).map (·.2.1), -4096 * (n + l.length) ≤ y ∧ y ≤ 4096 * (n + l.length)
  | [], _, _, _, _, _, _, _, _, y, hy => by simp [codeM] at hy
  | x :: t, v, st, last, n, h0, h1, hv0, hv1, y, hy => by
    have hb := bitM_cases x v
    have hk := tkS_bd (last := last) (fixed := fixed) (bit := bitM x v) h0 h1
    have hm := mul_bit (st := tkS st last fixed (bitM x v)) hb
    simp only [codeM, List.map_cons, List.mem_cons] at hy
    rcases hy with rfl | hy
    · simp; omega
    · have := codeM_val fixed t _ _ _ (n + 1) hk.1 hk.2 (by omega) (by omega) y hy
      simp; omega
def stepOk (st : Int) : Bool := decide (1 ≤ st) && decide (st ≤ 4096)
theorem stepOk_iff {st : Int} : stepOk st = true ↔ 1 ≤ st ∧ st ≤ 4096 := by simp [stepOk]
def stepBits (l : List Int) (st : Int) : List Int × Bool := if sig l = true then (if stepOk st = true then ((codeM false l 0 st 0).map (·.1), true) else ([], false)) else ([], false)
def stepValues (l : List Int) (st : Int) : List Int × Bool := if isBits l = true then (if stepOk st = true then toldM ((decM false l 0 st 0).map (·.1)) else ([], false)) else ([], false)
def stepsOfBits (l : List Int) (st : Int) : List Int × Bool := if isBits l = true then (if stepOk st = true then toldM ((decM false l 0 st 0).map (·.2)) else ([], false)) else ([], false)
def fixedValues (l : List Int) (st : Int) : List Int × Bool := if isBits l = true then (if stepOk st = true then toldM ((decM true l 0 st 0).map (·.1)) else ([], false)) else ([], false)
def stepGaps (l : List Int) (st : Int) : List Int × Bool := if sig l = true then (if stepOk st = true then toldM (gapM l ((codeM false l 0 st 0).map (·.2.1))) else ([], false)) else ([], false)
def wts (l : List Int) : Bool := decide (1 ≤ l.length) && decide (l.length ≤ 9) && l.all fun x => decide (-1000 ≤ x) && decide (x ≤ 1000)
theorem wts_len {l : List Int} (h : wts l = true) : 1 ≤ l.length ∧ l.length ≤ 9 := by
  simp [wts] at h
  exact ⟨h.1.1, h.1.2⟩
theorem wts_mem {l : List Int} (h : wts l = true) : ∀ x ∈ l, -1000 ≤ x ∧ x ≤ 1000 := by
  simp [wts] at h
  exact h.2
def ratio (p q : Int) : Bool := (decide (1 ≤ p) && decide (p ≤ 8)) && (decide (1 ≤ q) && decide (q ≤ 8))
theorem ratio_iff {p q : Int} : ratio p q = true ↔ (1 ≤ p ∧ p ≤ 8) ∧ (1 ≤ q ∧ q ≤ 8) := by simp [ratio]
def rsOk (h l : List Int) (p q : Int) : Bool := wts h && ((sig l && ratio p q) && decide ((l.length : Int) * p ≤ 64))
def peakM : List Int → Nat → Nat
  | [], m => m
  | x :: t, m => peakM t (max m x.natAbs)

def cv : List Int → List Int → Nat → Int
  | [], _, _ => 0
  | w :: _, s, 0 => w * s.getD 0 0
  | w :: h, s, n + 1 => w * s.getD (n + 1) 0 + cv h s n
def Lf (f : Nat → Int) (N : Nat) : List Int := (List.range N).map f
theorem Lf_length (f : Nat → Int) (N : Nat) : (Lf f N).length = N := by simp [Lf]
theorem rd_Lf (f : Nat → Int) (N i : Nat) (h : i < N) : rd (Lf f N) (i : Int) = f i := by
  simp [rd, Lf, h]
theorem set_Lf (f : Nat → Int) (N i : Nat) (v : Int) : (Lf f N).set i v = Lf (fun n => if n = i then v else f n) N := by
  apply List.ext_getElem
  · simp [Lf]
  · intro n h1 h2
    simp [Lf, List.getElem_set]
    by_cases c : i = n
    · simp [c]
    · rw [if_neg c, if_neg (fun h => c h.symm)]
theorem Lf_congr {f g : Nat → Int} {N : Nat} (h : ∀ n, n < N → f n = g n) : Lf f N = Lf g N := by
  apply List.ext_getElem
  · simp [Lf]
  · intro n h1 h2
    simp [Lf] at h1 ⊢
    exact h n h1
theorem cv_snoc (s : List Int) (w : Int) : ∀ (p : List Int) (n : Nat), cv (p ++ [w]) s n = cv p s n + (if p.length ≤ n then w * s.getD (n - p.length) 0 else 0)
  | [], 0 => by simp [cv]
  | [], n + 1 => by simp [cv]
  | a :: p, 0 => by simp [cv]
  | a :: p, n + 1 => by
    simp only [List.cons_append, cv, cv_snoc s w p n, List.length_cons, Nat.add_le_add_iff_right, Nat.add_sub_add_right]
    omega
theorem getD_bd {s : List Int} {a M : Int} (hM : 0 ≤ M) (h : ∀ x ∈ s, -M ≤ a * x ∧ a * x ≤ M) (n : Nat) : -M ≤ a * s.getD n 0 ∧ a * s.getD n 0 ≤ M := by
  rw [List.getD_eq_getElem?_getD]
  by_cases c : n < s.length
  · rw [List.getElem?_eq_getElem c]
    exact h _ (List.getElem_mem c)
  · rw [List.getElem?_eq_none (by omega)]
    simp
    omega
theorem cv_bd {s : List Int} {M : Int} (hM : 0 ≤ M) : ∀ (h : List Int) (n : Nat), (∀ a ∈ h, ∀ x ∈ s, -M ≤ a * x ∧ a * x ≤ M) → -(h.length * M) ≤ cv h s n ∧ cv h s n ≤ h.length * M
  | [], n, hb => by simp [cv]
  | a :: h, 0, hb => by
    have h1 := getD_bd hM (hb a (by simp)) 0
    have h2 : 0 ≤ (h.length : Int) * M := Int.mul_nonneg (by omega) hM
    simp only [cv, List.length_cons, Int.natCast_add, Int.add_mul]
    omega
  | a :: h, n + 1, hb => by
    have h1 := getD_bd hM (hb a (by simp)) (n + 1)
    have h2 := cv_bd hM h n (fun b hbm => hb b (by simp [hbm]))
    simp only [cv, List.length_cons, Int.natCast_add, Int.add_mul]
    omega
def conv (h s : List Int) : List Int := if s = [] then [] else Lf (cv h s) (h.length + s.length - 1)
theorem conv_length (h s : List Int) (hs : s ≠ []) : (conv h s).length = h.length + s.length - 1 := by
  rw [conv, if_neg hs, Lf_length]
/-- what stands in the list when the weights p are done, and of the weight w the samples q -/
def cvi (p q s : List Int) (w : Int) (n : Nat) : Int := cv p s n + (if p.length ≤ n ∧ n - p.length < q.length then w * s.getD (n - p.length) 0 else 0)
theorem cvi_nil (p s : List Int) (w : Int) : cvi p [] s w = cv p s := by
  funext n
  simp [cvi]
theorem cvi_all (p s : List Int) (w : Int) (n : Nat) : cvi p s s w n = cv (p ++ [w]) s n := by
  rw [cv_snoc, cvi]
  by_cases c : p.length ≤ n
  · by_cases d : n - p.length < s.length
    · rw [if_pos ⟨c, d⟩, if_pos c]
    · rw [if_neg (fun h => d h.2), if_pos c, List.getD_eq_getElem?_getD, List.getElem?_eq_none (by omega)]
      simp
  · rw [if_neg (fun h => c h.1), if_neg c]
theorem getD_mid (q t : List Int) (x : Int) : (q ++ x :: t).getD q.length 0 = x := by simp
theorem cvi_step (p q t : List Int) (w x : Int) (n : Nat) : (if n = p.length + q.length then cvi p q (q ++ x :: t) w n + w * x else cvi p q (q ++ x :: t) w n) = cvi p (q ++ [x]) (q ++ x :: t) w n := by
  unfold cvi
  by_cases c : n = p.length + q.length
  · subst c
    have e : p.length + q.length - p.length = q.length := by omega
    rw [if_pos rfl, e, getD_mid, if_neg (by omega), if_pos ⟨by omega, by simp⟩]
    omega
  · rw [if_neg c]
    by_cases d : p.length ≤ n ∧ n - p.length < q.length
    · rw [if_pos d, if_pos ⟨d.1, by simp; omega⟩]
    · rw [if_neg d, if_neg (fun h => d ⟨h.1, by have := h.2; simp at this; omega⟩)]
theorem Lf_succ (f : Nat → Int) (n : Nat) : Lf f (n + 1) = Lf f n ++ [f n] := by simp [Lf, List.range_succ]
def dropN (len rate first : Nat) : Nat := (len - first + rate - 1) / rate
theorem dropN_lt {len rate first j : Nat} (hr : 1 ≤ rate) : j < dropN len rate first ↔ first + j * rate < len := by
  unfold dropN
  rw [Nat.lt_iff_add_one_le, Nat.le_div_iff_mul_le (by omega), Nat.add_mul]
  omega
def dropM (l : List Int) (rate first : Nat) : List Int := Lf (fun j => l.getD (first + j * rate) 0) (dropN l.length rate first)
theorem dropM_length (l : List Int) (rate first : Nat) : (dropM l rate first).length = dropN l.length rate first := Lf_length _ _
theorem dropN_le {len rate first : Nat} (hr : 1 ≤ rate) : dropN len rate first ≤ len := by
  apply Nat.le_of_not_lt
  intro h
  have := (dropN_lt hr).1 h
  have h2 : len * 1 ≤ len * rate := Nat.mul_le_mul_left len hr
  omega
def stuffM (p : Nat) : List Int → List Int
  | [] => []
  | x :: t => (x :: List.replicate (p - 1) 0) ++ stuffM p t
theorem stuffM_length (p : Nat) (hp : 1 ≤ p) : ∀ l : List Int, (stuffM p l).length = l.length * p
  | [] => by simp [stuffM]
  | x :: t => by
    simp only [stuffM, List.length_append, List.length_cons, List.length_replicate, stuffM_length p hp t, Nat.add_mul]
    omega
theorem stuffM_snoc (p : Nat) (x : Int) : ∀ l : List Int, stuffM p (l ++ [x]) = stuffM p l ++ (x :: List.replicate (p - 1) 0)
  | [] => by simp [stuffM]
  | y :: t => by simp [stuffM, stuffM_snoc p x t]
theorem rd_getD (l : List Int) (i : Nat) : rd l (i : Int) = l.getD i 0 := by simp [rd]
theorem stuffM_sig (p : Nat) : ∀ l : List Int, (∀ x ∈ l, -100000 ≤ x ∧ x ≤ 100000) → ∀ x ∈ stuffM p l, -100000 ≤ x ∧ x ≤ 100000
  | [], _, x, h => by simp [stuffM] at h
  | y :: t, hl, x, h => by
    simp only [stuffM, List.mem_append, List.mem_cons, List.mem_replicate] at h
    rcases h with (rfl | ⟨_, rfl⟩) | h
    · exact hl _ (by simp)
    · omega
    · exact stuffM_sig p t (fun z hz => hl z (by simp [hz])) x h
theorem sig_iff {l : List Int} : sig l = true ↔ l.length ≤ 64 ∧ ∀ x ∈ l, -100000 ≤ x ∧ x ≤ 100000 := by simp [sig]
theorem ediv_bd {x b : Int} (hb : 0 < b) (hx : -4611686018427387904 ≤ x ∧ x ≤ 4611686018427387904) : -4611686018427387905 ≤ x / b ∧ x / b ≤ 4611686018427387905 := by
  have h0 := Int.emod_nonneg x (show b ≠ 0 by omega)
  have h1 := Int.emod_lt_of_pos x hb
  have h2 := Int.emod_add_mul_ediv x b
  constructor
  · apply Int.not_lt.1
    intro h
    have : b * (x / b) ≤ 1 * (x / b) := Int.mul_le_mul_of_nonpos_right (by omega) (by omega)
    have h3 : b * (x / b) ≤ b * (-4611686018427387906) := Int.mul_le_mul_of_nonneg_left (by omega) (by omega)
    omega
  · apply Int.not_lt.1
    intro h
    have h3 : 1 * (x / b) ≤ b * (x / b) := Int.mul_le_mul_of_nonneg_right (by omega) (by omega)
    omega
def atM (s : List Int) (i : Int) : Int := if 0 ≤ i then s.getD i.toNat 0 else 0
theorem getD_all {l : List Int} {M : Int} (hM : 0 ≤ M) (h : ∀ x ∈ l, -M ≤ x ∧ x ≤ M) (n : Nat) : -M ≤ l.getD n 0 ∧ l.getD n 0 ≤ M := by
  rw [List.getD_eq_getElem?_getD]
  by_cases c : n < l.length
  · rw [List.getElem?_eq_getElem c]
    exact h _ (List.getElem_mem c)
  · rw [List.getElem?_eq_none (by omega)]
    simp
    omega

theorem laws_toIntS_l0 (l : List Int) (hl : l.length ≤ 140737488351232) : ∀ (t p : List Int), l = p ++ t → Ev (fun k => laws_toIntS.l0 k l (p ++ List.replicate t.length 0) (p.length : Int)) l
  | [], p, h => by
    apply Ev.step (f := fun _ => some l)
    · intro k
      subst h
      simp [laws_toIntS.l0]
    · exact Ev.now _
  | x :: t, p, h => by
    have e1 : (p.length : Int) < (l.length : Int) := by rw [h]; exact lt_mid p t x
    have e2 : rd l (p.length : Int) = x := by rw [h]; exact rd_mid p t x
    have e3 : wrap64 ((p.length : Int) + 1) = ((p ++ [x]).length : Int) := nx_mid p t x (h ▸ hl)
    have e4 : (p.length : Int) < ((p ++ List.replicate (x :: t).length 0 : List Int).length : Int) := by simp; omega
    have e5 : (p ++ List.replicate (x :: t).length 0 : List Int).set (p.length : Int).toNat x = (p ++ [x]) ++ List.replicate t.length 0 := by
      simp [List.replicate_succ]
    refine Ev.step (fun k => ?_) (laws_toIntS_l0 l hl t (p ++ [x]) (by simp [h]))
    simp only [laws_toIntS.l0, if_pos e1, if_pos (Int.natCast_nonneg _), if_pos e4, e2, e3, e5]
theorem laws_toIntS_ev (l : List Int) (hl : l.length ≤ 17592186044416) : Ev (fun k => laws_toIntS.f k l) l := by
  have h := laws_toIntS_l0 l (by omega) l [] rfl
  simp only [laws_toIntS.f]
  refine Ev.tt (Int.natCast_nonneg _) (Ev.tt ?_ ?_)
  · simp; omega
  · simpa using h

theorem laws_eqIntS_l0 (l m : List Int) (hl : l.length ≤ 140737488351232) : ∀ (t p u q : List Int), l = p ++ t → m = q ++ u → p.length = q.length → t.length = u.length → Ev (fun k => laws_eqIntS.l0 k l m (p.length : Int)) (t == u)
  | [], p, [], q, h, h', e, _ => by
    apply Ev.step (f := fun _ => some _)
    · intro k
      subst h
      simp [laws_eqIntS.l0]; rfl
    · exact Ev.now _
  | x :: t, p, y :: u, q, h, h', e, e' => by
    have e1 : (p.length : Int) < (l.length : Int) := by rw [h]; exact lt_mid p t x
    have e2 : rd l (p.length : Int) = x := by rw [h]; exact rd_mid p t x
    have e3 : wrap64 ((p.length : Int) + 1) = ((p ++ [x]).length : Int) := nx_mid p t x (h ▸ hl)
    have e4 : (p.length : Int) < (m.length : Int) := by rw [h', e]; exact lt_mid q u y
    have e5 : rd m (p.length : Int) = y := by rw [h', e]; exact rd_mid q u y
    by_cases c : x = y
    · refine Ev.to (Ev.step (fun k => ?_) (laws_eqIntS_l0 l m hl t (p ++ [x]) u (q ++ [y]) (by simp [h]) (by simp [h']) (by simp [e]) (by simpa using e'))) (by simp [c])
      simp only [laws_eqIntS.l0, if_pos e1, if_pos (Int.natCast_nonneg _), if_pos e4, e2, e3, e5, if_pos c]
    · refine Ev.to (Ev.step (fun k => ?_) (Ev.now false)) (by simp [c])
      simp only [laws_eqIntS.l0, if_pos e1, if_pos (Int.natCast_nonneg _), if_pos e4, e2, e3, e5, if_neg c]
theorem laws_eqIntS_ev (l m : List Int) (hl : l.length ≤ 140737488351232) : Ev (fun k => laws_eqIntS.f k l m) (l == m) := by
  simp only [laws_eqIntS.f]
  by_cases c : (l.length : Int) = (m.length : Int)
  · exact Ev.tt c (laws_eqIntS_l0 l m hl l [] m [] rfl rfl rfl (by omega))
  · refine Ev.ff c (Ev.to (Ev.now false) ?_)
    have : l ≠ m := fun h => c (by rw [h])
    simp [this]
theorem laws_eqIntS_self (l : List Int) (hl : l.length ≤ 140737488351232) : Ev (fun k => laws_eqIntS.f k l l) true := Ev.to (laws_eqIntS_ev l l hl) (by simp)

theorem spec_l1In_eq (a b c : Int) : spec_l1In.f a b c = some (decide (b ≤ a) && decide (a ≤ c)) := by
  unfold spec_l1In.f
  by_cases h : b ≤ a <;> simp [h]

theorem impl_in_eq (a b c : Int) : impl_in.f a b c = some (decide (b ≤ a) && decide (a ≤ c)) := by
  unfold impl_in.f
  by_cases h : b ≤ a <;> simp [h]

theorem spec_l1All_l0 (lo hi : Int) (l : List Int) (hl : l.length ≤ 140737488351232) : ∀ (t p : List Int), l = p ++ t → Ev (fun k => spec_l1All.l0 k lo hi l (l.length : Int) (p.length : Int)) (t.all fun x => decide (lo ≤ x) && decide (x ≤ hi))
  | [], p, h => by
    apply Ev.step (f := fun _ => some _)
    · intro k
      subst h
      simp [spec_l1All.l0]; rfl
    · exact Ev.now _
  | x :: t, p, h => by
    have e1 : (p.length : Int) < (l.length : Int) := by rw [h]; exact lt_mid p t x
    have e2 : rd l (p.length : Int) = x := by rw [h]; exact rd_mid p t x
    have e3 : wrap64 ((p.length : Int) + 1) = ((p ++ [x]).length : Int) := nx_mid p t x (h ▸ hl)
    by_cases c : (decide (lo ≤ x) && decide (x ≤ hi)) = true
    · refine Ev.to (Ev.step (fun k => ?_) (spec_l1All_l0 lo hi l hl t (p ++ [x]) (by simp [h]))) (by rw [List.all_cons, c, Bool.true_and])
      simp only [spec_l1All.l0, if_pos e1, if_pos (Int.natCast_nonneg _), e2, e3, spec_l1In_eq, Option.bind_some, if_pos c]
    · refine Ev.to (Ev.step (fun k => ?_) (Ev.now false)) (by rw [List.all_cons, Bool.eq_false_iff.mpr c, Bool.false_and])
      simp only [spec_l1All.l0, if_pos e1, if_pos (Int.natCast_nonneg _), e2, e3, spec_l1In_eq, Option.bind_some, if_neg c]
theorem spec_l1All_ev (l : List Int) (lo hi : Int) (hl : l.length ≤ 140737488351232) : Ev (fun k => spec_l1All.f k l lo hi) (l.all fun x => decide (lo ≤ x) && decide (x ≤ hi)) := by
  simpa [spec_l1All.f] using spec_l1All_l0 lo hi l hl l [] rfl

theorem spec_wdSignal_ev (l : List Int) (hl : l.length ≤ 140737488351232) : Ev (fun k => spec_wdSignal.f k l) (sig l) := by
  simp only [spec_wdSignal.f]
  by_cases c : (l.length : Int) ≤ 64
  · refine Ev.tt c (Ev.bind (spec_l1All_ev l (-100000) 100000 hl) (Ev.to (Ev.now _) ?_))
    simp [sig]; omega
  · refine Ev.ff c (Ev.to (Ev.now _) ?_)
    simp [sig]; omega

theorem impl_isSignal_c1_eq (x : Int) : impl_isSignal_c1.f x = some (!(decide (-100000 ≤ x) && decide (x ≤ 100000))) := by
  unfold impl_isSignal_c1.f
  rw [impl_in_eq]
  rfl
theorem indexSignal_l0 (l : List Int) (hl : l.length ≤ 140737488351232) : ∀ (t p : List Int), l = p ++ t → ∃ r, Ev (fun k => slices_IndexFunc_int_int_impl_isSignal_c1.l0 k l (l.length : Int) (p.length : Int)) r ∧ (decide (r ≥ 0) = !(t.all fun x => decide (-100000 ≤ x) && decide (x ≤ 100000)))
  | [], p, h => by
    refine ⟨-1, Ev.step (f := fun _ => some (-1)) ?_ (Ev.now _), by simp⟩
    intro k
    subst h
    simp [slices_IndexFunc_int_int_impl_isSignal_c1.l0]
  | x :: t, p, h => by
    have e1 : (p.length : Int) < (l.length : Int) := by rw [h]; exact lt_mid p t x
    have e2 : rd l (p.length : Int) = x := by rw [h]; exact rd_mid p t x
    have e3 : wrap64 ((p.length : Int) + 1) = ((p ++ [x]).length : Int) := nx_mid p t x (h ▸ hl)
    by_cases c : (decide (-100000 ≤ x) && decide (x ≤ 100000)) = true
    · obtain ⟨r, h1, h2⟩ := indexSignal_l0 l hl t (p ++ [x]) (by simp [h])
      refine ⟨r, Ev.step (fun k => ?_) h1, by rw [h2, List.all_cons, c, Bool.true_and]⟩
      simp only [slices_IndexFunc_int_int_impl_isSignal_c1.l0, if_pos e1, if_pos (Int.natCast_nonneg _), e2, e3, impl_isSignal_c1_eq, c, Option.bind_some, Bool.not_true]
      rfl
    · have c := Bool.eq_false_iff.mpr c
      refine ⟨(p.length : Int), Ev.step (fun k => ?_) (Ev.now _), by rw [List.all_cons, c]; simp⟩
      simp only [slices_IndexFunc_int_int_impl_isSignal_c1.l0, if_pos e1, if_pos (Int.natCast_nonneg _), e2, e3, impl_isSignal_c1_eq, c, Option.bind_some, Bool.not_false]
      rfl
theorem impl_isSignal_ev (l : List Int) (hl : l.length ≤ 140737488351232) : Ev (fun k => impl_isSignal.f k l) (sig l) := by
  simp only [impl_isSignal.f]
  by_cases c : (l.length : Int) ≤ 64
  · obtain ⟨r, h1, h2⟩ := indexSignal_l0 l hl l [] rfl
    refine Ev.tt c (Ev.bind (a := decide (r ≥ 0)) ?_ (Ev.to (Ev.now _) ?_))
    · simp only [slices_ContainsFunc_int_int_impl_isSignal_c1.f, slices_IndexFunc_int_int_impl_isSignal_c1.f]
      exact Ev.bind h1 (Ev.now _)
    · rw [h2]; simp [sig]; omega
  · refine Ev.ff c (Ev.to (Ev.now _) ?_)
    simp [sig]; omega

/-- A number shifted: down, to the nearest one, towards 0. -/
def shM (x b mode : Int) : Int := if mode = 1 ∧ b ≤ 2 * (x % b) ∧ 0 < x % b then x / b + 1 else if mode = 2 ∧ x < 0 ∧ 0 < x % b then x / b + 1 else x / b
theorem div_uniq {x b q r : Int} (h : x = q * b + r) (h0 : 0 ≤ r) (h1 : r < b) : x / b = q := by
  have hb : 0 < b := by omega
  exact ((Int.ediv_emod_unique hb).2 ⟨by rw [h, Int.mul_comm]; omega, h0, h1⟩).1
theorem pow2_pos (s : Nat) : (0 : Int) < 2 ^ s := Int.pow_pos (by decide)
theorem pow2_le {s : Nat} (h : s ≤ 20) : (2 : Int) ^ s ≤ 1048576 := by
  have h1 : (2 : Nat) ^ s ≤ 2 ^ 20 := Nat.pow_le_pow_right (by decide) h
  have h3 : (2 : Int) ^ s = (((2 : Nat) ^ s : Nat) : Int) := by simp
  rw [h3]
  have h2 : (2 : Nat) ^ 20 = 1048576 := by decide
  omega
theorem shl_one {s : Nat} (h : s ≤ 20) : shl .i64 1 (s : Int) = 2 ^ s := by
  unfold shl
  have h1 : min ((s : Int)).toNat IntKind.i64.bits = s := by
    simp [IntKind.bits]; omega
  rw [h1, Int.one_mul, IntKind.wrap_i64]
  have := pow2_pos s
  have := pow2_le h
  omega
theorem shl_mul {s : Nat} (h : s ≤ 20) (y : Int) (h1 : -9223372036854775808 ≤ y * 2 ^ s) (h2 : y * 2 ^ s ≤ 9223372036854775807) : shl .i64 y (s : Int) = y * 2 ^ s := by
  unfold shl
  have e : min ((s : Int)).toNat IntKind.i64.bits = s := by
    simp [IntKind.bits]; omega
  rw [e, IntKind.wrap_i64]
  omega
theorem shr_div {s : Nat} (h : s ≤ 20) (y : Int) : shr .i64 y (s : Int) = y / 2 ^ s := by
  unfold shr
  have e : min ((s : Int)).toNat IntKind.i64.bits = s := by
    simp [IntKind.bits]; omega
  rw [e]
theorem mod_eq (x b : Int) : x = (x / b) * b + x % b := by
  have := Int.emod_add_mul_ediv x b
  rw [Int.mul_comm] at this
  omega

def numOk (x : Int) : Bool := decide (-1000000000000 ≤ x) && decide (x ≤ 1000000000000)
def modeOk (s mode : Int) : Bool := (decide (0 ≤ s) && decide (s ≤ 20)) && (decide (0 ≤ mode) && decide (mode ≤ 2))
theorem numOk_iff {x : Int} : numOk x = true ↔ -1000000000000 ≤ x ∧ x ≤ 1000000000000 := by simp [numOk]
theorem modeOk_iff {s m : Int} : modeOk s m = true ↔ (0 ≤ s ∧ s ≤ 20) ∧ (0 ≤ m ∧ m ≤ 2) := by simp [modeOk]

def trn (p i : Int) : Int × Int := ((rd_T44 (turnsL p) i).f0, (rd_T44 (turnsL p) i).f1)
theorem turns_len {p : Int} (hp : p = 4 ∨ p = 6) : ((turnsL p).length : Int) = p := by
  rcases hp with rfl | rfl <;> rfl
theorem six_of {i : Int} (h0 : 0 ≤ i) (h1 : i < 6) : i = 0 ∨ i = 1 ∨ i = 2 ∨ i = 3 ∨ i = 4 ∨ i = 5 := by omega
theorem four_of {i : Int} (h0 : 0 ≤ i) (h1 : i < 4) : i = 0 ∨ i = 1 ∨ i = 2 ∨ i = 3 := by omega
theorem trn_bd {p i : Int} (hp : p = 4 ∨ p = 6) (h0 : 0 ≤ i) (h1 : i < p) : (-1 ≤ (trn p i).1 ∧ (trn p i).1 ≤ 1) ∧ (-1 ≤ (trn p i).2 ∧ (trn p i).2 ≤ 1) := by
  rcases hp with rfl | rfl
  · rcases four_of h0 h1 with rfl | rfl | rfl | rfl <;> decide
  · rcases six_of h0 h1 with rfl | rfl | rfl | rfl | rfl | rfl <;> decide
theorem kn_bd {k : Int} {n : Nat} (hk : 0 ≤ k ∧ k ≤ 5) (hn : n ≤ 64) : 0 ≤ k * (n : Int) ∧ k * (n : Int) ≤ 320 := by
  refine ⟨Int.mul_nonneg hk.1 (by omega), ?_⟩
  have h : k * (n : Int) ≤ 5 * (n : Int) := Int.mul_le_mul_of_nonneg_right hk.2 (by omega)
  omega
def tnIx (p k : Int) (n : Nat) : Int := (-(k * (n : Int))) % p
theorem tnIx_bd {p : Int} (hp : p = 4 ∨ p = 6) (k : Int) (n : Nat) : 0 ≤ tnIx p k n ∧ tnIx p k n < p := by
  unfold tnIx
  rcases hp with rfl | rfl <;> exact ⟨Int.emod_nonneg _ (by decide), Int.emod_lt_of_pos _ (by decide)⟩
def tnM (p k : Int) : List Int → Nat → Int → Int → Int × Int
  | [], _, a, b => (a, b)
  | x :: t, n, a, b => tnM p k t (n + 1) (wrap64 (a + wrap64 (x * (trn p (tnIx p k n)).1))) (wrap64 (b + wrap64 (x * (trn p (tnIx p k n)).2)))

theorem tmod_p {p K : Int} (hp : p = 4 ∨ p = 6) (hK : 0 ≤ K ∧ K ≤ 320) : Int.tmod (wrap64 (Int.tmod (-K) p + p)) p = (-K) % p := by
  rw [Int.neg_tmod, Int.tmod_eq_emod_of_nonneg hK.1]
  rcases hp with rfl | rfl
  · rw [w64 (n := -(K % 4) + 4) (by omega) (by omega), Int.tmod_eq_emod_of_nonneg (by omega)]
    omega
  · rw [w64 (n := -(K % 6) + 6) (by omega) (by omega), Int.tmod_eq_emod_of_nonneg (by omega)]
    omega
theorem mod_ix {p k : Int} {n : Nat} (hp : p = 4 ∨ p = 6) (hk : 0 ≤ k ∧ k ≤ 5) (hn : n ≤ 64) : impl_mod.f (wrap64 ((wrap64 (-k)) * (n : Int))) p = some (tnIx p k n) := by
  have hK := kn_bd hk hn
  rw [w64 (n := -k) (by omega) (by omega), Int.neg_mul]
  unfold tnIx
  generalize k * (n : Int) = K at *
  rw [w64 (n := -K) (by omega) (by omega)]
  unfold impl_mod.f
  rw [if_neg (by omega), tmod_p hp hK]
theorem impl_toneOf_l0 {p k : Int} (hp : p = 4 ∨ p = 6) (hk : 0 ≤ k ∧ k ≤ 5) (l : List Int) (hl : l.length ≤ 64) : ∀ (t q : List Int) (a b : Int), l = q ++ t →
    Ev (fun m => impl_toneOf.l0 m p k (turnsL p) l (l.length : Int) (q.length : Int) a b) (tnM p k t q.length a b)
  | [], q, a, b, h => by
    apply Ev.step (f := fun _ => some (a, b))
    · intro m
      subst h
      simp [impl_toneOf.l0]
    · exact Ev.now _
  | x :: t, q, a, b, h => by
    have e1 : (q.length : Int) < (l.length : Int) := by rw [h]; exact lt_mid q t x
    have e2 : rd l (q.length : Int) = x := by rw [h]; exact rd_mid q t x
    have e3 : wrap64 ((q.length : Int) + 1) = ((q ++ [x]).length : Int) := nx_mid q t x (by rw [← h]; omega)
    have e4 := mod_ix (n := q.length) hp hk (by omega)
    have e5 := tnIx_bd hp k q.length
    have e6 : tnIx p k q.length < ((turnsL p).length : Int) := by rw [turns_len hp]; exact e5.2
    have ih := impl_toneOf_l0 hp hk l hl t (q ++ [x]) (wrap64 (a + wrap64 (x * (trn p (tnIx p k q.length)).1))) (wrap64 (b + wrap64 (x * (trn p (tnIx p k q.length)).2))) (by simp [h])
    have e7 : (q ++ [x]).length = q.length + 1 := by simp
    rw [e7] at ih e3
    refine Ev.step (fun m => by simp only [impl_toneOf.l0]; rfl) ?_
    rw [e2, e3]
    exact Ev.tt e1 (Ev.tt (Int.natCast_nonneg _) (Ev.tt e1 (Ev.dbind e4 (Ev.tt e5.1 (Ev.tt e6 ih)))))
theorem impl_toneOf_ev {p k : Int} (hp : p = 4 ∨ p = 6) (hk : 0 ≤ k ∧ k ≤ 5) (l : List Int) (hl : l.length ≤ 64) : Ev (fun m => impl_toneOf.f m l p k) (tnM p k l 0 0 0) := by
  simp only [impl_toneOf.f]
  exact Ev.dbind rfl (impl_toneOf_l0 hp hk l hl l [] 0 0 rfl)

theorem spec_tnTurn_eq {p m : Int} (hp : p = 4 ∨ p = 6) (hm : 0 ≤ m) : spec_tnTurn.f p m = some (trn p (m % p)) := by
  unfold spec_tnTurn.f
  rcases hp with rfl | rfl
  · rw [if_pos rfl, Int.tmod_eq_emod_of_nonneg hm]
    rcases four_of (Int.emod_nonneg m (by decide)) (Int.emod_lt_of_pos m (by decide)) with h | h | h | h <;> rw [h] <;> rfl
  · rw [if_neg (by decide), Int.tmod_eq_emod_of_nonneg hm]
    rcases six_of (Int.emod_nonneg m (by decide)) (Int.emod_lt_of_pos m (by decide)) with h | h | h | h | h | h <;> rw [h] <;> rfl

theorem spec_turn_ix {p k : Int} {n : Nat} (hp : p = 4 ∨ p = 6) (hk : 0 ≤ k ∧ k ≤ 5) (hkp : k ≤ p) (hn : n ≤ 64) : spec_tnTurn.f p (wrap64 ((wrap64 (p - k)) * (n : Int))) = some (trn p (tnIx p k n)) := by
  have hq : 0 ≤ p - k ∧ p - k ≤ 6 := by omega
  have h0 : 0 ≤ (p - k) * (n : Int) := Int.mul_nonneg hq.1 (by omega)
  have h1 : (p - k) * (n : Int) ≤ 6 * (n : Int) := Int.mul_le_mul_of_nonneg_right hq.2 (by omega)
  rw [w64 (n := p - k) (by omega) (by omega), w64 (n := (p - k) * (n : Int)) (by omega) (by omega), spec_tnTurn_eq hp h0]
  congr 2
  unfold tnIx
  rw [Int.sub_mul, show p * (n : Int) - k * n = -(k * n) + p * n by omega, Int.add_mul_emod_self_left]
theorem spec_tnTone_l0 {p k : Int} (hp : p = 4 ∨ p = 6) (hk : 0 ≤ k ∧ k ≤ 5) (hkp : k ≤ p) (l : List Int) (hl : l.length ≤ 64) : ∀ (t q : List Int) (a b : Int), l = q ++ t →
    Ev (fun m => spec_tnTone.l0 m p k l (l.length : Int) (q.length : Int) a b) (tnM p k t q.length a b)
  | [], q, a, b, h => by
    apply Ev.step (f := fun _ => some (a, b))
    · intro m
      subst h
      simp [spec_tnTone.l0]
    · exact Ev.now _
  | x :: t, q, a, b, h => by
    have e1 : (q.length : Int) < (l.length : Int) := by rw [h]; exact lt_mid q t x
    have e2 : rd l (q.length : Int) = x := by rw [h]; exact rd_mid q t x
    have e3 : wrap64 ((q.length : Int) + 1) = ((q ++ [x]).length : Int) := nx_mid q t x (by rw [← h]; omega)
    have e4 := spec_turn_ix (n := q.length) hp hk hkp (by omega)
    have ih := spec_tnTone_l0 hp hk hkp l hl t (q ++ [x]) (wrap64 (a + wrap64 (x * (trn p (tnIx p k q.length)).1))) (wrap64 (b + wrap64 (x * (trn p (tnIx p k q.length)).2))) (by simp [h])
    have e7 : (q ++ [x]).length = q.length + 1 := by simp
    rw [e7] at ih e3
    refine Ev.step (fun m => by simp only [spec_tnTone.l0]; rfl) ?_
    rw [e2, e3]
    exact Ev.tt e1 (Ev.tt (Int.natCast_nonneg _) (Ev.tt e1 (Ev.dbind e4 ih)))
theorem spec_tnTone_ev {p k : Int} (hp : p = 4 ∨ p = 6) (hk : 0 ≤ k ∧ k ≤ 5) (hkp : k ≤ p) (l : List Int) (hl : l.length ≤ 64) : Ev (fun m => spec_tnTone.f m l p k) (tnM p k l 0 0 0) := by
  simp only [spec_tnTone.f]
  exact spec_tnTone_l0 hp hk hkp l hl l [] 0 0 rfl

def powM (p : Int) (z : Int × Int) : Int := if p = 6 then wrap64 (wrap64 (wrap64 (z.1 * z.1) + wrap64 (z.2 * z.2)) + wrap64 (z.1 * z.2)) else wrap64 (wrap64 (z.1 * z.1) + wrap64 (z.2 * z.2))
def powL (p : Int) (l : List Int) : Nat → Nat → List Int
  | _, 0 => []
  | j, r + 1 => powM p (tnM p (j : Int) l 0 0 0) :: powL p l (j + 1) r
theorem powL_length (p : Int) (l : List Int) : ∀ (r j : Nat), (powL p l j r).length = r
  | 0, _ => rfl
  | r + 1, j => by simp [powL, powL_length p l r]
theorem impl_powers_l0 {p : Int} (hp : p = 4 ∨ p = 6) (l : List Int) (hl : l.length ≤ 64) : ∀ (r j : Nat) (q : List Int), (j : Int) + (r : Int) = p → q.length = j →
    Ev (fun m => impl_powers.l0 m l p q p (j : Int)) (q ++ powL p l j r, true)
  | 0, j, q, h, hq => by
    refine Ev.to (Ev.step (f := fun _ => some (q, true)) (fun m => ?_) (Ev.now _)) (by simp [powL])
    simp only [impl_powers.l0]
    rw [if_neg (by omega)]
  | r + 1, j, q, h, hq => by
    have e3 : wrap64 ((j : Int) + 1) = ((j + 1 : Nat) : Int) := by rw [w64 (n := (j : Int) + 1) (by omega) (by omega)]; omega
    have hp1 : impl_tone_power.f (tnM p (j : Int) l 0 0 0).1 (tnM p (j : Int) l 0 0 0).2 p = some (powM p (tnM p (j : Int) l 0 0 0)) := by
      unfold impl_tone_power.f powM
      split <;> rfl
    have ih := impl_powers_l0 hp l hl r (j + 1) (q ++ [powM p (tnM p (j : Int) l 0 0 0)]) (by omega) (by simp [hq])
    refine Ev.to (Ev.step (fun m => by simp only [impl_powers.l0]; rfl) ?_) (show ((q ++ [powM p (tnM p (j : Int) l 0 0 0)]) ++ powL p l (j + 1) r, true) = _ by simp [powL])
    rw [e3]
    exact Ev.tt (by omega) (Ev.bind (impl_toneOf_ev hp (by omega) l hl) (Ev.dbind hp1 (Ev.tt (by omega) ih)))
def powsM (p : Int) (l : List Int) : List Int × Bool := if sig l = true then (powL p l 0 p.toNat, true) else ([], false)
theorem powsM_len {p : Int} (hp : p = 4 ∨ p = 6) (l : List Int) : (powsM p l).1.length ≤ 1048576 := by
  unfold powsM
  split
  · simp only [powL_length]; omega
  · simp
theorem impl_powers_ev {p : Int} (hp : p = 4 ∨ p = 6) (l : List Int) (hl : l.length ≤ 10000000) : Ev (fun m => impl_powers.f m l p) (powsM p l) := by
  simp only [impl_powers.f]
  refine Ev.bind (impl_isSignal_ev l (by omega)) ?_
  by_cases c : sig l = true
  · refine Ev.tt c (Ev.to (impl_powers_l0 hp l (sig_len c) p.toNat 0 [] (by omega) rfl) (by rw [powsM, if_pos c]; simp))
  · exact Ev.ff c (Ev.to (Ev.now _) (by rw [powsM, if_neg c]))

theorem pow_same (a b c : Int) : wrap64 (wrap64 (wrap64 a + wrap64 c) + wrap64 b) = wrap64 (wrap64 (wrap64 a + wrap64 b) + wrap64 c) := by
  unfold wrap64
  omega
theorem spec_tnPower_eq {p : Int} (hp : p = 4 ∨ p = 6) (z : Int × Int) : spec_tnPower.f z.1 z.2 p = some (powM p z) := by
  unfold spec_tnPower.f powM
  rcases hp with rfl | rfl
  · rw [if_pos rfl, if_neg (by decide)]
  · rw [if_neg (by decide), if_pos rfl, pow_same]
theorem spec_tnPowers_l0 {p : Int} (hp : p = 4 ∨ p = 6) (l : List Int) (hl : l.length ≤ 64) : ∀ (r j : Nat) (q : List Int), (j : Int) + (r : Int) = p → q.length = j →
    Ev (fun m => spec_tnPowers.l0 m l p q (j : Int)) (q ++ powL p l j r)
  | 0, j, q, h, hq => by
    refine Ev.to (Ev.step (f := fun _ => some q) (fun m => ?_) (Ev.now _)) (by simp [powL])
    simp only [spec_tnPowers.l0]
    rw [if_neg (by omega)]
  | r + 1, j, q, h, hq => by
    have e3 : wrap64 ((j : Int) + 1) = ((j + 1 : Nat) : Int) := by rw [w64 (n := (j : Int) + 1) (by omega) (by omega)]; omega
    have hp1 := spec_tnPower_eq hp (tnM p (j : Int) l 0 0 0)
    have ih := spec_tnPowers_l0 hp l hl r (j + 1) (q ++ [powM p (tnM p (j : Int) l 0 0 0)]) (by omega) (by simp [hq])
    refine Ev.to (Ev.step (fun m => by simp only [spec_tnPowers.l0]; rfl) ?_) (show (q ++ [powM p (tnM p (j : Int) l 0 0 0)]) ++ powL p l (j + 1) r = _ by simp [powL])
    rw [e3]
    exact Ev.tt (by omega) (Ev.bind (spec_tnTone_ev hp (by omega) (by omega) l hl) (Ev.dbind hp1 (Ev.tt (by omega) ih)))
theorem spec_tnPowers_ev {p : Int} (hp : p = 4 ∨ p = 6) (l : List Int) (hl : l.length ≤ 64) : Ev (fun m => spec_tnPowers.f m l p) (powL p l 0 p.toNat) := by
  simp only [spec_tnPowers.f]
  exact Ev.to (spec_tnPowers_l0 hp l hl p.toNat 0 [] (by omega) rfl) (by simp)

theorem isParts_eq (p : Int) : (if p = 4 then (some true) else (some (p == 6)) : Option Bool) = some (decide (p = 4 ∨ p = 6)) := by
  by_cases c : p = 4
  · rw [if_pos c, decide_eq_true (.inl c)]
  · rw [if_neg c]
    by_cases d : p = 6
    · rw [decide_eq_true (.inr d), d]
      rfl
    · rw [decide_eq_false (fun h => h.elim c d), beq_eq_false_iff_ne.mpr d]

def isBest (l : List Int) (b : Nat) : Prop := b < l.length ∧ (∀ i : Nat, i < l.length → rd l (i : Int) ≤ rd l (b : Int)) ∧ ∀ i : Nat, i < b → rd l (i : Int) < rd l (b : Int)
theorem isBest_one {l : List Int} {b c : Nat} (h : isBest l b) (h' : isBest l c) : b = c := by
  rcases Nat.lt_trichotomy b c with h1 | h1 | h1
  · have h2 := h'.2.2 b h1
    have h3 := h.2.1 c h'.1
    omega
  · exact h1
  · have h2 := h.2.2 c h1
    have h3 := h'.2.1 b h.1
    omega
theorem max_l0 (l : List Int) (hl : l.length ≤ 1000) : ∀ (r n : Nat) (m : Int), n + r = l.length → (∀ i : Nat, i < n → rd l (i : Int) ≤ m) → (∃ j : Nat, j < l.length ∧ rd l (j : Int) = m) →
    ∃ M, Ev (fun k => slices_Max_int_int.l0 k l m (n : Int)) M ∧ (∀ i : Nat, i < l.length → rd l (i : Int) ≤ M) ∧ ∃ j : Nat, j < l.length ∧ rd l (j : Int) = M
  | 0, n, m, h, h1, h2 => by
    refine ⟨m, Ev.step (f := fun _ => some m) (fun k => ?_) (Ev.now _), fun i hi => h1 i (by omega), h2⟩
    simp only [slices_Max_int_int.l0]
    rw [if_neg (by omega)]
  | r + 1, n, m, h, h1, h2 => by
    have e3 : wrap64 ((n : Int) + 1) = ((n + 1 : Nat) : Int) := by rw [w64 (n := (n : Int) + 1) (by omega) (by omega)]; omega
    have hm : m ≤ mx m (rd l (n : Int)) ∧ rd l (n : Int) ≤ mx m (rd l (n : Int)) ∧ (mx m (rd l (n : Int)) = m ∨ mx m (rd l (n : Int)) = rd l (n : Int)) := by
      unfold mx
      split <;> omega
    obtain ⟨M, hE, hM⟩ := max_l0 l hl r (n + 1) (mx m (rd l (n : Int))) (by omega) (fun i hi => by
      by_cases c : i = n
      · rw [c]; exact hm.2.1
      · have := h1 i (by omega)
        omega) (by
      rcases hm.2.2 with e | e
      · rw [e]; exact h2
      · exact ⟨n, by omega, e.symm⟩)
    refine ⟨M, Ev.step (fun k => ?_) hE, hM⟩
    simp only [slices_Max_int_int.l0]
    rw [if_pos (by omega), if_pos (Int.natCast_nonneg _), e3]
theorem index_l0 (l : List Int) (hl : l.length ≤ 1000) (M : Int) (hM : ∃ j : Nat, j < l.length ∧ rd l (j : Int) = M) : ∀ (r n : Nat), n + r = l.length → (∀ i : Nat, i < n → rd l (i : Int) ≠ M) →
    ∃ b : Nat, b < l.length ∧ rd l (b : Int) = M ∧ (∀ i : Nat, i < b → rd l (i : Int) ≠ M) ∧ Ev (fun k => slices_Index_int_int.l0 k l M (l.length : Int) (n : Int)) (b : Int)
  | 0, n, h, h1 => by
    obtain ⟨j, j1, j2⟩ := hM
    exact absurd j2 (h1 j (by omega))
  | r + 1, n, h, h1 => by
    have e3 : wrap64 ((n : Int) + 1) = ((n + 1 : Nat) : Int) := by rw [w64 (n := (n : Int) + 1) (by omega) (by omega)]; omega
    by_cases c : M = rd l (n : Int)
    · refine ⟨n, by omega, c.symm, h1, Ev.step (f := fun _ => some (n : Int)) (fun k => ?_) (Ev.now _)⟩
      simp only [slices_Index_int_int.l0]
      rw [if_pos (by omega), if_pos (Int.natCast_nonneg _), if_pos (by omega), if_pos c]
    · obtain ⟨b, b1, b2, b3, b4⟩ := index_l0 l hl M hM r (n + 1) (by omega) (fun i hi => by
        by_cases d : i = n
        · rw [d]; exact fun e => c e.symm
        · exact h1 i (by omega))
      refine ⟨b, b1, b2, b3, Ev.step (fun k => ?_) b4⟩
      simp only [slices_Index_int_int.l0]
      rw [if_pos (by omega), if_pos (Int.natCast_nonneg _), if_pos (by omega), if_neg c, e3]
theorem best_l0 (l : List Int) (hl : l.length ≤ 1000) : ∀ (r n b : Nat), n + r = l.length → b < l.length → (∀ i : Nat, i < n → rd l (i : Int) ≤ rd l (b : Int)) → (∀ i : Nat, i < b → rd l (i : Int) < rd l (b : Int)) →
    ∃ c, isBest l c ∧ Ev (fun k => spec_StrongestPart.l0 k l (b : Int) l (l.length : Int) (n : Int)) ((c : Int), true)
  | 0, n, b, h, hb, h1, h2 => by
    refine ⟨b, ⟨hb, fun i hi => h1 i (by omega), h2⟩, Ev.step (f := fun _ => some ((b : Int), true)) (fun k => ?_) (Ev.now _)⟩
    simp only [spec_StrongestPart.l0]
    rw [if_neg (by omega)]
  | r + 1, n, b, h, hb, h1, h2 => by
    have e3 : wrap64 ((n : Int) + 1) = ((n + 1 : Nat) : Int) := by rw [w64 (n := (n : Int) + 1) (by omega) (by omega)]; omega
    by_cases c : rd l (n : Int) > rd l (b : Int)
    · obtain ⟨d, d1, d2⟩ := best_l0 l hl r (n + 1) n (by omega) (by omega) (fun i hi => by
        by_cases e : i = n
        · rw [e]; exact Int.le_refl _
        · have := h1 i (by omega)
          omega) (fun i hi => by
        have := h1 i hi
        omega)
      refine ⟨d, d1, Ev.step (fun k => ?_) d2⟩
      simp only [spec_StrongestPart.l0]
      rw [if_pos (by omega), if_pos (Int.natCast_nonneg _), if_pos (by omega), if_pos (Int.natCast_nonneg _), if_pos (by omega), if_pos c, e3]
    · obtain ⟨d, d1, d2⟩ := best_l0 l hl r (n + 1) b (by omega) hb (fun i hi => by
        by_cases e : i = n
        · rw [e]; omega
        · exact h1 i (by omega)) h2
      refine ⟨d, d1, Ev.step (fun k => ?_) d2⟩
      simp only [spec_StrongestPart.l0]
      rw [if_pos (by omega), if_pos (Int.natCast_nonneg _), if_pos (by omega), if_pos (Int.natCast_nonneg _), if_pos (by omega), if_neg c, e3]
theorem StrongestPart_agree (l : List Int) (p : Int) (hl : l.length ≤ 1048576) : ∃ r, Ev (fun m => spec_StrongestPart.f m l p) r ∧ Ev (fun m => impl_StrongestPart.f m l p) r := by
  by_cases cp : decide (p = 4 ∨ p = 6) = true
  · have hp : p = 4 ∨ p = 6 := of_decide_eq_true cp
    by_cases c : sig l = true
    · have hlen : (powL p l 0 p.toNat).length = p.toNat := powL_length p l p.toNat 0
      have hp2 := impl_powers_ev hp l (by omega)
      rw [powsM, if_pos c] at hp2
      have hs2 := spec_tnPowers_ev hp l (sig_len c)
      generalize powL p l 0 p.toNat = L at *
      obtain ⟨b, hb, hE⟩ := best_l0 L (by omega) L.length 0 0 (by omega) (by omega) (fun i hi => by omega) (fun i hi => by omega)
      obtain ⟨M, hM, hM1, hM2⟩ := max_l0 L (by omega) (L.length - 1) 1 (rd L 0) (by omega) (fun i hi => by
        have : i = 0 := by omega
        rw [this]; exact Int.le_refl _) ⟨0, by omega, rfl⟩
      obtain ⟨b', b1, b2, b3, b4⟩ := index_l0 L (by omega) M hM2 L.length 0 (by omega) (fun i hi => by omega)
      have hb' : isBest L b' := ⟨b1, fun i hi => by rw [b2]; exact hM1 i hi, fun i hi => by
        have h1 := hM1 i (by omega)
        have h2 := b3 i hi
        rw [b2]
        omega⟩
      have e := isBest_one hb hb'
      subst e
      refine ⟨((b : Int), true), ?_, ?_⟩
      · simp only [spec_StrongestPart.f, spec_tnParts.f, isParts_eq, Option.bind_some]
        refine Ev.bind (spec_wdSignal_ev l (by omega)) (Ev.tt c ?_)
        rw [cp]
        refine Ev.step (fun k => by simp only [spec_StrongestPart.j0]; rfl) ?_
        exact Ev.ff (by decide) (Ev.bind hs2 hE)
      · simp only [impl_StrongestPart.f, impl_isParts.f, isParts_eq, Option.bind_some]
        refine Ev.tt cp (Ev.bind hp2 (Ev.tt rfl (Ev.bind (a := M) ?_ (Ev.bind (a := (b : Int)) ?_ (Ev.now _)))))
        · simp only [slices_Max_int_int.f]
          exact Ev.ff (by omega) (Ev.tt (by omega) hM)
        · simp only [slices_Index_int_int.f]
          exact b4
    · refine ⟨(0, false), ?_, ?_⟩
      · simp only [spec_StrongestPart.f, spec_tnParts.f, isParts_eq, Option.bind_some]
        refine Ev.bind (spec_wdSignal_ev l (by omega)) (Ev.ff c ?_)
        refine Ev.step (fun k => by simp only [spec_StrongestPart.j0]; rfl) ?_
        exact Ev.tt (by trivial) (Ev.now _)
      · simp only [impl_StrongestPart.f, impl_isParts.f, isParts_eq, Option.bind_some]
        have hp2 := impl_powers_ev hp l (by omega)
        rw [powsM, if_neg c] at hp2
        exact Ev.tt cp (Ev.bind hp2 (Ev.ff (by decide) (Ev.now _)))
  · refine ⟨(0, false), ?_, ?_⟩
    · simp only [spec_StrongestPart.f, spec_tnParts.f, isParts_eq, Option.bind_some]
      refine Ev.bind (spec_wdSignal_ev l (by omega)) ?_
      by_cases c : sig l = true
      · refine Ev.tt c ?_
        rw [Bool.eq_false_iff.mpr cp]
        refine Ev.step (fun k => by simp only [spec_StrongestPart.j0]; rfl) ?_
        exact Ev.tt (by decide) (Ev.now _)
      · refine Ev.ff c ?_
        refine Ev.step (fun k => by simp only [spec_StrongestPart.j0]; rfl) ?_
        exact Ev.tt (by trivial) (Ev.now _)
    · simp only [impl_StrongestPart.f, impl_isParts.f, isParts_eq, Option.bind_some]
      exact Ev.ff cp (Ev.now _)

theorem FnExactStrongestPart : laws_FnExactStrongestPart.Pure := by
  intro l a hm h8 hx ha
  apply Ev.rounds
  simp only [laws_FnExactStrongestPart.f]
  by_cases c : (l.length : Int) > 1048576
  · exact Ev.tt c (Ev.now _)
  have hl : l.length ≤ 1048576 := by omega
  obtain ⟨r, hs, hi⟩ := StrongestPart_agree l a hl
  refine Ev.ff c (Ev.bind (laws_toIntS_ev l (by omega)) (Ev.bind hs (Ev.bind (laws_toIntS_ev l (by omega)) (Ev.bind hi (Ev.tt rfl ?_)))))
  refine Ev.step (fun k => by simp only [laws_FnExactStrongestPart.j0, bne_self_eq_false]; rfl) ?_
  exact Ev.ff (by decide) (Ev.bind (laws_toIntS_ev l (by omega)) (Ev.bind (laws_eqIntS_self l (by omega)) (Ev.tt rfl (Ev.now _))))

end Go.Proofs.YtfjhlehaeephmaaDoor.Pure
