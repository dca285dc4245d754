/- The program's ToneOfPart returns what the reference's returns, for all arguments. Conditions: none beyond those that the statement itself prints. -/
import Derived.Test.YtfjhlehaeephmaaDoorPFnExactToneOfPartx3
namespace Go.Proofs.YtfjhlehaeephmaaDoor.Pure
open Go.RowKit Go.Proofs.YtfjhlehaeephmaaDoor.PFnExactToneOfPart Go.Proofs.YtfjhlehaeephmaaDoorW.PrintWords Go.Proofs.YtfjhlehaeephmaaDoorW.PrintLast Go.Proofs.YtfjhlehaeephmaaDoorW.PrintMore
set_option linter.unusedVariables false
set_option linter.unusedSimpArgs false

theorem w64 {n : Int} (h1 : -9223372036854775808 ≤ n) (h2 : n ≤ 9223372036854775807) : wrap64 n = n := by
  unfold wrap64
  omega
theorem Ev.to {α : Type} {g : Nat → Option α} {r r' : α} (h : Ev g r) (e : r = r') : Ev g r' := e ▸ h
theorem Ev.const {α : Type} {g : Option α} {r : α} (h : g = some r) : Ev (fun _ => g) r := ⟨0, fun _ _ => h⟩
theorem Ev.dbind {α β : Type} {g : Option α} {f : Nat → α → Option β} {a : α} {r : β} (h : g = some a) (k : Ev (fun n => f n a) r) : Ev (fun n => g.bind (f n)) r :=
  Ev.bind (g := fun _ => g) (Ev.const h) k
theorem Ev.tt {α : Type} {c : Prop} {_ : Decidable c} {g f : Nat → Option α} {r : α} (h : c) (k : Ev g r) : Ev (fun n => if c then g n else f n) r := by
  simpa only [if_pos h] using k
theorem Ev.ff {α : Type} {c : Prop} {_ : Decidable c} {g f : Nat → Option α} {r : α} (h : ¬ c) (k : Ev f r) : Ev (fun n => if c then g n else f n) r := by
  simpa only [if_neg h] using k
theorem rd_mid (p t : List Int) (x : Int) : rd (p ++ x :: t) (p.length : Int) = x := by
  simp [rd]
theorem lt_mid {α : Type} (p t : List α) (x : α) : (p.length : Int) < ((p ++ x :: t).length : Int) := by
  simp
  omega
theorem nx_mid {α : Type} (p t : List α) (x : α) (h : (p ++ x :: t).length ≤ 140737488351232) : wrap64 ((p.length : Int) + 1) = ((p ++ [x]).length : Int) := by
  simp at h ⊢
  exact w64 (by omega) (by omega)
theorem ap_mid {α : Type} (p t : List α) (x : α) : p ++ x :: t = (p ++ [x]) ++ t := by simp
theorem w64_nat (a b : Nat) (h : a + b ≤ 1000000000) : wrap64 ((a : Int) + (b : Int)) = ((a + b : Nat) : Int) := by
  rw [w64 (n := (a : Int) + (b : Int)) (by omega) (by omega)]
  omega
theorem w64_suc {α : Type} (q : List α) (x : α) (h : q.length ≤ 1000000000) : wrap64 ((q.length : Int) + 1) = ((q ++ [x]).length : Int) := by
  rw [w64 (n := (q.length : Int) + 1) (by omega) (by omega)]
  simp
theorem ar1 {a b c d : Nat} (h1 : a + 1 ≤ c) (h2 : b + 1 ≤ d) : ((a + b : Nat) : Int) < ((c + d - 1 : Nat) : Int) := by omega
theorem ar2 {a b c d : Nat} (h1 : a + 1 ≤ c) (h2 : b + 1 ≤ d) : a + b < c + d - 1 := by omega
theorem ar3 (a b : Nat) : ¬ (a ≤ a + b ∧ a + b - a < b) := by omega
theorem ar4 {v M : Int} (h : -M ≤ v ∧ v ≤ M) (hm : M ≤ 4000000000000000000) : wrap64 v = v := w64 (by omega) (by omega)
theorem ar5 {c v P M H : Int} (hc : -P ≤ c ∧ c ≤ P) (hv : -M ≤ v ∧ v ≤ M) (hp : P + M ≤ H) (hH : H ≤ 4000000000000000000) : wrap64 (c + v) = c + v := w64 (by omega) (by omega)
theorem ar6 {a b : Nat} {M : Int} (h : a + 1 ≤ b) (hM : 0 ≤ M) : (a : Int) * M + M ≤ (b : Int) * M := by
  have h1 : ((a : Int) + 1) * M ≤ (b : Int) * M := Int.mul_le_mul_of_nonneg_right (by omega) hM
  rw [Int.add_mul, Int.one_mul] at h1
  exact h1
theorem ar7 {a b c d : Nat} (h1 : a + 1 ≤ c) (h2 : b + 1 ≤ d) (h : c + d ≤ 100000000) : a + b ≤ 1000000000 := by omega
theorem ar8 {a c d : Nat} (h1 : a + 1 ≤ c) (h : c + d ≤ 100000000) : a ≤ 1000000000 := by omega

def backOf (n : Int) : Int × Bool := if n = 3 then (-1, true) else if n = 4 then (0, true) else if n = 6 then (1, true) else (0, false)
def tnF (c : Int) : List Int → Int → Int → Int × Int
  | [], y, z => (y, z)
  | x :: t, y, z => tnF c t (wrap64 ((wrap64 (x + (wrap64 (c * y)))) - z)) y
def sig (l : List Int) : Bool := decide (l.length ≤ 64) && l.all fun x => decide (-100000 ≤ x) && decide (x ≤ 100000)
def toneStates (l : List Int) (n : Int) : Int × Int × Bool := if (backOf n).2 = true then (if sig l = true then ((tnF (backOf n).1 l 0 0).1, (tnF (backOf n).1 l 0 0).2, true) else (0, 0, false)) else (0, 0, false)
theorem sig_len {l : List Int} (h : sig l = true) : l.length ≤ 64 := by
  simp [sig] at h
  exact h.1
theorem sig_mem {l : List Int} (h : sig l = true) : ∀ x ∈ l, -100000 ≤ x ∧ x ≤ 100000 := by
  simp [sig] at h
  exact h.2
def isBits (l : List Int) : Bool := decide (l.length ≤ 200) && l.all fun x => decide (x = 1 ∨ x = -1)
theorem isBits_len {l : List Int} (h : isBits l = true) : l.length ≤ 200 := by
  simp [isBits] at h
  exact h.1
theorem isBits_mem {l : List Int} (h : isBits l = true) : ∀ x ∈ l, x = 1 ∨ x = -1 := by
  simp [isBits] at h
  exact h.2
def toldM (l : List Int) : List Int × Bool := if sig l = true then (l, true) else ([], false)
theorem toldM_len (l : List Int) : (toldM l).1.length ≤ 64 := by
  unfold toldM
  split
  · exact sig_len ‹_›
  · simp
def bitM (x v : Int) : Int := if x ≥ v then 1 else -1
theorem bitM_cases (x v : Int) : bitM x v = 1 ∨ bitM x v = -1 := by
  unfold bitM
  split <;> simp
def tkS (st last : Int) (fixed : Bool) (bit : Int) : Int :=
  if fixed = true then st else if last = 0 then st else if bit = last then (if 2 * st ≤ 4096 then 2 * st else 4096) else (if 1 ≤ st / 2 then st / 2 else 1)
theorem tkS_bd {st last : Int} {fixed : Bool} {bit : Int} (h0 : 1 ≤ st) (h1 : st ≤ 4096) : 1 ≤ tkS st last fixed bit ∧ tkS st last fixed bit ≤ 4096 := by
  unfold tkS
  repeat' split
  all_goals omega
theorem mul_bit {st bit : Int} (hb : bit = 1 ∨ bit = -1) : st * bit = st ∨ st * bit = -st := by
  rcases hb with rfl | rfl
  · left; omega
  · right; omega
/-- bit, value and step behind each sample -/
def codeM (fixed : Bool) : List Int → Int → Int → Int → List (Int × Int × Int)
  | [], _, _, _ => []
  | x :: t, v, st, last =>
    let b := bitM x v
    let s := tkS st last fixed b
    (b, v + s * b, s) :: codeM fixed t (v + s * b) s b
theorem codeM_length (fixed : Bool) : ∀ (l : List Int) (v st last : Int), (codeM fixed l v st last).length = l.length
  | [], _, _, _ => rfl
  | x :: t, v, st, last => by simp [codeM, codeM_length fixed t]
def fixM (st : Int) : List Int → Int → List Int
  | [], _ => []
  | x :: t, v => bitM x v :: fixM st t (v + bitM x v * st)
theorem fixM_length (st : Int) : ∀ (l : List Int) (v : Int), (fixM st l v).length = l.length
  | [], _ => rfl
  | x :: t, v => by simp [fixM, fixM_length st t]
def fixedBits (l : List Int) (st : Int) : List Int × Bool := if sig l = true ∧ 1 ≤ st ∧ st ≤ 4096 then (fixM st l 0, true) else ([], false)
def decM (fixed : Bool) : List Int → Int → Int → Int → List (Int × Int)
  | [], _, _, _ => []
  | b :: t, v, st, last => (v + tkS st last fixed b * b, tkS st last fixed b) :: decM fixed t (v + tkS st last fixed b * b) (tkS st last fixed b) b
theorem decM_length (fixed : Bool) : ∀ (l : List Int) (v st last : Int), (decM fixed l v st last).length = l.length
  | [], _, _, _ => rfl
  | x :: t, v, st, last => by simp [decM, decM_length fixed t]
def gapM : List Int → List Int → List Int
  | x :: t, y :: u => (x - y) :: gapM t u
  | _, _ => []
theorem gapM_length : ∀ (l m : List Int), l.length = m.length → (gapM l m).length = l.length
  | [], m, _ => by cases m <;> simp [gapM]
  | x :: t, [], h => by simp at h
  | x :: t, y :: u, h => by
    simp at h
    simp [gapM, gapM_length t u h]
theorem codeM_val (fixed : Bool) : ∀ (l : List Int) (v st last : Int) (n : Int), 1 ≤ st → st ≤ 4096 → -4096 * n ≤ v → v ≤ 4096 * n → ∀ y ∈ (codeM fixed l v st last).map (·.2.1), -4096 * (n + l.length) ≤ y ∧ y ≤ 4096 * (n + l.length)
  | [], _, _, _, _, _, _, _, _, y, hy => by simp [codeM] at hy
  | x :: t, v, st, last, n, h0, h1, hv0, hv1, y, hy => by
    have hb := bitM_cases x v
    have hk := tkS_bd (last := last) (fixed := fixed) (bit := bitM x v) h0 h1
    have hm := mul_bit (st := tkS st last fixed (bitM x v)) hb
    simp only [codeM, List.map_cons, List.mem_cons] at hy
    rcases hy with rfl | hy
    · simp; omega
    · have := codeM_val fixed t _ _ _ (n + 1) hk.1 hk.2 (by omega) (by omega) y hy
      simp; omega
def stepOk (st : Int) : Bool := decide (1 ≤ st) && decide (st ≤ 4096)
theorem stepOk_iff {st : Int} : stepOk st = true ↔ 1 ≤ st ∧ st ≤ 4096 := by simp [stepOk]
def stepBits (l : List Int) (st : Int) : List Int × Bool := if sig l = true then (if stepOk st = true then ((codeM false l 0 st 0).map (·.1), true) else ([], false)) else ([], false)
def stepValues (l : List Int) (st : Int) : List Int × Bool := if isBits l = true then (if stepOk st = true then toldM ((decM false l 0 st 0).map (·.1)) else ([], false)) else ([], false)
def stepsOfBits (l : List Int) (st : Int) : List Int × Bool := if isBits l = true then (if stepOk st = true then toldM ((decM false l 0 st 0).map (·.2)) else ([], false)) else ([], false)
def fixedValues (l : List Int) (st : Int) : List Int × Bool := if isBits l = true then (if stepOk st = true then toldM ((decM true l 0 st 0).map (·.1)) else ([], false)) else ([], false)
def stepGaps (l : List Int) (st : Int) : List Int × Bool := if sig l = true then (if stepOk st = true then toldM (gapM l ((codeM false l 0 st 0).map (·.2.1))) else ([], false)) else ([], false)
def wts (l : List Int) : Bool := decide (1 ≤ l.length) && decide (l.length ≤ 9) && l.all fun x => decide (-1000 ≤ x) && decide (x ≤ 1000)
theorem wts_len {l : List Int} (h : wts l = true) : 1 ≤ l.length ∧ l.length ≤ 9 := by
  simp [wts] at h
  exact ⟨h.1.1, h.1.2⟩
theorem wts_mem {l : List Int} (h : wts l = true) : ∀ x ∈ l, -1000 ≤ x ∧ x ≤ 1000 := by
  simp [wts] at h
  exact h.2
def ratio (p q : Int) : Bool := (decide (1 ≤ p) && decide (p ≤ 8)) && (decide (1 ≤ q) && decide (q ≤ 8))
theorem ratio_iff {p q : Int} : ratio p q = true ↔ (1 ≤ p ∧ p ≤ 8) ∧ (1 ≤ q ∧ q ≤ 8) := by simp [ratio]
def rsOk (h l : List Int) (p q : Int) : Bool := wts h && ((sig l && ratio p q) && decide ((l.length : Int) * p ≤ 64))
def peakM : List Int → Nat → Nat
  | [], m => m
  | x :: t, m => peakM t (max m x.natAbs)

def cv : List Int → List Int → Nat → Int
  | [], _, _ => 0
  | w :: _, s, 0 => w * s.getD 0 0
  | w :: h, s, n + 1 => w * s.getD (n + 1) 0 + cv h s n
def Lf (f : Nat → Int) (N : Nat) : List Int := (List.range N).map f
theorem Lf_length (f : Nat → Int) (N : Nat) : (Lf f N).length = N := by simp [Lf]
theorem rd_Lf (f : Nat → Int) (N i : Nat) (h : i < N) : rd (Lf f N) (i : Int) = f i := by
  simp [rd, Lf, h]
theorem set_Lf (f : Nat → Int) (N i : Nat) (v : Int) : (Lf f N).set i v = Lf (fun n => if n = i then v else f n) N := by
  apply List.ext_getElem
  · simp [Lf]
  · intro n h1 h2
    simp [Lf, List.getElem_set]
    by_cases c : i = n
    · simp [c]
    · rw [if_neg c, if_neg (fun h => c h.symm)]
theorem Lf_congr {f g : Nat → Int} {N : Nat} (h : ∀ n, n < N → f n = g n) : Lf f N = Lf g N := by
  apply List.ext_getElem
  · simp [Lf]
  · intro n h1 h2
    simp [Lf] at h1 ⊢
    exact h n h1
theorem cv_snoc (s : List Int) (w : Int) : ∀ (p : List Int) (n : Nat), cv (p ++ [w]) s n = cv p s n + (if p.length ≤ n then w * s.getD (n - p.length) 0 else 0)
  | [], 0 => by simp [cv]
  | [], n + 1 => by simp [cv]
  | a :: p, 0 => by simp [cv]
  | a :: p, n + 1 => by
    simp only [List.cons_append, cv, cv_snoc s w p n, List.length_cons, Nat.add_le_add_iff_right, Nat.add_sub_add_right]
    omega
theorem getD_bd {s : List Int} {a M : Int} (hM : 0 ≤ M) (h : ∀ x ∈ s, -M ≤ a * x ∧ a * x ≤ M) (n : Nat) : -M ≤ a * s.getD n 0 ∧ a * s.getD n 0 ≤ M := by
  rw [List.getD_eq_getElem?_getD]
  by_cases c : n < s.length
  · rw [List.getElem?_eq_getElem c]
    exact h _ (List.getElem_mem c)
  · rw [List.getElem?_eq_none (by omega)]
    simp
    omega
theorem cv_bd {s : List Int} {M : Int} (hM : 0 ≤ M) : ∀ (h : List Int) (n : Nat), (∀ a ∈ h, ∀ x ∈ s, -M ≤ a * x ∧ a * x ≤ M) → -(h.length * M) ≤ cv h s n ∧ cv h s n ≤ h.length * M
  | [], n, hb => by simp [cv]
  | a :: h, 0, hb => by
    have h1 := getD_bd hM (hb a (by simp)) 0
    have h2 : 0 ≤ (h.length : Int) * M := Int.mul_nonneg (by omega) hM
    simp only [cv, List.length_cons, Int.natCast_add, Int.add_mul]
    omega
  | a :: h, n + 1, hb => by
    have h1 := getD_bd hM (hb a (by simp)) (n + 1)
    have h2 := cv_bd hM h n (fun b hbm => hb b (by simp [hbm]))
    simp only [cv, List.length_cons, Int.natCast_add, Int.add_mul]
    omega
def conv (h s : List Int) : List Int := if s = [] then [] else Lf (cv h s) (h.length + s.length - 1)
theorem conv_length (h s : List Int) (hs : s ≠ []) : (conv h s).length = h.length + s.length - 1 := by
  rw [conv, if_neg hs, Lf_length]
/-- what stands in the list when the weights p are done, and of the weight w the samples q -/
def cvi (p q s : List Int) (w : Int) (n : Nat) : Int := cv p s n + (if p.length ≤ n ∧ n - p.length < q.length then w * s.getD (n - p.length) 0 else 0)
theorem cvi_nil (p s : List Int) (w : Int) : cvi p [] s w = cv p s := by
  funext n
  simp [cvi]
theorem cvi_all (p s : List Int) (w : Int) (n : Nat) : cvi p s s w n = cv (p ++ [w]) s n := by
  rw [cv_snoc, cvi]
  by_cases c : p.length ≤ n
  · by_cases d : n - p.length < s.length
    · rw [if_pos ⟨c, d⟩, if_pos c]
    · rw [if_neg (fun h => d h.2), if_pos c, List.getD_eq_getElem?_getD, List.getElem?_eq_none (by omega)]
      simp
  · rw [if_neg (fun h => c h.1), if_neg c]
theorem getD_mid (q t : List Int) (x : Int) : (q ++ x :: t).getD q.length 0 = x := by simp
theorem cvi_step (p q t : List Int) (w x : Int) (n : Nat) : (if n = p.length + q.length then cvi p q (q ++ x :: t) w n + w * x else cvi p q (q ++ x :: t) w n) = cvi p (q ++ [x]) (q ++ x :: t) w n := by
  unfold cvi
  by_cases c : n = p.length + q.length
  · subst c
    have e : p.length + q.length - p.length = q.length := by omega
    rw [if_pos rfl, e, getD_mid, if_neg (by omega), if_pos ⟨by omega, by simp⟩]
    omega
  · rw [if_neg c]
    by_cases d : p.length ≤ n ∧ n - p.length < q.length
    · rw [if_pos d, if_pos ⟨d.1, by simp; omega⟩]
    · rw [if_neg d, if_neg (fun h => d ⟨h.1, by have := h.2; simp at this; omega⟩)]
theorem Lf_succ (f : Nat → Int) (n : Nat) : Lf f (n + 1) = Lf f n ++ [f n] := by simp [Lf, List.range_succ]
def dropN (len rate first : Nat) : Nat := (len - first + rate - 1) / rate
theorem dropN_lt {len rate first j : Nat} (hr : 1 ≤ rate) : j < dropN len rate first ↔ first + j * rate < len := by
  unfold dropN
  rw [Nat.lt_iff_add_one_le, Nat.le_div_iff_mul_le (by omega), Nat.add_mul]
  omega
def dropM (l : List Int) (rate first : Nat) : List Int := Lf (fun j => l.getD (first + j * rate) 0) (dropN l.length rate first)
theorem dropM_length (l : List Int) (rate first : Nat) : (dropM l rate first).length = dropN l.length rate first := Lf_length _ _
theorem dropN_le {len rate first : Nat} (hr : 1 ≤ rate) : dropN len rate first ≤ len := by
  apply Nat.le_of_not_lt
  intro h
  have := (dropN_lt hr).1 h
  have h2 : len * 1 ≤ len * rate := Nat.mul_le_mul_left len hr
  omega
def stuffM (p : Nat) : List Int → List Int
  | [] => []
  | x :: t => (x :: List.replicate (p - 1) 0) ++ stuffM p t
theorem stuffM_length (p : Nat) (hp : 1 ≤ p) : ∀ l : List Int, (stuffM p l).length = l.length * p
  | [] => by simp [stuffM]
  | x :: t => by
    simp only [stuffM, List.length_append, List.length_cons, List.length_replicate, stuffM_length p hp t, Nat.add_mul]
    omega
theorem stuffM_snoc (p : Nat) (x : Int) : ∀ l : List Int, stuffM p (l ++ [x]) = stuffM p l ++ (x :: List.replicate (p - 1) 0)
  | [] => by simp [stuffM]
  | y :: t => by simp [stuffM, stuffM_snoc p x t]
theorem rd_getD (l : List Int) (i : Nat) : rd l (i : Int) = l.getD i 0 := by simp [rd]
theorem stuffM_sig (p : Nat) : ∀ l : List Int, (∀ x ∈ l, -100000 ≤ x ∧ x ≤ 100000) → ∀ x ∈ stuffM p l, -100000 ≤ x ∧ x ≤ 100000
  | [], _, x, h => by simp [stuffM] at h
  | y :: t, hl, x, h => by
    simp only [stuffM, List.mem_append, List.mem_cons, List.mem_replicate] at h
    rcases h with (rfl | ⟨_, rfl⟩) | h
    · exact hl _ (by simp)
    · omega
    · exact stuffM_sig p t (fun z hz => hl z (by simp [hz])) x h
theorem sig_iff {l : List Int} : sig l = true ↔ l.length ≤ 64 ∧ ∀ x ∈ l, -100000 ≤ x ∧ x ≤ 100000 := by simp [sig]
theorem ediv_bd {x b : Int} (hb : 0 < b) (hx : -4611686018427387904 ≤ x ∧ x ≤ 4611686018427387904) : -4611686018427387905 ≤ x / b ∧ x / b ≤ 4611686018427387905 := by
  have h0 := Int.emod_nonneg x (show b ≠ 0 by omega)
  have h1 := Int.emod_lt_of_pos x hb
  have h2 := Int.emod_add_mul_ediv x b
  constructor
  · apply Int.not_lt.1
    intro h
    have : b * (x / b) ≤ 1 * (x / b) := Int.mul_le_mul_of_nonpos_right (by omega) (by omega)
    have h3 : b * (x / b) ≤ b * (-4611686018427387906) := Int.mul_le_mul_of_nonneg_left (by omega) (by omega)
    omega
  · apply Int.not_lt.1
    intro h
    have h3 : 1 * (x / b) ≤ b * (x / b) := Int.mul_le_mul_of_nonneg_right (by omega) (by omega)
    omega
def atM (s : List Int) (i : Int) : Int := if 0 ≤ i then s.getD i.toNat 0 else 0
theorem getD_all {l : List Int} {M : Int} (hM : 0 ≤ M) (h : ∀ x ∈ l, -M ≤ x ∧ x ≤ M) (n : Nat) : -M ≤ l.getD n 0 ∧ l.getD n 0 ≤ M := by
  rw [List.getD_eq_getElem?_getD]
  by_cases c : n < l.length
  · rw [List.getElem?_eq_getElem c]
    exact h _ (List.getElem_mem c)
  · rw [List.getElem?_eq_none (by omega)]
    simp
    omega

theorem laws_eqIntS_l0 (l m : List Int) (hl : l.length ≤ 140737488351232) : ∀ (t p u q : List Int), l = p ++ t → m = q ++ u → p.length = q.length → t.length = u.length → Ev (fun k => laws_eqIntS.l0 k l m (p.length : Int)) (t == u)
  | [], p, [], q, h, h', e, _ => by
    apply Ev.step (f := fun _ => some _)
    · intro k
      subst h
      simp [laws_eqIntS.l0]; rfl
    · exact Ev.now _
  | x :: t, p, y :: u, q, h, h', e, e' => by
    have e1 : (p.length : Int) < (l.length : Int) := by rw [h]; exact lt_mid p t x
    have e2 : rd l (p.length : Int) = x := by rw [h]; exact rd_mid p t x
    have e3 : wrap64 ((p.length : Int) + 1) = ((p ++ [x]).length : Int) := nx_mid p t x (h ▸ hl)
    have e4 : (p.length : Int) < (m.length : Int) := by rw [h', e]; exact lt_mid q u y
    have e5 : rd m (p.length : Int) = y := by rw [h', e]; exact rd_mid q u y
    by_cases c : x = y
    · refine Ev.to (Ev.step (fun k => ?_) (laws_eqIntS_l0 l m hl t (p ++ [x]) u (q ++ [y]) (by simp [h]) (by simp [h']) (by simp [e]) (by simpa using e'))) (by simp [c])
      simp only [laws_eqIntS.l0, if_pos e1, if_pos (Int.natCast_nonneg _), if_pos e4, e2, e3, e5, if_pos c]
    · refine Ev.to (Ev.step (fun k => ?_) (Ev.now false)) (by simp [c])
      simp only [laws_eqIntS.l0, if_pos e1, if_pos (Int.natCast_nonneg _), if_pos e4, e2, e3, e5, if_neg c]
theorem laws_eqIntS_ev (l m : List Int) (hl : l.length ≤ 140737488351232) : Ev (fun k => laws_eqIntS.f k l m) (l == m) := by
  simp only [laws_eqIntS.f]
  by_cases c : (l.length : Int) = (m.length : Int)
  · exact Ev.tt c (laws_eqIntS_l0 l m hl l [] m [] rfl rfl rfl (by omega))
  · refine Ev.ff c (Ev.to (Ev.now false) ?_)
    have : l ≠ m := fun h => c (by rw [h])
    simp [this]
theorem laws_eqIntS_self (l : List Int) (hl : l.length ≤ 140737488351232) : Ev (fun k => laws_eqIntS.f k l l) true := Ev.to (laws_eqIntS_ev l l hl) (by simp)

def marks : Nat → Int → List Int
  | 0, _ => []
  | n + 1, m => m :: marks n (m + 1)
theorem marks_length : ∀ (n : Nat) (m : Int), (marks n m).length = n
  | 0, _ => rfl
  | n + 1, m => by simp [marks, marks_length n]
theorem laws_markIntS_l0 : ∀ (t p : List Int) (m : Int), p.length + t.length ≤ 140737488351232 → 0 ≤ m → m + t.length ≤ 1000000000000000000 → Ev (fun k => laws_markIntS.l0 k (p ++ t) m (p.length : Int)) (m + t.length, p ++ marks t.length m)
  | [], p, m, h, h0, h1 => Ev.to (Ev.step (f := fun _ => some (m, p)) (fun k => by simp [laws_markIntS.l0]) (Ev.now _)) (by simp [marks])
  | x :: t, p, m, h, h0, h1 => by
    have e1 : (p.length : Int) < ((p ++ x :: t).length : Int) := lt_mid p t x
    simp only [List.length_cons] at h h1
    have e3 : wrap64 ((p.length : Int) + 1) = ((p ++ [m]).length : Int) := by
      simp
      exact w64 (by omega) (by omega)
    have e5 : (p ++ x :: t).set (p.length : Int).toNat m = (p ++ [m]) ++ t := by simp
    have e6 : wrap64 (m + 1) = m + 1 := w64 (by omega) (by omega)
    refine Ev.to (Ev.step (fun k => ?_) (laws_markIntS_l0 t (p ++ [m]) (m + 1) (by simp; omega) (by omega) (by omega))) ?_
    · simp only [laws_markIntS.l0, if_pos e1, if_pos (Int.natCast_nonneg _), e3, e5, e6]
    · simp [marks]; omega
theorem laws_markIntS_ev (l : List Int) (m : Int) (h : l.length ≤ 140737488351232) (h0 : 0 ≤ m) (h1 : m ≤ 100000000000000000) : Ev (fun k => laws_markIntS.f k l m) (m + l.length, marks l.length m) := by
  have h := laws_markIntS_l0 l [] m (by simpa using h) h0 (by omega)
  simpa [laws_markIntS.f] using h

theorem laws_heldIntS_l0 : ∀ (n : Nat) (l p : List Int) (m : Int), l = p ++ marks n m → l.length ≤ 140737488351232 → 0 ≤ m → m + n ≤ 1000000000000000000 → Ev (fun k => laws_heldIntS.l0 k l m (p.length : Int)) (m + n)
  | 0, l, p, m, h, hl, h0, h1 => Ev.to (Ev.step (f := fun _ => some m) (fun k => by subst h; simp [laws_heldIntS.l0, marks]) (Ev.now _)) (by simp)
  | n + 1, l, p, m, h, hl, h0, h1 => by
    simp only [marks] at h
    have e1 : (p.length : Int) < (l.length : Int) := by rw [h]; exact lt_mid p _ _
    have e2 : rd l (p.length : Int) = m := by rw [h]; exact rd_mid p _ _
    have e3 : wrap64 ((p.length : Int) + 1) = ((p ++ [m]).length : Int) := nx_mid p _ m (h ▸ hl)
    have e6 : wrap64 (m + 1) = m + 1 := w64 (by omega) (by omega)
    refine Ev.to (Ev.step (fun k => ?_) (laws_heldIntS_l0 n l (p ++ [m]) (m + 1) (by simp [h]) hl (by omega) (by omega))) (by omega)
    simp only [laws_heldIntS.l0, if_pos e1, if_pos (Int.natCast_nonneg _), e2, if_true, e3, e6]
theorem laws_heldIntS_ev (n : Nat) (h : n ≤ 140737488351232) : Ev (fun k => laws_heldIntS.f k (marks n 1) 1) (1 + n) := by
  have h := laws_heldIntS_l0 n (marks n 1) [] 1 rfl (by simpa [marks_length] using h) (by omega) (by omega)
  simpa [laws_heldIntS.f] using h

theorem spec_l1In_eq (a b c : Int) : spec_l1In.f a b c = some (decide (b ≤ a) && decide (a ≤ c)) := by
  unfold spec_l1In.f
  by_cases h : b ≤ a <;> simp [h]

theorem impl_in_eq (a b c : Int) : impl_in.f a b c = some (decide (b ≤ a) && decide (a ≤ c)) := by
  unfold impl_in.f
  by_cases h : b ≤ a <;> simp [h]

theorem impl_isSignal_c1_eq (x : Int) : impl_isSignal_c1.f x = some (!(decide (-100000 ≤ x) && decide (x ≤ 100000))) := by
  unfold impl_isSignal_c1.f
  rw [impl_in_eq]
  rfl
theorem indexSignal_l0 (l : List Int) (hl : l.length ≤ 140737488351232) : ∀ (t p : List Int), l = p ++ t → ∃ r, Ev (fun k => slices_IndexFunc_int_int_impl_isSignal_c1.l0 k l (l.length : Int) (p.length : Int)) r ∧ (decide (r ≥ 0) = !(t.all fun x => decide (-100000 ≤ x) && decide (x ≤ 100000)))
  | [], p, h => by
    refine ⟨-1, Ev.step (f := fun _ => some (-1)) ?_ (Ev.now _), by simp⟩
    intro k
    subst h
    simp [slices_IndexFunc_int_int_impl_isSignal_c1.l0]
  | x :: t, p, h => by
    have e1 : (p.length : Int) < (l.length : Int) := by rw [h]; exact lt_mid p t x
    have e2 : rd l (p.length : Int) = x := by rw [h]; exact rd_mid p t x
    have e3 : wrap64 ((p.length : Int) + 1) = ((p ++ [x]).length : Int) := nx_mid p t x (h ▸ hl)
    by_cases c : (decide (-100000 ≤ x) && decide (x ≤ 100000)) = true
    · obtain ⟨r, h1, h2⟩ := indexSignal_l0 l hl t (p ++ [x]) (by simp [h])
      refine ⟨r, Ev.step (fun k => ?_) h1, by rw [h2, List.all_cons, c, Bool.true_and]⟩
      simp only [slices_IndexFunc_int_int_impl_isSignal_c1.l0, if_pos e1, if_pos (Int.natCast_nonneg _), e2, e3, impl_isSignal_c1_eq, c, Option.bind_some, Bool.not_true]
      rfl
    · have c := Bool.eq_false_iff.mpr c
      refine ⟨(p.length : Int), Ev.step (fun k => ?_) (Ev.now _), by rw [List.all_cons, c]; simp⟩
      simp only [slices_IndexFunc_int_int_impl_isSignal_c1.l0, if_pos e1, if_pos (Int.natCast_nonneg _), e2, e3, impl_isSignal_c1_eq, c, Option.bind_some, Bool.not_false]
      rfl
theorem impl_isSignal_ev (l : List Int) (hl : l.length ≤ 140737488351232) : Ev (fun k => impl_isSignal.f k l) (sig l) := by
  simp only [impl_isSignal.f]
  by_cases c : (l.length : Int) ≤ 64
  · obtain ⟨r, h1, h2⟩ := indexSignal_l0 l hl l [] rfl
    refine Ev.tt c (Ev.bind (a := decide (r ≥ 0)) ?_ (Ev.to (Ev.now _) ?_))
    · simp only [slices_ContainsFunc_int_int_impl_isSignal_c1.f, slices_IndexFunc_int_int_impl_isSignal_c1.f]
      exact Ev.bind h1 (Ev.now _)
    · rw [h2]; simp [sig]; omega
  · refine Ev.ff c (Ev.to (Ev.now _) ?_)
    simp [sig]; omega

theorem impl_told_ev (l : List Int) (hl : l.length ≤ 140737488351232) : Ev (fun k => impl_told.f k l) (toldM l) := by
  simp only [impl_told.f, toldM]
  refine Ev.bind (impl_isSignal_ev l hl) ?_
  by_cases c : sig l = true
  · exact Ev.tt c (Ev.to (Ev.now _) (by rw [if_pos c]))
  · exact Ev.ff c (Ev.to (Ev.now _) (by rw [if_neg c]))

/-- A number shifted: down, to the nearest one, towards 0. -/
def shM (x b mode : Int) : Int := if mode = 1 ∧ b ≤ 2 * (x % b) ∧ 0 < x % b then x / b + 1 else if mode = 2 ∧ x < 0 ∧ 0 < x % b then x / b + 1 else x / b
theorem div_uniq {x b q r : Int} (h : x = q * b + r) (h0 : 0 ≤ r) (h1 : r < b) : x / b = q := by
  have hb : 0 < b := by omega
  exact ((Int.ediv_emod_unique hb).2 ⟨by rw [h, Int.mul_comm]; omega, h0, h1⟩).1
theorem pow2_pos (s : Nat) : (0 : Int) < 2 ^ s := Int.pow_pos (by decide)
theorem pow2_le {s : Nat} (h : s ≤ 20) : (2 : Int) ^ s ≤ 1048576 := by
  have h1 : (2 : Nat) ^ s ≤ 2 ^ 20 := Nat.pow_le_pow_right (by decide) h
  have h3 : (2 : Int) ^ s = (((2 : Nat) ^ s : Nat) : Int) := by simp
  rw [h3]
  have h2 : (2 : Nat) ^ 20 = 1048576 := by decide
  omega
theorem shl_one {s : Nat} (h : s ≤ 20) : shl .i64 1 (s : Int) = 2 ^ s := by
  unfold shl
  have h1 : min ((s : Int)).toNat IntKind.i64.bits = s := by
    simp [IntKind.bits]; omega
  rw [h1, Int.one_mul, IntKind.wrap_i64]
  have := pow2_pos s
  have := pow2_le h
  omega
theorem shl_mul {s : Nat} (h : s ≤ 20) (y : Int) (h1 : -9223372036854775808 ≤ y * 2 ^ s) (h2 : y * 2 ^ s ≤ 9223372036854775807) : shl .i64 y (s : Int) = y * 2 ^ s := by
  unfold shl
  have e : min ((s : Int)).toNat IntKind.i64.bits = s := by
    simp [IntKind.bits]; omega
  rw [e, IntKind.wrap_i64]
  omega
theorem shr_div {s : Nat} (h : s ≤ 20) (y : Int) : shr .i64 y (s : Int) = y / 2 ^ s := by
  unfold shr
  have e : min ((s : Int)).toNat IntKind.i64.bits = s := by
    simp [IntKind.bits]; omega
  rw [e]
theorem mod_eq (x b : Int) : x = (x / b) * b + x % b := by
  have := Int.emod_add_mul_ediv x b
  rw [Int.mul_comm] at this
  omega

def numOk (x : Int) : Bool := decide (-1000000000000 ≤ x) && decide (x ≤ 1000000000000)
def modeOk (s mode : Int) : Bool := (decide (0 ≤ s) && decide (s ≤ 20)) && (decide (0 ≤ mode) && decide (mode ≤ 2))
theorem numOk_iff {x : Int} : numOk x = true ↔ -1000000000000 ≤ x ∧ x ≤ 1000000000000 := by simp [numOk]
theorem modeOk_iff {s m : Int} : modeOk s m = true ↔ (0 ≤ s ∧ s ≤ 20) ∧ (0 ≤ m ∧ m ≤ 2) := by simp [modeOk]

def trn (p i : Int) : Int × Int := ((rd_T44 (turnsL p) i).f0, (rd_T44 (turnsL p) i).f1)
theorem turns_len {p : Int} (hp : p = 4 ∨ p = 6) : ((turnsL p).length : Int) = p := by
  rcases hp with rfl | rfl <;> rfl
theorem six_of {i : Int} (h0 : 0 ≤ i) (h1 : i < 6) : i = 0 ∨ i = 1 ∨ i = 2 ∨ i = 3 ∨ i = 4 ∨ i = 5 := by omega
theorem four_of {i : Int} (h0 : 0 ≤ i) (h1 : i < 4) : i = 0 ∨ i = 1 ∨ i = 2 ∨ i = 3 := by omega
theorem trn_bd {p i : Int} (hp : p = 4 ∨ p = 6) (h0 : 0 ≤ i) (h1 : i < p) : (-1 ≤ (trn p i).1 ∧ (trn p i).1 ≤ 1) ∧ (-1 ≤ (trn p i).2 ∧ (trn p i).2 ≤ 1) := by
  rcases hp with rfl | rfl
  · rcases four_of h0 h1 with rfl | rfl | rfl | rfl <;> decide
  · rcases six_of h0 h1 with rfl | rfl | rfl | rfl | rfl | rfl <;> decide
theorem kn_bd {k : Int} {n : Nat} (hk : 0 ≤ k ∧ k ≤ 5) (hn : n ≤ 64) : 0 ≤ k * (n : Int) ∧ k * (n : Int) ≤ 320 := by
  refine ⟨Int.mul_nonneg hk.1 (by omega), ?_⟩
  have h : k * (n : Int) ≤ 5 * (n : Int) := Int.mul_le_mul_of_nonneg_right hk.2 (by omega)
  omega
def tnIx (p k : Int) (n : Nat) : Int := (-(k * (n : Int))) % p
theorem tnIx_bd {p : Int} (hp : p = 4 ∨ p = 6) (k : Int) (n : Nat) : 0 ≤ tnIx p k n ∧ tnIx p k n < p := by
  unfold tnIx
  rcases hp with rfl | rfl <;> exact ⟨Int.emod_nonneg _ (by decide), Int.emod_lt_of_pos _ (by decide)⟩
def tnM (p k : Int) : List Int → Nat → Int → Int → Int × Int
  | [], _, a, b => (a, b)
  | x :: t, n, a, b => tnM p k t (n + 1) (wrap64 (a + wrap64 (x * (trn p (tnIx p k n)).1))) (wrap64 (b + wrap64 (x * (trn p (tnIx p k n)).2)))

theorem spec_tnTurn_eq {p m : Int} (hp : p = 4 ∨ p = 6) (hm : 0 ≤ m) : spec_tnTurn.f p m = some (trn p (m % p)) := by
  unfold spec_tnTurn.f
  rcases hp with rfl | rfl
  · rw [if_pos rfl, Int.tmod_eq_emod_of_nonneg hm]
    rcases four_of (Int.emod_nonneg m (by decide)) (Int.emod_lt_of_pos m (by decide)) with h | h | h | h <;> rw [h] <;> rfl
  · rw [if_neg (by decide), Int.tmod_eq_emod_of_nonneg hm]
    rcases six_of (Int.emod_nonneg m (by decide)) (Int.emod_lt_of_pos m (by decide)) with h | h | h | h | h | h <;> rw [h] <;> rfl

theorem isParts_eq (p : Int) : (if p = 4 then (some true) else (some (p == 6)) : Option Bool) = some (decide (p = 4 ∨ p = 6)) := by
  by_cases c : p = 4
  · rw [if_pos c, decide_eq_true (.inl c)]
  · rw [if_neg c]
    by_cases d : p = 6
    · rw [decide_eq_true (.inr d), d]
      rfl
    · rw [decide_eq_false (fun h => h.elim c d), beq_eq_false_iff_ne.mpr d]

def partV (p k z : Int) (m : Nat) : Int := if p = 4 then wrap64 (z * (trn p (k * (m : Int) % p)).1) else wrap64 (z * wrap64 (wrap64 (2 * (trn p (k * (m : Int) % p)).1) + (trn p (k * (m : Int) % p)).2))
def partL (p k z : Int) : Nat → Nat → List Int
  | _, 0 => []
  | j, r + 1 => partV p k z j :: partL p k z (j + 1) r
theorem partL_length (p k z : Int) : ∀ (r j : Nat), (partL p k z j r).length = r
  | 0, _ => rfl
  | r + 1, j => by simp [partL, partL_length p k z r]
theorem partV_bd {p z : Int} (hp : p = 4 ∨ p = 6) (hz : 0 ≤ z ∧ z ≤ 1000) (k : Int) (m : Nat) : -100000 ≤ partV p k z m ∧ partV p k z m ≤ 100000 := by
  have hi : 0 ≤ k * (m : Int) % p ∧ k * (m : Int) % p < p := by
    rcases hp with rfl | rfl <;> exact ⟨Int.emod_nonneg _ (by decide), Int.emod_lt_of_pos _ (by decide)⟩
  obtain ⟨⟨h1, h2⟩, h3, h4⟩ := trn_bd hp hi.1 hi.2
  unfold partV
  generalize (trn p (k * (m : Int) % p)).1 = a at *
  generalize (trn p (k * (m : Int) % p)).2 = b at *
  have key : ∀ c : Int, -3 ≤ c → c ≤ 3 → -100000 ≤ wrap64 (z * c) ∧ wrap64 (z * c) ≤ 100000 := by
    intro c c0 c1
    have hc : c = -3 ∨ c = -2 ∨ c = -1 ∨ c = 0 ∨ c = 1 ∨ c = 2 ∨ c = 3 := by omega
    have hb : -3000 ≤ z * c ∧ z * c ≤ 3000 := by
      rcases hc with rfl | rfl | rfl | rfl | rfl | rfl | rfl <;> omega
    rw [w64 (n := z * c) (by omega) (by omega)]
    omega
  split
  · exact key a (by omega) (by omega)
  · rw [w64 (n := 2 * a) (by omega) (by omega), w64 (n := 2 * a + b) (by omega) (by omega)]
    exact key _ (by omega) (by omega)
theorem partL_in {p z : Int} (hp : p = 4 ∨ p = 6) (hz : 0 ≤ z ∧ z ≤ 1000) (k : Int) : ∀ (r j : Nat), ∀ x ∈ partL p k z j r, -100000 ≤ x ∧ x ≤ 100000
  | 0, j, x, h => by simp [partL] at h
  | r + 1, j, x, h => by
    simp only [partL, List.mem_cons] at h
    rcases h with rfl | h
    · exact partV_bd hp hz k j
    · exact partL_in hp hz k r (j + 1) x h
def partOk (p k z n : Int) : Bool := ((decide (p = 4 ∨ p = 6) && (decide (0 ≤ k) && decide (k ≤ p - 1))) && (decide (0 ≤ z) && decide (z ≤ 1000))) && (decide (0 ≤ n) && decide (n ≤ 64))
def partM (p k z n : Int) : List Int × Bool := if partOk p k z n = true then (partL p k z 0 n.toNat, true) else ([], false)
theorem partM_len (p k z n : Int) : (partM p k z n).1.length ≤ 1048576 := by
  unfold partM
  split
  · rename_i h
    simp only [partOk, Bool.and_eq_true, decide_eq_true_eq] at h
    simp only [partL_length]
    omega
  · simp
theorem impl_ToneOfPart_l0 {p k : Int} (z : Int) (hp : p = 4 ∨ p = 6) (hk : 0 ≤ k ∧ k ≤ 5) (hz : 0 ≤ z ∧ z ≤ 1000) (n : Nat) (hn : n ≤ 64) : ∀ (r j : Nat) (q : List Int), j + r = n → q = partL p k z 0 j ∨ q.length = j →
    q.length = j → (∀ x ∈ q, -100000 ≤ x ∧ x ≤ 100000) → Ev (fun m => impl_ToneOfPart.l0 m p k z q (turnsL p) (n : Int) (j : Int)) (q ++ partL p k z j r, true)
  | 0, j, q, h, _, hq, hx => by
    have hs : sig q = true := by
      simp only [sig, Bool.and_eq_true, decide_eq_true_eq, List.all_eq_true]
      exact ⟨by omega, hx⟩
    refine Ev.to (Ev.step (fun m => by simp only [impl_ToneOfPart.l0]; rfl) ?_) (show (q, true) = _ by simp [partL])
    refine Ev.ff (by omega) (Ev.bind (impl_told_ev q (by omega)) (Ev.to (Ev.now _) ?_))
    rw [toldM, if_pos hs]
  | r + 1, j, q, h, _, hq, hx => by
    have e3 : wrap64 ((j : Int) + 1) = ((j + 1 : Nat) : Int) := by rw [w64 (n := (j : Int) + 1) (by omega) (by omega)]; omega
    have hK := kn_bd (n := j) hk (by omega)
    have e4 : Int.tmod (wrap64 (k * (j : Int))) p = k * (j : Int) % p := by
      rw [w64 (n := k * (j : Int)) (by omega) (by omega), Int.tmod_eq_emod_of_nonneg hK.1]
    have e5 : 0 ≤ k * (j : Int) % p ∧ k * (j : Int) % p < ((turnsL p).length : Int) := by
      rw [turns_len hp]
      rcases hp with rfl | rfl <;> exact ⟨Int.emod_nonneg _ (by decide), Int.emod_lt_of_pos _ (by decide)⟩
    have ih := impl_ToneOfPart_l0 z hp hk hz n hn r (j + 1) (q ++ [partV p k z j]) (by omega) (.inr (by simp [hq])) (by simp [hq]) (fun x h => by
      simp only [List.mem_append, List.mem_singleton] at h
      rcases h with h | rfl
      · exact hx x h
      · exact partV_bd hp hz k j)
    refine Ev.to (Ev.step (fun m => by simp only [impl_ToneOfPart.l0]; rfl) ?_) (show ((q ++ [partV p k z j]) ++ partL p k z (j + 1) r, true) = _ by simp [partL])
    rw [e3, e4]
    refine Ev.tt (by omega) (Ev.ff (by omega) (Ev.tt e5.1 (Ev.tt e5.2 ?_)))
    by_cases c : p = 4
    · refine Ev.tt c (Ev.tt (by omega) ?_)
      have e : wrap64 (z * (rd_T44 (turnsL p) (k * (j : Int) % p)).f0) = partV p k z j := by
        rw [partV, if_pos c]
        rfl
      rw [e]
      exact ih
    · refine Ev.ff c (Ev.tt (by omega) ?_)
      have e : wrap64 (z * wrap64 (wrap64 (2 * (rd_T44 (turnsL p) (k * (j : Int) % p)).f0) + (rd_T44 (turnsL p) (k * (j : Int) % p)).f1)) = partV p k z j := by
        rw [partV, if_neg c]
        rfl
      rw [e]
      exact ih
theorem spec_ToneOfPart_l0 {p k : Int} (z : Int) (hp : p = 4 ∨ p = 6) (hk : 0 ≤ k ∧ k ≤ 5) (n : Nat) (hn : n ≤ 64) : ∀ (r j : Nat) (q : List Int), j + r = n → q.length = j →
    Ev (fun m => spec_ToneOfPart.l0 m p k z (n : Int) q (j : Int)) (q ++ partL p k z j r, true)
  | 0, j, q, h, hq => by
    refine Ev.to (Ev.step (fun m => by simp only [spec_ToneOfPart.l0]; rfl) ?_) (show (q, true) = _ by simp [partL])
    exact Ev.ff (by omega) (Ev.now _)
  | r + 1, j, q, h, hq => by
    have e3 : wrap64 ((j : Int) + 1) = ((j + 1 : Nat) : Int) := by rw [w64 (n := (j : Int) + 1) (by omega) (by omega)]; omega
    have hK := kn_bd (n := j) hk (by omega)
    have e4 : spec_tnTurn.f p (wrap64 (k * (j : Int))) = some (trn p (k * (j : Int) % p)) := by
      rw [w64 (n := k * (j : Int)) (by omega) (by omega)]
      exact spec_tnTurn_eq hp hK.1
    have ih := spec_ToneOfPart_l0 z hp hk n hn r (j + 1) (q ++ [partV p k z j]) (by omega) (by simp [hq])
    refine Ev.to (Ev.step (fun m => by simp only [spec_ToneOfPart.l0]; rfl) ?_) (show ((q ++ [partV p k z j]) ++ partL p k z (j + 1) r, true) = _ by simp [partL])
    rw [e3]
    refine Ev.tt (by omega) (Ev.dbind e4 ?_)
    by_cases c : p = 4
    · refine Ev.tt c (Ev.tt (by omega) ?_)
      have e : wrap64 (z * (trn p (k * (j : Int) % p)).1) = partV p k z j := by
        rw [partV, if_pos c]
      rw [e]
      exact ih
    · refine Ev.ff c (Ev.tt (by omega) ?_)
      have e : wrap64 (z * wrap64 (wrap64 (2 * (trn p (k * (j : Int) % p)).1) + (trn p (k * (j : Int) % p)).2)) = partV p k z j := by
        rw [partV, if_neg c]
      rw [e]
      exact ih
theorem impl_ToneOfPart_ev (p k z n : Int) (hw : -9223372036854775808 ≤ p - 1) (hp2 : p ≤ 9223372036854775807) : Ev (fun m => impl_ToneOfPart.f m p k z n) (partM p k z n) := by
  simp only [impl_ToneOfPart.f, impl_isParts.f, isParts_eq, impl_in_eq, Option.bind_some]
  rw [w64 (n := p - 1) hw (by omega)]
  have fail : partOk p k z n ≠ true → Ev (fun m => impl_ToneOfPart.j0 m p k z n true) (partM p k z n) := by
    intro h
    refine Ev.step (fun m => by simp only [impl_ToneOfPart.j0]; rfl) ?_
    exact Ev.tt (by trivial) (Ev.to (Ev.now _) (by rw [partM, if_neg h]))
  by_cases c1 : decide (p = 4 ∨ p = 6) = true
  · refine Ev.tt c1 ?_
    by_cases c2 : (decide (0 ≤ k) && decide (k ≤ p - 1)) = true
    · refine Ev.tt c2 ?_
      by_cases c3 : (decide (0 ≤ z) && decide (z ≤ 1000)) = true
      · refine Ev.tt c3 ?_
        by_cases c4 : (decide (0 ≤ n) && decide (n ≤ 64)) = true
        · have ok : partOk p k z n = true := by rw [partOk, c1, c2, c3, c4]; rfl
          have hp : p = 4 ∨ p = 6 := of_decide_eq_true c1
          have hk : 0 ≤ k ∧ k ≤ p - 1 := by simpa only [Bool.and_eq_true, decide_eq_true_eq] using c2
          have hz : 0 ≤ z ∧ z ≤ 1000 := by simpa only [Bool.and_eq_true, decide_eq_true_eq] using c3
          have hn : 0 ≤ n ∧ n ≤ 64 := by simpa only [Bool.and_eq_true, decide_eq_true_eq] using c4
          obtain ⟨N, rfl⟩ : ∃ N : Nat, n = (N : Int) := ⟨n.toNat, by omega⟩
          rw [c4]
          refine Ev.step (fun m => by simp only [impl_ToneOfPart.j0]; rfl) ?_
          refine Ev.ff (by decide) (Ev.dbind rfl ?_)
          have h := impl_ToneOfPart_l0 (k := k) z hp (by omega) hz N (by omega) N 0 [] (by omega) (.inr rfl) rfl (fun x h => by simp at h)
          exact Ev.to h (by simp [partM, ok])
        · rw [Bool.eq_false_iff.mpr c4]
          exact fail (by rw [partOk, Bool.eq_false_iff.mpr c4, Bool.and_false]; decide)
      · exact Ev.ff c3 (fail (by rw [partOk, Bool.eq_false_iff.mpr c3, Bool.and_false, Bool.false_and]; decide))
    · exact Ev.ff c2 (fail (by rw [partOk, Bool.eq_false_iff.mpr c2, Bool.and_false, Bool.false_and, Bool.false_and]; decide))
  · exact Ev.ff c1 (fail (by rw [partOk, Bool.eq_false_iff.mpr c1, Bool.false_and, Bool.false_and, Bool.false_and]; decide))
theorem spec_ToneOfPart_ev (p k z n : Int) (hw : -9223372036854775808 ≤ p - 1) (hp2 : p ≤ 9223372036854775807) : Ev (fun m => spec_ToneOfPart.f m p k z n) (partM p k z n) := by
  simp only [spec_ToneOfPart.f, spec_tnParts.f, isParts_eq, spec_l1In_eq, Option.bind_some]
  rw [w64 (n := p - 1) hw (by omega)]
  have fail : partOk p k z n ≠ true → Ev (fun m => spec_ToneOfPart.j0 m p k z n true) (partM p k z n) := by
    intro h
    refine Ev.step (fun m => by simp only [spec_ToneOfPart.j0]; rfl) ?_
    exact Ev.tt (by trivial) (Ev.to (Ev.now _) (by rw [partM, if_neg h]))
  by_cases c1 : decide (p = 4 ∨ p = 6) = true
  · refine Ev.tt c1 ?_
    by_cases c2 : (decide (0 ≤ k) && decide (k ≤ p - 1)) = true
    · refine Ev.tt c2 ?_
      by_cases c3 : (decide (0 ≤ z) && decide (z ≤ 1000)) = true
      · refine Ev.tt c3 ?_
        by_cases c4 : (decide (0 ≤ n) && decide (n ≤ 64)) = true
        · have ok : partOk p k z n = true := by rw [partOk, c1, c2, c3, c4]; rfl
          have hp : p = 4 ∨ p = 6 := of_decide_eq_true c1
          have hk : 0 ≤ k ∧ k ≤ p - 1 := by simpa only [Bool.and_eq_true, decide_eq_true_eq] using c2
          have hn : 0 ≤ n ∧ n ≤ 64 := by simpa only [Bool.and_eq_true, decide_eq_true_eq] using c4
          obtain ⟨N, rfl⟩ : ∃ N : Nat, n = (N : Int) := ⟨n.toNat, by omega⟩
          rw [c4]
          refine Ev.step (fun m => by simp only [spec_ToneOfPart.j0]; rfl) ?_
          refine Ev.ff (by decide) ?_
          have h := spec_ToneOfPart_l0 (k := k) z hp (by omega) N (by omega) N 0 [] (by omega) rfl
          exact Ev.to h (by simp [partM, ok])
        · rw [Bool.eq_false_iff.mpr c4]
          exact fail (by rw [partOk, Bool.eq_false_iff.mpr c4, Bool.and_false]; decide)
      · exact Ev.ff c3 (fail (by rw [partOk, Bool.eq_false_iff.mpr c3, Bool.and_false, Bool.false_and]; decide))
    · exact Ev.ff c2 (fail (by rw [partOk, Bool.eq_false_iff.mpr c2, Bool.and_false, Bool.false_and, Bool.false_and]; decide))
  · exact Ev.ff c1 (fail (by rw [partOk, Bool.eq_false_iff.mpr c1, Bool.false_and, Bool.false_and, Bool.false_and]; decide))

theorem FnExactToneOfPart : laws_FnExactToneOfPart.Pure := by
  intro p k z n w0 w1 w2 w3
  apply Ev.rounds
  simp only [laws_FnExactToneOfPart.f]
  have hw : -9223372036854775808 ≤ p ∧ p ≤ 9223372036854775807 := by
    simp [Lit.wf, IntKind.min, IntKind.max, IntKind.signed, IntKind.bits] at w0
    omega
  by_cases e : p = -9223372036854775808
  · subst e
    have hs : Ev (fun m => spec_ToneOfPart.f m (-9223372036854775808) k z n) ([], false) := by
      simp only [spec_ToneOfPart.f, spec_tnParts.f, isParts_eq, Option.bind_some]
      refine Ev.ff (by decide) (Ev.step (fun m => by simp only [spec_ToneOfPart.j0]; rfl) ?_)
      exact Ev.tt (by trivial) (Ev.now _)
    have hi : Ev (fun m => impl_ToneOfPart.f m (-9223372036854775808) k z n) ([], false) := by
      simp only [impl_ToneOfPart.f, impl_isParts.f, isParts_eq, Option.bind_some]
      refine Ev.ff (by decide) (Ev.step (fun m => by simp only [impl_ToneOfPart.j0]; rfl) ?_)
      exact Ev.tt (by trivial) (Ev.now _)
    repeat ((try dsimp only); first | exact Ev.now _ | refine Ev.bind hs ?_ | refine Ev.bind hi ?_ | refine Ev.bind (laws_eqIntS_self _ (by simp)) ?_ | refine Ev.bind (laws_markIntS_ev _ _ (by simp) (by omega) (by omega)) ?_ | refine Ev.bind (laws_heldIntS_ev _ (by simp)) ?_ | refine Ev.tt rfl ?_ | refine Ev.ff (by first | omega | decide) ?_ | (refine Ev.step (fun k => by simp only [laws_FnExactToneOfPart.j0, bne_self_eq_false]; rfl) ?_) | (refine Ev.step (fun k => by simp only [laws_FnExactToneOfPart.j1, bne_self_eq_false]; rfl) ?_))
  have hs := spec_ToneOfPart_ev p k z n (by omega) hw.2
  have hi := impl_ToneOfPart_ev p k z n (by omega) hw.2
  have hb := partM_len p k z n
  generalize partM p k z n = r at *
  obtain ⟨r0, r1⟩ := r
  try simp only at hb
  repeat ((try dsimp only); first | exact Ev.now _ | refine Ev.bind hs ?_ | refine Ev.bind hi ?_ | refine Ev.bind (laws_eqIntS_self _ (by omega)) ?_ | refine Ev.bind (laws_markIntS_ev _ _ (by omega) (by omega) (by omega)) ?_ | refine Ev.bind (laws_heldIntS_ev _ (by omega)) ?_ | refine Ev.tt rfl ?_ | refine Ev.ff (by first | omega | decide) ?_ | (refine Ev.step (fun k => by simp only [laws_FnExactToneOfPart.j0, bne_self_eq_false]; rfl) ?_) | (refine Ev.step (fun k => by simp only [laws_FnExactToneOfPart.j1, bne_self_eq_false]; rfl) ?_))

end Go.Proofs.YtfjhlehaeephmaaDoor.Pure
