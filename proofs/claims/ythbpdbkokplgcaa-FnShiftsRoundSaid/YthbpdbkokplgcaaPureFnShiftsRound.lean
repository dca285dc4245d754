/- Shifted numbers and their rests make the number, rests are as small as the mode tells, and modes lie beside each other. Conditions: none beyond those that the statement itself prints. -/
import Derived.Test.YthbpdbkokplgcaaPFnShiftsRoundx3
namespace Go.Proofs.Ythbpdbkokplgcaa.Pure
open Go.RowKit Go.Proofs.Ythbpdbkokplgcaa.PFnShiftsRound Go.Proofs.YthbpdbkokplgcaaW.PrintWords Go.Proofs.YthbpdbkokplgcaaW.PrintLast Go.Proofs.YthbpdbkokplgcaaW.PrintMore
set_option linter.unusedVariables false
set_option linter.unusedSimpArgs false

theorem w64 {n : Int} (h1 : -9223372036854775808 ≤ n) (h2 : n ≤ 9223372036854775807) : wrap64 n = n := by
  unfold wrap64
  omega
theorem Ev.to {α : Type} {g : Nat → Option α} {r r' : α} (h : Ev g r) (e : r = r') : Ev g r' := e ▸ h
theorem Ev.const {α : Type} {g : Option α} {r : α} (h : g = some r) : Ev (fun _ => g) r := ⟨0, fun _ _ => h⟩
theorem Ev.dbind {α β : Type} {g : Option α} {f : Nat → α → Option β} {a : α} {r : β} (h : g = some a) (k : Ev (fun n => f n a) r) : Ev (fun n => g.bind (f n)) r :=
  Ev.bind (g := fun _ => g) (Ev.const h) k
theorem Ev.tt {α : Type} {c : Prop} {_ : Decidable c} {g f : Nat → Option α} {r : α} (h : c) (k : Ev g r) : Ev (fun n => if c then g n else f n) r := by
  simpa only [if_pos h] using k
theorem Ev.ff {α : Type} {c : Prop} {_ : Decidable c} {g f : Nat → Option α} {r : α} (h : ¬ c) (k : Ev f r) : Ev (fun n => if c then g n else f n) r := by
  simpa only [if_neg h] using k
theorem rd_mid (p t : List Int) (x : Int) : rd (p ++ x :: t) (p.length : Int) = x := by
  simp [rd]
theorem lt_mid {α : Type} (p t : List α) (x : α) : (p.length : Int) < ((p ++ x :: t).length : Int) := by
  simp
  omega
theorem nx_mid {α : Type} (p t : List α) (x : α) (h : (p ++ x :: t).length ≤ 140737488351232) : wrap64 ((p.length : Int) + 1) = ((p ++ [x]).length : Int) := by
  simp at h ⊢
  exact w64 (by omega) (by omega)
theorem ap_mid {α : Type} (p t : List α) (x : α) : p ++ x :: t = (p ++ [x]) ++ t := by simp
theorem w64_nat (a b : Nat) (h : a + b ≤ 1000000000) : wrap64 ((a : Int) + (b : Int)) = ((a + b : Nat) : Int) := by
  rw [w64 (n := (a : Int) + (b : Int)) (by omega) (by omega)]
  omega
theorem w64_suc {α : Type} (q : List α) (x : α) (h : q.length ≤ 1000000000) : wrap64 ((q.length : Int) + 1) = ((q ++ [x]).length : Int) := by
  rw [w64 (n := (q.length : Int) + 1) (by omega) (by omega)]
  simp
theorem ar1 {a b c d : Nat} (h1 : a + 1 ≤ c) (h2 : b + 1 ≤ d) : ((a + b : Nat) : Int) < ((c + d - 1 : Nat) : Int) := by omega
theorem ar2 {a b c d : Nat} (h1 : a + 1 ≤ c) (h2 : b + 1 ≤ d) : a + b < c + d - 1 := by omega
theorem ar3 (a b : Nat) : ¬ (a ≤ a + b ∧ a + b - a < b) := by omega
theorem ar4 {v M : Int} (h : -M ≤ v ∧ v ≤ M) (hm : M ≤ 4000000000000000000) : wrap64 v = v := w64 (by omega) (by omega)
theorem ar5 {c v P M H : Int} (hc : -P ≤ c ∧ c ≤ P) (hv : -M ≤ v ∧ v ≤ M) (hp : P + M ≤ H) (hH : H ≤ 4000000000000000000) : wrap64 (c + v) = c + v := w64 (by omega) (by omega)
theorem ar6 {a b : Nat} {M : Int} (h : a + 1 ≤ b) (hM : 0 ≤ M) : (a : Int) * M + M ≤ (b : Int) * M := by
  have h1 : ((a : Int) + 1) * M ≤ (b : Int) * M := Int.mul_le_mul_of_nonneg_right (by omega) hM
  rw [Int.add_mul, Int.one_mul] at h1
  exact h1
theorem ar7 {a b c d : Nat} (h1 : a + 1 ≤ c) (h2 : b + 1 ≤ d) (h : c + d ≤ 100000000) : a + b ≤ 1000000000 := by omega
theorem ar8 {a c d : Nat} (h1 : a + 1 ≤ c) (h : c + d ≤ 100000000) : a ≤ 1000000000 := by omega

def backOf (n : Int) : Int × Bool := if n = 3 then (-1, true) else if n = 4 then (0, true) else if n = 6 then (1, true) else (0, false)
def tnF (c : Int) : List Int → Int → Int → Int × Int
  | [], y, z => (y, z)
  | x :: t, y, z => tnF c t (wrap64 ((wrap64 (x + (wrap64 (c * y)))) - z)) y
def sig (l : List Int) : Bool := decide (l.length ≤ 64) && l.all fun x => decide (-100000 ≤ x) && decide (x ≤ 100000)
def toneStates (l : List Int) (n : Int) : Int × Int × Bool := if (backOf n).2 = true then (if sig l = true then ((tnF (backOf n).1 l 0 0).1, (tnF (backOf n).1 l 0 0).2, true) else (0, 0, false)) else (0, 0, false)
theorem sig_len {l : List Int} (h : sig l = true) : l.length ≤ 64 := by
  simp [sig] at h
  exact h.1
theorem sig_mem {l : List Int} (h : sig l = true) : ∀ x ∈ l, -100000 ≤ x ∧ x ≤ 100000 := by
  simp [sig] at h
  exact h.2
def isBits (l : List Int) : Bool := decide (l.length ≤ 200) && l.all fun x => decide (x = 1 ∨ x = -1)
theorem isBits_len {l : List Int} (h : isBits l = true) : l.length ≤ 200 := by
  simp [isBits] at h
  exact h.1
theorem isBits_mem {l : List Int} (h : isBits l = true) : ∀ x ∈ l, x = 1 ∨ x = -1 := by
  simp [isBits] at h
  exact h.2
def toldM (l : List Int) : List Int × Bool := if sig l = true then (l, true) else ([], false)
theorem toldM_len (l : List Int) : (toldM l).1.length ≤ 64 := by
  unfold toldM
  split
  · exact sig_len ‹_›
  · simp
def bitM (x v : Int) : Int := if x ≥ v then 1 else -1
theorem bitM_cases (x v : Int) : bitM x v = 1 ∨ bitM x v = -1 := by
  unfold bitM
  split <;> simp
def tkS (st last : Int) (fixed : Bool) (bit : Int) : Int :=
  if fixed = true then st else if last = 0 then st else if bit = last then (if 2 * st ≤ 4096 then 2 * st else 4096) else (if 1 ≤ st / 2 then st / 2 else 1)
theorem tkS_bd {st last : Int} {fixed : Bool} {bit : Int} (h0 : 1 ≤ st) (h1 : st ≤ 4096) : 1 ≤ tkS st last fixed bit ∧ tkS st last fixed bit ≤ 4096 := by
  unfold tkS
  repeat' split
  all_goals omega
theorem mul_bit {st bit : Int} (hb : bit = 1 ∨ bit = -1) : st * bit = st ∨ st * bit = -st := by
  rcases hb with rfl | rfl
  · left; omega
  · right; omega
/-- bit, value and step behind each sample -/
def codeM (fixed : Bool) : List Int → Int → Int → Int → List (Int × Int × Int)
  | [], _, _, _ => []
  | x :: t, v, st, last =>
    let b := bitM x v
    let s := tkS st last fixed b
    (b, v + s * b, s) :: codeM fixed t (v + s * b) s b
theorem codeM_length (fixed : Bool) : ∀ (l : List Int) (v st last : Int), (codeM fixed l v st last).length = l.length
  | [], _, _, _ => rfl
  | x :: t, v, st, last => by simp [codeM, codeM_length fixed t]
def fixM (st : Int) : List Int → Int → List Int
  | [], _ => []
  | x :: t, v => bitM x v :: fixM st t (v + bitM x v * st)
theorem fixM_length (st : Int) : ∀ (l : List Int) (v : Int), (fixM st l v).length = l.length
  | [], _ => rfl
  | x :: t, v => by simp [fixM, fixM_length st t]
def fixedBits (l : List Int) (st : Int) : List Int × Bool := if sig l = true ∧ 1 ≤ st ∧ st ≤ 4096 then (fixM st l 0, true) else ([], false)
def decM (fixed : Bool) : List Int → Int → Int → Int → List (Int × Int)
  | [], _, _, _ => []
  | b :: t, v, st, last => (v + tkS st last fixed b * b, tkS st last fixed b) :: decM fixed t (v + tkS st last fixed b * b) (tkS st last fixed b) b
theorem decM_length (fixed : Bool) : ∀ (l : List Int) (v st last : Int), (decM fixed l v st last).length = l.length
  | [], _, _, _ => rfl
  | x :: t, v, st, last => by simp [decM, decM_length fixed t]
def gapM : List Int → List Int → List Int
  | x :: t, y :: u => (x - y) :: gapM t u
  | _, _ => []
theorem gapM_length : ∀ (l m : List Int), l.length = m.length → (gapM l m).length = l.length
  | [], m, _ => by cases m <;> simp [gapM]
  | x :: t, [], h => by simp at h
  | x :: t, y :: u, h => by
    simp at h
    simp [gapM, gapM_length t u h]
theorem codeM_val (fixed : Bool) : ∀ (l : List Int) (v st last : Int) (n : Int), 1 ≤ st → st ≤ 4096 → -4096 * n ≤ v → v ≤ 4096 * n → ∀ y ∈ (codeM fixed l v st last).map (·.2.1), -4096 * (n + l.length) ≤ y ∧ y ≤ 4096 * (n + l.length)
  | [], _, _, _, _, _, _, _, _, y, hy => by simp [codeM] at hy
  | x :: t, v, st, last, n, h0, h1, hv0, hv1, y, hy => by
    have hb := bitM_cases x v
    have hk := tkS_bd (last := last) (fixed := fixed) (bit := bitM x v) h0 h1
    have hm := mul_bit (st := tkS st last fixed (bitM x v)) hb
    simp only [codeM, List.map_cons, List.mem_cons] at hy
    rcases hy with rfl | hy
    · simp; omega
    · have := codeM_val fixed t _ _ _ (n + 1) hk.1 hk.2 (by omega) (by omega) y hy
      simp; omega
def stepOk (st : Int) : Bool := decide (1 ≤ st) && decide (st ≤ 4096)
theorem stepOk_iff {st : Int} : stepOk st = true ↔ 1 ≤ st ∧ st ≤ 4096 := by simp [stepOk]
def stepBits (l : List Int) (st : Int) : List Int × Bool := if sig l = true then (if stepOk st = true then ((codeM false l 0 st 0).map (·.1), true) else ([], false)) else ([], false)
def stepValues (l : List Int) (st : Int) : List Int × Bool := if isBits l = true then (if stepOk st = true then toldM ((decM false l 0 st 0).map (·.1)) else ([], false)) else ([], false)
def stepsOfBits (l : List Int) (st : Int) : List Int × Bool := if isBits l = true then (if stepOk st = true then toldM ((decM false l 0 st 0).map (·.2)) else ([], false)) else ([], false)
def fixedValues (l : List Int) (st : Int) : List Int × Bool := if isBits l = true then (if stepOk st = true then toldM ((decM true l 0 st 0).map (·.1)) else ([], false)) else ([], false)
def stepGaps (l : List Int) (st : Int) : List Int × Bool := if sig l = true then (if stepOk st = true then toldM (gapM l ((codeM false l 0 st 0).map (·.2.1))) else ([], false)) else ([], false)
def wts (l : List Int) : Bool := decide (1 ≤ l.length) && decide (l.length ≤ 9) && l.all fun x => decide (-1000 ≤ x) && decide (x ≤ 1000)
theorem wts_len {l : List Int} (h : wts l = true) : 1 ≤ l.length ∧ l.length ≤ 9 := by
  simp [wts] at h
  exact ⟨h.1.1, h.1.2⟩
theorem wts_mem {l : List Int} (h : wts l = true) : ∀ x ∈ l, -1000 ≤ x ∧ x ≤ 1000 := by
  simp [wts] at h
  exact h.2
def ratio (p q : Int) : Bool := (decide (1 ≤ p) && decide (p ≤ 8)) && (decide (1 ≤ q) && decide (q ≤ 8))
theorem ratio_iff {p q : Int} : ratio p q = true ↔ (1 ≤ p ∧ p ≤ 8) ∧ (1 ≤ q ∧ q ≤ 8) := by simp [ratio]
def rsOk (h l : List Int) (p q : Int) : Bool := wts h && ((sig l && ratio p q) && decide ((l.length : Int) * p ≤ 64))
def peakM : List Int → Nat → Nat
  | [], m => m
  | x :: t, m => peakM t (max m x.natAbs)

def cv : List Int → List Int → Nat → Int
  | [], _, _ => 0
  | w :: _, s, 0 => w * s.getD 0 0
  | w :: h, s, n + 1 => w * s.getD (n + 1) 0 + cv h s n
def Lf (f : Nat → Int) (N : Nat) : List Int := (List.range N).map f
theorem Lf_length (f : Nat → Int) (N : Nat) : (Lf f N).length = N := by simp [Lf]
theorem rd_Lf (f : Nat → Int) (N i : Nat) (h : i < N) : rd (Lf f N) (i : Int) = f i := by
  simp [rd, Lf, h]
theorem set_Lf (f : Nat → Int) (N i : Nat) (v : Int) : (Lf f N).set i v = Lf (fun n => if n = i then v else f n) N := by
  apply List.ext_getElem
  · simp [Lf]
  · intro n h1 h2
    simp [Lf, List.getElem_set]
    by_cases c : i = n
    · simp [c]
    · rw [if_neg c, if_neg (fun h => c h.symm)]
theorem Lf_congr {f g : Nat → Int} {N : Nat} (h : ∀ n, n < N → f n = g n) : Lf f N = Lf g N := by
  apply List.ext_getElem
  · simp [Lf]
  · intro n h1 h2
    simp [Lf] at h1 ⊢
    exact h n h1
theorem cv_snoc (s : List Int) (w : Int) : ∀ (p : List Int) (n : Nat), cv (p ++ [w]) s n = cv p s n + (if p.length ≤ n then w * s.getD (n - p.length) 0 else 0)
  | [], 0 => by simp [cv]
  | [], n + 1 => by simp [cv]
  | a :: p, 0 => by simp [cv]
  | a :: p, n + 1 => by
    simp only [List.cons_append, cv, cv_snoc s w p n, List.length_cons, Nat.add_le_add_iff_right, Nat.add_sub_add_right]
    omega
theorem getD_bd {s : List Int} {a M : Int} (hM : 0 ≤ M) (h : ∀ x ∈ s, -M ≤ a * x ∧ a * x ≤ M) (n : Nat) : -M ≤ a * s.getD n 0 ∧ a * s.getD n 0 ≤ M := by
  rw [List.getD_eq_getElem?_getD]
  by_cases c : n < s.length
  · rw [List.getElem?_eq_getElem c]
    exact h _ (List.getElem_mem c)
  · rw [List.getElem?_eq_none (by omega)]
    simp
    omega
theorem cv_bd {s : List Int} {M : Int} (hM : 0 ≤ M) : ∀ (h : List Int) (n : Nat), (∀ a ∈ h, ∀ x ∈ s, -M ≤ a * x ∧ a * x ≤ M) → -(h.length * M) ≤ cv h s n ∧ cv h s n ≤ h.length * M
  | [], n, hb => by simp [cv]
  | a :: h, 0, hb => by
    have h1 := getD_bd hM (hb a (by simp)) 0
    have h2 : 0 ≤ (h.length : Int) * M := Int.mul_nonneg (by omega) hM
    simp only [cv, List.length_cons, Int.natCast_add, Int.add_mul]
    omega
  | a :: h, n + 1, hb => by
    have h1 := getD_bd hM (hb a (by simp)) (n + 1)
    have h2 := cv_bd hM h n (fun b hbm => hb b (by simp [hbm]))
    simp only [cv, List.length_cons, Int.natCast_add, Int.add_mul]
    omega
def conv (h s : List Int) : List Int := if s = [] then [] else Lf (cv h s) (h.length + s.length - 1)
theorem conv_length (h s : List Int) (hs : s ≠ []) : (conv h s).length = h.length + s.length - 1 := by
  rw [conv, if_neg hs, Lf_length]
/-- what stands in the list when the weights p are done, and of the weight w the samples q -/
def cvi (p q s : List Int) (w : Int) (n : Nat) : Int := cv p s n + (if p.length ≤ n ∧ n - p.length < q.length then w * s.getD (n - p.length) 0 else 0)
theorem cvi_nil (p s : List Int) (w : Int) : cvi p [] s w = cv p s := by
  funext n
  simp [cvi]
theorem cvi_all (p s : List Int) (w : Int) (n : Nat) : cvi p s s w n = cv (p ++ [w]) s n := by
  rw [cv_snoc, cvi]
  by_cases c : p.length ≤ n
  · by_cases d : n - p.length < s.length
    · rw [if_pos ⟨c, d⟩, if_pos c]
    · rw [if_neg (fun h => d h.2), if_pos c, List.getD_eq_getElem?_getD, List.getElem?_eq_none (by omega)]
      simp
  · rw [if_neg (fun h => c h.1), if_neg c]
theorem getD_mid (q t : List Int) (x : Int) : (q ++ x :: t).getD q.length 0 = x := by simp
theorem cvi_step (p q t : List Int) (w x : Int) (n : Nat) : (if n = p.length + q.length then cvi p q (q ++ x :: t) w n + w * x else cvi p q (q ++ x :: t) w n) = cvi p (q ++ [x]) (q ++ x :: t) w n := by
  unfold cvi
  by_cases c : n = p.length + q.length
  · subst c
    have e : p.length + q.length - p.length = q.length := by omega
    rw [if_pos rfl, e, getD_mid, if_neg (by omega), if_pos ⟨by omega, by simp⟩]
    omega
  · rw [if_neg c]
    by_cases d : p.length ≤ n ∧ n - p.length < q.length
    · rw [if_pos d, if_pos ⟨d.1, by simp; omega⟩]
    · rw [if_neg d, if_neg (fun h => d ⟨h.1, by have := h.2; simp at this; omega⟩)]
theorem Lf_succ (f : Nat → Int) (n : Nat) : Lf f (n + 1) = Lf f n ++ [f n] := by simp [Lf, List.range_succ]
def dropN (len rate first : Nat) : Nat := (len - first + rate - 1) / rate
theorem dropN_lt {len rate first j : Nat} (hr : 1 ≤ rate) : j < dropN len rate first ↔ first + j * rate < len := by
  unfold dropN
  rw [Nat.lt_iff_add_one_le, Nat.le_div_iff_mul_le (by omega), Nat.add_mul]
  omega
def dropM (l : List Int) (rate first : Nat) : List Int := Lf (fun j => l.getD (first + j * rate) 0) (dropN l.length rate first)
theorem dropM_length (l : List Int) (rate first : Nat) : (dropM l rate first).length = dropN l.length rate first := Lf_length _ _
theorem dropN_le {len rate first : Nat} (hr : 1 ≤ rate) : dropN len rate first ≤ len := by
  apply Nat.le_of_not_lt
  intro h
  have := (dropN_lt hr).1 h
  have h2 : len * 1 ≤ len * rate := Nat.mul_le_mul_left len hr
  omega
def stuffM (p : Nat) : List Int → List Int
  | [] => []
  | x :: t => (x :: List.replicate (p - 1) 0) ++ stuffM p t
theorem stuffM_length (p : Nat) (hp : 1 ≤ p) : ∀ l : List Int, (stuffM p l).length = l.length * p
  | [] => by simp [stuffM]
  | x :: t => by
    simp only [stuffM, List.length_append, List.length_cons, List.length_replicate, stuffM_length p hp t, Nat.add_mul]
    omega
theorem stuffM_snoc (p : Nat) (x : Int) : ∀ l : List Int, stuffM p (l ++ [x]) = stuffM p l ++ (x :: List.replicate (p - 1) 0)
  | [] => by simp [stuffM]
  | y :: t => by simp [stuffM, stuffM_snoc p x t]
theorem rd_getD (l : List Int) (i : Nat) : rd l (i : Int) = l.getD i 0 := by simp [rd]
theorem stuffM_sig (p : Nat) : ∀ l : List Int, (∀ x ∈ l, -100000 ≤ x ∧ x ≤ 100000) → ∀ x ∈ stuffM p l, -100000 ≤ x ∧ x ≤ 100000
  | [], _, x, h => by simp [stuffM] at h
  | y :: t, hl, x, h => by
    simp only [stuffM, List.mem_append, List.mem_cons, List.mem_replicate] at h
    rcases h with (rfl | ⟨_, rfl⟩) | h
    · exact hl _ (by simp)
    · omega
    · exact stuffM_sig p t (fun z hz => hl z (by simp [hz])) x h
theorem sig_iff {l : List Int} : sig l = true ↔ l.length ≤ 64 ∧ ∀ x ∈ l, -100000 ≤ x ∧ x ≤ 100000 := by simp [sig]
theorem ediv_bd {x b : Int} (hb : 0 < b) (hx : -4611686018427387904 ≤ x ∧ x ≤ 4611686018427387904) : -4611686018427387905 ≤ x / b ∧ x / b ≤ 4611686018427387905 := by
  have h0 := Int.emod_nonneg x (show b ≠ 0 by omega)
  have h1 := Int.emod_lt_of_pos x hb
  have h2 := Int.emod_add_mul_ediv x b
  constructor
  · apply Int.not_lt.1
    intro h
    have : b * (x / b) ≤ 1 * (x / b) := Int.mul_le_mul_of_nonpos_right (by omega) (by omega)
    have h3 : b * (x / b) ≤ b * (-4611686018427387906) := Int.mul_le_mul_of_nonneg_left (by omega) (by omega)
    omega
  · apply Int.not_lt.1
    intro h
    have h3 : 1 * (x / b) ≤ b * (x / b) := Int.mul_le_mul_of_nonneg_right (by omega) (by omega)
    omega

theorem spec_l1In_eq (a b c : Int) : spec_l1In.f a b c = some (decide (b ≤ a) && decide (a ≤ c)) := by
  unfold spec_l1In.f
  by_cases h : b ≤ a <;> simp [h]

theorem impl_in_eq (a b c : Int) : impl_in.f a b c = some (decide (b ≤ a) && decide (a ≤ c)) := by
  unfold impl_in.f
  by_cases h : b ≤ a <;> simp [h]

/-- What a cursor gives: a value with P, and at most c steps further. -/
def Dr {α : Type} (P : α → Prop) (c : Int) (a : Int) (g : Option (α × Int × Int)) : Prop := ∃ v a' sd, g = some (v, a', sd) ∧ a ≤ a' ∧ a' ≤ a + c ∧ P v
theorem u64_bd (n : Int) : 0 ≤ IntKind.u64.wrap n ∧ IntKind.u64.wrap n < 18446744073709551616 := by
  simp only [IntKind.wrap, IntKind.bits, IntKind.signed]
  simp
  omega
theorem u64_and255 (x : Int) (h0 : 0 ≤ x) (h1 : x < 18446744073709551616) : Go.bits .and .u64 x 255 = x % 256 :=
  bits_mask .u64 64 (by decide) (fun n h0 h1 => by
    simp only [IntKind.wrap, IntKind.bits, IntKind.signed]
    simp
    omega) 8 (by decide) x h0 h1
def Bytes (l : List Int) : Prop := l.length ≤ 1048576 ∧ ∀ x ∈ l, 0 ≤ x ∧ x ≤ 255
theorem next_ok {l : List Int} (hl : Bytes l) (a sd : Int) (h0 : 0 ≤ a) (h1 : a ≤ 1000000000000000) : Dr (fun v => 0 ≤ v ∧ v ≤ 255) 1 a (spec_l1Cur_next.f l a sd) := by
  have hw : wrap64 (a + 1) = a + 1 := w64 (by omega) (by omega)
  have hm : ∀ y : Int, 0 ≤ wrap64 (Go.bits .and .u64 (IntKind.u64.wrap y / 1099511627776) 255) ∧ wrap64 (Go.bits .and .u64 (IntKind.u64.wrap y / 1099511627776) 255) ≤ 255 := by
    intro y
    have hy := u64_bd y
    rw [u64_and255 _ (by omega) (by omega), w64 (n := IntKind.u64.wrap y / 1099511627776 % 256) (by omega) (by omega)]
    omega
  unfold spec_l1Cur_next.f
  by_cases c : a < (l.length : Int)
  · have hr : 0 ≤ rd l a ∧ rd l a ≤ 255 := by
      obtain ⟨n, rfl⟩ : ∃ n : Nat, a = (n : Int) := ⟨a.toNat, by omega⟩
      have hn : n < l.length := by omega
      rw [rd_getD, List.getD_eq_getElem?_getD, List.getElem?_eq_getElem hn]
      exact hl.2 _ (List.getElem_mem hn)
    rw [if_pos c, if_pos h0, hw, if_pos (by omega), w64 (n := rd l a) (by omega) (by omega)]
    exact ⟨_, _, _, rfl, by omega, by omega, hr⟩
  · rw [if_neg c, hw]
    by_cases d : a + 1 ≤ (l.length : Int)
    · omega
    · rw [if_neg d]
      exact ⟨_, _, _, rfl, by omega, by omega, hm _⟩

theorem pick_ok {l : List Int} (hl : Bytes l) (a sd n : Int) (h0 : 0 ≤ a) (h1 : a ≤ 100000000000000) (hn : n ≤ 1000000) : Dr (fun v => 0 ≤ v ∧ (v < n ∨ v = 0)) 2 a (spec_l1Cur_pick.f l a sd n) := by
  unfold spec_l1Cur_pick.f
  by_cases c : n ≤ 1
  · rw [if_pos c]
    exact ⟨_, _, _, rfl, by omega, by omega, by omega, .inr rfl⟩
  · rw [if_neg c]
    obtain ⟨v, a', sd', e, ha, hb, hv⟩ := next_ok hl a sd h0 (by omega)
    rw [e]
    simp only [Option.bind_some]
    have hn0 : ¬ n = 0 := by omega
    by_cases d : n > 200
    · rw [if_pos d]
      obtain ⟨v2, a2, sd2, e2, ha2, hb2, hv2⟩ := next_ok hl a' sd' (by omega) (by omega)
      rw [e2]
      simp only [Option.bind_some]
      rw [if_neg hn0, w64 (n := v * 256) (by omega) (by omega), w64 (n := v * 256 + v2) (by omega) (by omega), Int.tmod_eq_emod_of_nonneg (by omega)]
      have := Int.emod_nonneg (v * 256 + v2) hn0
      have := Int.emod_lt_of_pos (v * 256 + v2) (show 0 < n by omega)
      exact ⟨_, _, _, rfl, by omega, by omega, by omega, .inl (by omega)⟩
    · rw [if_neg d, if_neg hn0, Int.tmod_eq_emod_of_nonneg (by omega)]
      have := Int.emod_nonneg v hn0
      have := Int.emod_lt_of_pos v (show 0 < n by omega)
      exact ⟨_, _, _, rfl, by omega, by omega, by omega, .inl (by omega)⟩

theorem among_ok {l : List Int} (hl : Bytes l) (a sd : Int) (m : List Int) (h0 : 0 ≤ a) (h1 : a ≤ 100000000000000) (hm : 1 ≤ m.length) (hm2 : m.length ≤ 1000) : Dr (fun v => v ∈ m) 2 a (spec_l1Cur_among.f l a sd m) := by
  unfold spec_l1Cur_among.f
  obtain ⟨v, a', sd', e, ha, hb, hv, hv2⟩ := pick_ok hl a sd (m.length : Int) h0 h1 (by omega)
  rw [e]
  simp only [Option.bind_some]
  rw [if_pos hv, if_pos (by omega)]
  refine ⟨_, _, _, rfl, ha, hb, ?_⟩
  obtain ⟨n, rfl⟩ : ∃ n : Nat, v = (n : Int) := ⟨v.toNat, by omega⟩
  have hn : n < m.length := by omega
  rw [rd_getD, List.getD_eq_getElem?_getD, List.getElem?_eq_getElem hn]
  exact List.getElem_mem hn

theorem one_ok {l : List Int} (hl : Bytes l) (a sd n : Int) (h0 : 0 ≤ a) (h1 : a ≤ 100000000000000) (hn : n ≤ 1000000) : Dr (fun _ => True) 2 a (spec_l1Cur_one.f l a sd n) := by
  unfold spec_l1Cur_one.f
  obtain ⟨v, a', sd', e, ha, hb, hv, hv2⟩ := pick_ok hl a sd n h0 h1 hn
  rw [e]
  simp only [Option.bind_some]
  exact ⟨_, _, _, rfl, ha, hb, trivial⟩

theorem number_ok {l : List Int} (hl : Bytes l) (a sd : Int) (h0 : 0 ≤ a) (h1 : a ≤ 10000000000000) : Dr (fun v => -4611686018427387904 ≤ v ∧ v ≤ 4611686018427387904) 10 a (spec_l1Cur_number.f l a sd) := by
  unfold spec_l1Cur_number.f
  obtain ⟨v, a1, sd1, e, ha, hb, hv⟩ := pick_ok hl a sd 14 h0 (by omega) (by omega)
  rw [e]
  simp only [Option.bind_some]
  by_cases c : v = 0
  · rw [if_pos c]
    obtain ⟨u, a2, sd2, e2, ha2, hb2, hu⟩ := among_ok hl a1 sd1 [1000000000000, (-1000000000000), 1000000000001, (-4611686018427387904), 549755813888] (by omega) (by omega) (by simp) (by simp)
    rw [e2]
    simp only [Option.bind_some]
    refine ⟨_, _, _, rfl, by omega, by omega, ?_⟩
    simp at hu
    rcases hu with rfl | rfl | rfl | rfl | rfl <;> decide
  · rw [if_neg c]
    by_cases d : v = 1
    · rw [if_pos d]
      obtain ⟨u, a2, sd2, e2, ha2, hb2, hu, hu2⟩ := pick_ok hl a1 sd1 256 (by omega) (by omega) (by omega)
      rw [e2]
      simp only [Option.bind_some]
      obtain ⟨u3, a3, sd3, e3, ha3, hb3, hu3, hu4⟩ := pick_ok hl a2 sd2 256 (by omega) (by omega) (by omega)
      rw [e3]
      simp only [Option.bind_some]
      refine ⟨_, _, _, rfl, by omega, by omega, ?_⟩
      rw [w64 (n := u * 256) (by omega) (by omega), w64 (n := u * 256 + u3) (by omega) (by omega), w64 (n := (u * 256 + u3) * 256) (by omega) (by omega), w64 (n := (u * 256 + u3) * 256 - 5000000) (by omega) (by omega)]
      omega
    · rw [if_neg d]
      obtain ⟨u, a2, sd2, e2, ha2, hb2, hu, hu2⟩ := pick_ok hl a1 sd1 200 (by omega) (by omega) (by omega)
      rw [e2]
      simp only [Option.bind_some]
      refine ⟨_, _, _, rfl, by omega, by omega, ?_⟩
      rw [w64 (n := u - 100) (by omega) (by omega)]
      omega

theorem shift_ok {l : List Int} (hl : Bytes l) (a sd : Int) (h0 : 0 ≤ a) (h1 : a ≤ 10000000000000) : Dr (fun v => -1 ≤ v ∧ v ≤ 64) 10 a (spec_l1Cur_shift.f l a sd) := by
  unfold spec_l1Cur_shift.f
  obtain ⟨v, a1, sd1, e, ha, hb, hv⟩ := one_ok hl a sd 12 h0 (by omega) (by omega)
  rw [e]
  simp only [Option.bind_some]
  by_cases c : v = true
  · rw [if_pos c]
    obtain ⟨u, a2, sd2, e2, ha2, hb2, hu⟩ := among_ok hl a1 sd1 [(-1), 0, 20, 21, 64] (by omega) (by omega) (by simp) (by simp)
    rw [e2]
    simp only [Option.bind_some]
    refine ⟨_, _, _, rfl, by omega, by omega, ?_⟩
    simp at hu
    rcases hu with rfl | rfl | rfl | rfl | rfl <;> decide
  · rw [if_neg c]
    obtain ⟨u, a2, sd2, e2, ha2, hb2, hu, hu2⟩ := pick_ok hl a1 sd1 7 (by omega) (by omega) (by omega)
    rw [e2]
    simp only [Option.bind_some]
    exact ⟨_, _, _, rfl, by omega, by omega, by omega, by omega⟩

theorem mode_ok {l : List Int} (hl : Bytes l) (a sd : Int) (h0 : 0 ≤ a) (h1 : a ≤ 10000000000000) : Dr (fun v => -1 ≤ v ∧ v ≤ 3) 10 a (spec_l1Cur_mode.f l a sd) := by
  unfold spec_l1Cur_mode.f
  obtain ⟨u, a2, sd2, e2, ha2, hb2, hu⟩ := among_ok hl a sd [0, 1, 2, 0, 1, 2, 0, 1, 2, 3, (-1)] h0 (by omega) (by simp) (by simp)
  rw [e2]
  simp only [Option.bind_some]
  refine ⟨_, _, _, rfl, by omega, by omega, ?_⟩
  simp at hu
  omega

theorem drawRoundShift_ok {l : List Int} (hl : Bytes l) : ∃ x s m, spec_DrawRoundShift.f l = some (x, s, m) ∧ (-4611686018427387904 ≤ x ∧ x ≤ 4611686018427387904) ∧ (-1 ≤ s ∧ s ≤ 64) ∧ (-1 ≤ m ∧ m ≤ 3) := by
  unfold spec_DrawRoundShift.f
  obtain ⟨x, a1, sd1, e1, ha1, hb1, hx⟩ := number_ok hl 0 0 (by omega) (by omega)
  rw [e1]
  simp only [Option.bind_some]
  obtain ⟨s, a2, sd2, e2, ha2, hb2, hs⟩ := shift_ok hl a1 sd1 (by omega) (by omega)
  rw [e2]
  simp only [Option.bind_some]
  obtain ⟨m, a3, sd3, e3, ha3, hb3, hm⟩ := mode_ok hl a2 sd2 (by omega) (by omega)
  rw [e3]
  simp only [Option.bind_some]
  exact ⟨_, _, _, rfl, hx, hs, hm⟩

/-- A number shifted: down, to the nearest one, towards 0. -/
def shM (x b mode : Int) : Int := if mode = 1 ∧ b ≤ 2 * (x % b) ∧ 0 < x % b then x / b + 1 else if mode = 2 ∧ x < 0 ∧ 0 < x % b then x / b + 1 else x / b
theorem div_uniq {x b q r : Int} (h : x = q * b + r) (h0 : 0 ≤ r) (h1 : r < b) : x / b = q := by
  have hb : 0 < b := by omega
  exact ((Int.ediv_emod_unique hb).2 ⟨by rw [h, Int.mul_comm]; omega, h0, h1⟩).1
theorem pow2_pos (s : Nat) : (0 : Int) < 2 ^ s := Int.pow_pos (by decide)
theorem pow2_le {s : Nat} (h : s ≤ 20) : (2 : Int) ^ s ≤ 1048576 := by
  have h1 : (2 : Nat) ^ s ≤ 2 ^ 20 := Nat.pow_le_pow_right (by decide) h
  have h3 : (2 : Int) ^ s = (((2 : Nat) ^ s : Nat) : Int) := by simp
  rw [h3]
  have h2 : (2 : Nat) ^ 20 = 1048576 := by decide
  omega
theorem shl_one {s : Nat} (h : s ≤ 20) : shl .i64 1 (s : Int) = 2 ^ s := by
  unfold shl
  have h1 : min ((s : Int)).toNat IntKind.i64.bits = s := by
    simp [IntKind.bits]; omega
  rw [h1, Int.one_mul, IntKind.wrap_i64]
  have := pow2_pos s
  have := pow2_le h
  omega
theorem shl_mul {s : Nat} (h : s ≤ 20) (y : Int) (h1 : -9223372036854775808 ≤ y * 2 ^ s) (h2 : y * 2 ^ s ≤ 9223372036854775807) : shl .i64 y (s : Int) = y * 2 ^ s := by
  unfold shl
  have e : min ((s : Int)).toNat IntKind.i64.bits = s := by
    simp [IntKind.bits]; omega
  rw [e, IntKind.wrap_i64]
  omega
theorem shr_div {s : Nat} (h : s ≤ 20) (y : Int) : shr .i64 y (s : Int) = y / 2 ^ s := by
  unfold shr
  have e : min ((s : Int)).toNat IntKind.i64.bits = s := by
    simp [IntKind.bits]; omega
  rw [e]
theorem mod_eq (x b : Int) : x = (x / b) * b + x % b := by
  have := Int.emod_add_mul_ediv x b
  rw [Int.mul_comm] at this
  omega

theorem impl_shifted_ev (x : Int) (s : Nat) (mode : Int) (hs : s ≤ 20) (hx : -4611686018427387904 ≤ x ∧ x ≤ 4611686018427387904) : Ev (fun k => impl_shifted.f k x (s : Int) mode) (shM x (2 ^ s) mode) := by
  have hb := pow2_pos s
  have hb2 := pow2_le hs
  have hr0 := Int.emod_nonneg x (show (2 : Int) ^ s ≠ 0 by omega)
  have hr1 := Int.emod_lt_of_pos x hb
  have hd := mod_eq x (2 ^ s)
  simp only [impl_shifted.f]
  by_cases c : mode = 1
  · refine Ev.tt c ?_
    by_cases d : (s : Int) > 0
    · obtain ⟨m, rfl⟩ : ∃ m, s = m + 1 := ⟨s - 1, by omega⟩
      have e1 : wrap64 (((m + 1 : Nat) : Int) - 1) = (m : Int) := by
        rw [w64 (n := ((m + 1 : Nat) : Int) - 1) (by omega) (by omega)]
        omega
      have hp : (2 : Int) ^ (m + 1) = 2 * 2 ^ m := by rw [Int.pow_succ]; omega
      have hpm := pow2_pos m
      have e2 : wrap64 (x + 2 ^ m) = x + 2 ^ m := w64 (by omega) (by omega)
      refine Ev.step (f := fun _ => some (shM x (2 ^ (m + 1)) mode)) (fun k => ?_) (Ev.now _)
      simp only [impl_shifted.j0, e1, shl_one (s := m) (by omega), e2, shr_div hs]
      rw [if_pos (by simp), if_pos (Int.natCast_nonneg _), if_pos (Int.natCast_nonneg _)]
      congr 1
      unfold shM
      by_cases g : (2 : Int) ^ (m + 1) ≤ 2 * (x % 2 ^ (m + 1)) ∧ 0 < x % 2 ^ (m + 1)
      · rw [if_pos ⟨c, g⟩]
        refine div_uniq (r := x % 2 ^ (m + 1) - 2 ^ m) ?_ (by omega) (by omega)
        rw [Int.add_mul]
        omega
      · rw [if_neg (fun h => g h.2), if_neg (fun h => by omega)]
        refine div_uniq (r := x % 2 ^ (m + 1) + 2 ^ m) (by omega) (by omega) (by omega)
    · have e : s = 0 := by omega
      subst e
      refine Ev.step (f := fun _ => some (shM x (2 ^ 0) mode)) (fun k => ?_) (Ev.now _)
      simp only [impl_shifted.j0, shr_div (s := 0) (by omega)]
      rw [if_neg (by simp), if_neg (by omega), if_pos (by omega)]
      congr 1
      unfold shM
      rw [if_neg (fun h => by have := h.2.2; simp at this), if_neg (fun h => by omega)]
  · refine Ev.ff c ?_
    refine Ev.step (f := fun _ => some (shM x (2 ^ s) mode)) (fun k => ?_) (Ev.now _)
    simp only [impl_shifted.j0, shr_div hs]
    rw [if_neg (by decide)]
    have hS : shM x (2 ^ s) mode = if mode = 2 ∧ x < 0 ∧ 0 < x % 2 ^ s then x / 2 ^ s + 1 else x / 2 ^ s := by
      unfold shM
      rw [if_neg (fun h => c h.1)]
    rw [hS]
    clear hS
    by_cases d : mode = 2
    · rw [if_pos d]
      by_cases g : x < 0
      · rw [if_pos g, if_pos (Int.natCast_nonneg _), w64 (n := -x) (by omega) (by omega)]
        by_cases r : 0 < x % 2 ^ s
        · rw [if_pos ⟨d, g, r⟩]
          have e : (-x) / 2 ^ s = -(x / 2 ^ s) - 1 := by
            refine div_uniq (r := 2 ^ s - x % 2 ^ s) ?_ (by omega) (by omega)
            rw [Int.sub_mul, Int.neg_mul]
            omega
          have hq : -4611686018427387905 ≤ x / 2 ^ s ∧ x / 2 ^ s ≤ 4611686018427387905 := ediv_bd hb hx
          rw [e, w64 (n := -(-(x / 2 ^ s) - 1)) (by omega) (by omega)]
          congr 1
          omega
        · rw [if_neg (fun h => r h.2.2)]
          have e : (-x) / 2 ^ s = -(x / 2 ^ s) := by
            refine div_uniq (r := 0) ?_ (by omega) (by omega)
            rw [Int.neg_mul]
            omega
          have hq : -4611686018427387905 ≤ x / 2 ^ s ∧ x / 2 ^ s ≤ 4611686018427387905 := ediv_bd hb hx
          rw [e, w64 (n := -(-(x / 2 ^ s))) (by omega) (by omega)]
          congr 1
          omega
      · rw [if_neg g, if_pos (Int.natCast_nonneg _), if_neg (fun h => g h.2.1)]
    · rw [if_neg d, if_pos (Int.natCast_nonneg _), if_neg (fun h => d h.1)]

theorem spec_wdShift_ev (x : Int) (s : Nat) (mode : Int) (hs : s ≤ 20) (hx : -4611686018427387904 ≤ x ∧ x ≤ 4611686018427387904) : Ev (fun k => spec_wdShift.f k x (s : Int) mode) (shM x (2 ^ s) mode) := by
  have hb := pow2_pos s
  have hb2 := pow2_le hs
  have hr0 := Int.emod_nonneg x (show (2 : Int) ^ s ≠ 0 by omega)
  have hr1 := Int.emod_lt_of_pos x hb
  have hd := mod_eq x (2 ^ s)
  have hq : -4611686018427387905 ≤ x / 2 ^ s ∧ x / 2 ^ s ≤ 4611686018427387905 := ediv_bd hb hx
  have key : ∀ d : Int, d = x / 2 ^ s → Ev (fun k => spec_wdShift.j0 k x mode (2 ^ s) d) (shM x (2 ^ s) mode) := by
    intro d e
    subst e
    have e1 : wrap64 (x / 2 ^ s * 2 ^ s) = x / 2 ^ s * 2 ^ s := w64 (by omega) (by omega)
    have e2 : wrap64 (x - x / 2 ^ s * 2 ^ s) = x % 2 ^ s := by
      rw [w64 (n := x - x / 2 ^ s * 2 ^ s) (by omega) (by omega)]
      omega
    have e3 : wrap64 (2 * (x % 2 ^ s)) = 2 * (x % 2 ^ s) := w64 (by omega) (by omega)
    have e4 : wrap64 (x / 2 ^ s + 1) = x / 2 ^ s + 1 := w64 (by omega) (by omega)
    have j1 : ∀ f : Bool, (f = true ↔ mode = 1 ∧ 2 ^ s ≤ 2 * (x % 2 ^ s) ∧ 0 < x % 2 ^ s) → Ev (fun k => spec_wdShift.j1 k x mode (x / 2 ^ s) (x % 2 ^ s) f) (shM x (2 ^ s) mode) := by
      intro f hf
      refine Ev.step (f := fun _ => some (shM x (2 ^ s) mode)) (fun k => ?_) (Ev.now _)
      simp only [spec_wdShift.j1, e4]
      unfold shM
      by_cases g : f = true
      · rw [if_pos g, if_pos (hf.1 g)]
      · rw [if_neg g, if_neg (fun h => g (hf.2 h))]
        by_cases m2 : mode = 2
        · rw [if_pos m2]
          by_cases x0 : x < 0
          · rw [if_pos x0]
            by_cases r0 : x % 2 ^ s > 0
            · rw [if_pos r0, if_pos ⟨m2, x0, r0⟩]
            · rw [if_neg r0, if_neg (fun h => r0 h.2.2)]
          · rw [if_neg x0, if_neg (fun h => x0 h.2.1)]
        · rw [if_neg m2, if_neg (fun h => m2 h.1)]
    by_cases m1 : mode = 1
    · by_cases g : 2 * (x % 2 ^ s) ≥ 2 ^ s
      · refine Ev.step (fun k => ?_) (j1 (decide (x % 2 ^ s > 0)) (by simp only [decide_eq_true_eq]; exact ⟨fun h => ⟨m1, g, h⟩, fun h => h.2.2⟩))
        simp only [spec_wdShift.j0, e1, e2, e3, if_pos m1, if_pos g]
      · refine Ev.step (fun k => ?_) (j1 false (by simp; intro _ h; omega))
        simp only [spec_wdShift.j0, e1, e2, e3, if_pos m1, if_neg g]
    · refine Ev.step (fun k => ?_) (j1 false (by simp; intro h; exact absurd h m1))
      simp only [spec_wdShift.j0, e1, e2, e3, if_neg m1]
  simp only [spec_wdShift.f, shl_one hs]
  refine Ev.tt (Int.natCast_nonneg _) (Ev.ff (by omega) ?_)
  by_cases g : Int.tmod x (2 ^ s) < 0
  · refine Ev.tt g (key _ ?_)
    have hx0 : x < 0 := by
      apply Int.not_le.1
      intro h
      have := Int.tmod_nonneg (2 ^ s) h
      omega
    have e := Int.tdiv_eq_ediv (a := x) (b := 2 ^ s)
    have e0 : ¬ (0 ≤ x ∨ (2 : Int) ^ s ∣ x) := by
      rintro (h | h)
      · omega
      · rw [Int.tmod_eq_zero_of_dvd h] at g
        omega
    rw [if_neg e0, Int.sign_eq_one_of_pos hb] at e
    rw [e, w64 (n := x / 2 ^ s + 1) (by omega) (by omega), w64 (n := x / 2 ^ s + 1 - 1) (by omega) (by omega)]
    omega
  · refine Ev.ff g (key _ ?_)
    have e := Int.tdiv_eq_ediv (a := x) (b := 2 ^ s)
    have e0 : 0 ≤ x ∨ (2 : Int) ^ s ∣ x := by
      by_cases h : 0 ≤ x
      · exact .inl h
      · right
        have h2 : Int.tmod x (2 ^ s) ≤ 0 := by
          have := Int.tmod_nonneg (2 ^ s) (show 0 ≤ -x by omega)
          rw [Int.neg_tmod] at this
          omega
        exact Int.dvd_of_tmod_eq_zero (by omega)
    rw [if_pos e0] at e
    rw [e, w64 (n := x / 2 ^ s + 0) (by omega) (by omega)]
    omega

def numOk (x : Int) : Bool := decide (-1000000000000 ≤ x) && decide (x ≤ 1000000000000)
def modeOk (s mode : Int) : Bool := (decide (0 ≤ s) && decide (s ≤ 20)) && (decide (0 ≤ mode) && decide (mode ≤ 2))
theorem numOk_iff {x : Int} : numOk x = true ↔ -1000000000000 ≤ x ∧ x ≤ 1000000000000 := by simp [numOk]
theorem modeOk_iff {s m : Int} : modeOk s m = true ↔ (0 ≤ s ∧ s ≤ 20) ∧ (0 ≤ m ∧ m ≤ 2) := by simp [modeOk]
def roundM (x s mode : Int) : Int × Bool := if numOk x = true then (if modeOk s mode = true then (shM x (2 ^ s.toNat) mode, true) else (0, false)) else (0, false)
theorem impl_isNumber_eq (x : Int) : impl_isNumber.f x = some (numOk x) := by
  unfold impl_isNumber.f
  rw [impl_in_eq]
  rfl
theorem impl_isShift_eq (s m : Int) : impl_isShift.f s m = some (modeOk s m) := by
  unfold impl_isShift.f modeOk
  rw [impl_in_eq]
  simp only [Option.bind_some, impl_in_eq]
  by_cases c : (decide (0 ≤ s) && decide (s ≤ 20)) = true
  · rw [if_pos c, c, Bool.true_and]
  · rw [if_neg c, Bool.eq_false_iff.mpr c, Bool.false_and]
theorem impl_RoundShift_ev (x s m : Int) : Ev (fun k => impl_RoundShift.f k x s m) (roundM x s m) := by
  simp only [impl_RoundShift.f, roundM]
  refine Ev.dbind (impl_isNumber_eq x) ?_
  by_cases c : numOk x = true
  · rw [if_pos c]
    refine Ev.tt c (Ev.dbind (impl_isShift_eq s m) ?_)
    by_cases d : modeOk s m = true
    · rw [if_pos d]
      have d' := modeOk_iff.1 d
      have c' := numOk_iff.1 c
      obtain ⟨n, rfl⟩ : ∃ n : Nat, s = (n : Int) := ⟨s.toNat, by omega⟩
      rw [Int.toNat_natCast]
      exact Ev.tt d (Ev.bind (impl_shifted_ev x n m (by omega) (by omega)) (Ev.now _))
    · rw [if_neg d]
      exact Ev.ff d (Ev.now _)
  · rw [if_neg c]
    exact Ev.ff c (Ev.now _)

theorem spec_wdNumber_eq (x : Int) : spec_wdNumber.f x = some (numOk x) := by
  unfold spec_wdNumber.f
  rw [spec_l1In_eq]
  rfl
theorem spec_wdMode_eq (s m : Int) : spec_wdMode.f s m = some (modeOk s m) := by
  unfold spec_wdMode.f modeOk
  rw [spec_l1In_eq]
  simp only [Option.bind_some, spec_l1In_eq]
  by_cases c : (decide (0 ≤ s) && decide (s ≤ 20)) = true
  · rw [if_pos c, c, Bool.true_and]
  · rw [if_neg c, Bool.eq_false_iff.mpr c, Bool.false_and]
theorem spec_RoundShift_ev (x s m : Int) : Ev (fun k => spec_RoundShift.f k x s m) (roundM x s m) := by
  simp only [spec_RoundShift.f, roundM]
  refine Ev.dbind (spec_wdNumber_eq x) ?_
  by_cases c : numOk x = true
  · rw [if_pos c]
    refine Ev.tt c (Ev.dbind (spec_wdMode_eq s m) ?_)
    by_cases d : modeOk s m = true
    · rw [if_pos d]
      have d' := modeOk_iff.1 d
      have c' := numOk_iff.1 c
      obtain ⟨n, rfl⟩ : ∃ n : Nat, s = (n : Int) := ⟨s.toNat, by omega⟩
      rw [Int.toNat_natCast]
      exact Ev.tt d (Ev.bind (spec_wdShift_ev x n m (by omega) (by omega)) (Ev.now _))
    · rw [if_neg d]
      exact Ev.ff d (Ev.now _)
  · rw [if_neg c]
    exact Ev.ff c (Ev.now _)

def restM (x s mode : Int) : Int × Bool := if numOk x = true then (if modeOk s mode = true then (x - shM x (2 ^ s.toNat) mode * 2 ^ s.toNat, true) else (0, false)) else (0, false)
/-- what a shift leaves -/
theorem shM_rest (x b mode : Int) (hb : 0 < b) : ∃ r, x - shM x b mode * b = r ∧ (shM x b mode = x / b ∧ r = x % b ∨ shM x b mode = x / b + 1 ∧ r = x % b - b) := by
  have hd := mod_eq x b
  refine ⟨_, rfl, ?_⟩
  unfold shM
  split
  · right
    refine ⟨rfl, ?_⟩
    rw [Int.add_mul]
    omega
  · split
    · right
      refine ⟨rfl, ?_⟩
      rw [Int.add_mul]
      omega
    · left
      exact ⟨rfl, by omega⟩
theorem shM_bd (x b mode : Int) (hb : 0 < b) (hb2 : b ≤ 1048576) (hx : -1000000000000 ≤ x ∧ x ≤ 1000000000000) : (-2000000000000 ≤ shM x b mode * b ∧ shM x b mode * b ≤ 2000000000000) ∧ (-1048576 ≤ x - shM x b mode * b ∧ x - shM x b mode * b ≤ 1048576) := by
  have h0 := Int.emod_nonneg x (show b ≠ 0 by omega)
  have h1 := Int.emod_lt_of_pos x hb
  obtain ⟨r, hr, h | h⟩ := shM_rest x b mode hb <;> omega
theorem impl_RestOfShift_ev (x s m : Int) : Ev (fun k => impl_RestOfShift.f k x s m) (restM x s m) := by
  simp only [impl_RestOfShift.f, restM]
  refine Ev.dbind (impl_isNumber_eq x) ?_
  by_cases c : numOk x = true
  · rw [if_pos c]
    refine Ev.tt c (Ev.dbind (impl_isShift_eq s m) ?_)
    by_cases d : modeOk s m = true
    · rw [if_pos d]
      have d' := modeOk_iff.1 d
      have c' := numOk_iff.1 c
      obtain ⟨n, rfl⟩ : ∃ n : Nat, s = (n : Int) := ⟨s.toNat, by omega⟩
      have hb := shM_bd x (2 ^ n) m (pow2_pos n) (pow2_le (by omega)) c'
      rw [Int.toNat_natCast]
      refine Ev.tt d (Ev.bind (impl_shifted_ev x n m (by omega) (by omega)) (Ev.tt d'.1.1 (Ev.to (Ev.now _) ?_)))
      rw [shl_mul (by omega) _ (by omega) (by omega), w64 (n := x - shM x (2 ^ n) m * 2 ^ n) (by omega) (by omega)]
    · rw [if_neg d]
      exact Ev.ff d (Ev.now _)
  · rw [if_neg c]
    exact Ev.ff c (Ev.now _)

theorem spec_RestOfShift_ev (x s m : Int) : Ev (fun k => spec_RestOfShift.f k x s m) (restM x s m) := by
  simp only [spec_RestOfShift.f, restM]
  refine Ev.dbind (spec_wdNumber_eq x) ?_
  by_cases c : numOk x = true
  · rw [if_pos c]
    refine Ev.tt c (Ev.dbind (spec_wdMode_eq s m) ?_)
    by_cases d : modeOk s m = true
    · rw [if_pos d]
      have d' := modeOk_iff.1 d
      have c' := numOk_iff.1 c
      obtain ⟨n, rfl⟩ : ∃ n : Nat, s = (n : Int) := ⟨s.toNat, by omega⟩
      have hb := shM_bd x (2 ^ n) m (pow2_pos n) (pow2_le (by omega)) c'
      rw [Int.toNat_natCast]
      refine Ev.tt d (Ev.bind (spec_wdShift_ev x n m (by omega) (by omega)) (Ev.tt d'.1.1 (Ev.to (Ev.now _) ?_)))
      rw [shl_mul (by omega) _ (by omega) (by omega), w64 (n := x - shM x (2 ^ n) m * 2 ^ n) (by omega) (by omega)]
    · rw [if_neg d]
      exact Ev.ff d (Ev.now _)
  · rw [if_neg c]
    exact Ev.ff c (Ev.now _)

theorem laws_big_eq (l m : List Int) (hl : l.length ≤ 140737488355328) (hm : m.length ≤ 140737488355328) : laws_big.f l m = some (decide (1048576 < l.length + m.length)) := by
  unfold laws_big.f
  by_cases c : (l.length : Int) > 1048576
  · rw [if_pos c]
    simp; omega
  · rw [if_neg c, w64 (n := 1048576 - (l.length : Int)) (by omega) (by omega)]
    simp; omega
theorem bytes_of {l : List Int} (h : l.length ≤ 1048576) (hx : ∀ x ∈ l, (Lit.int .u8 x).wf = true) : Bytes l := by
  refine ⟨h, fun x hxl => ?_⟩
  have := hx x hxl
  simp [Lit.wf, IntKind.min, IntKind.max, IntKind.signed, IntKind.bits] at this
  omega

theorem shM_two (x b : Int) : shM x b 2 = if x < 0 ∧ 0 < x % b then x / b + 1 else x / b := by
  unfold shM
  rw [if_neg (fun h => by omega)]
  simp
theorem shM_neg (x b : Int) (hb : 0 < b) : shM (-x) b 2 = -shM x b 2 := by
  have h0 := Int.emod_nonneg x (show b ≠ 0 by omega)
  have h1 := Int.emod_lt_of_pos x hb
  have hd := mod_eq x b
  by_cases r : x % b = 0
  · have e : (-x) / b = -(x / b) := div_uniq (r := 0) (by rw [Int.neg_mul]; omega) (by omega) (by omega)
    have e2 : (-x) % b = 0 := by
      have := mod_eq (-x) b
      rw [e, Int.neg_mul] at this
      omega
    unfold shM
    rw [e, e2, r]
    simp
  · have e : (-x) / b = -(x / b) - 1 := div_uniq (r := b - x % b) (by rw [Int.sub_mul, Int.neg_mul]; omega) (by omega) (by omega)
    have e2 : (-x) % b = b - x % b := by
      have := mod_eq (-x) b
      rw [e, Int.sub_mul, Int.neg_mul] at this
      omega
    have hx : x ≠ 0 := fun h => r (by rw [h]; simp)
    rw [shM_two, shM_two, e, e2]
    by_cases g : x < 0
    · rw [if_neg (fun h => by omega), if_pos ⟨g, by omega⟩]
      omega
    · rw [if_pos ⟨by omega, by omega⟩, if_neg (fun h => g h.1)]
      omega
theorem FnShiftsRound : laws_FnShiftsRound.Pure := by
  intro l m h1 h2 h3 h4 h5 h6
  apply Ev.rounds
  simp only [laws_FnShiftsRound.f]
  refine Ev.dbind (laws_big_eq l m (by omega) (by omega)) ?_
  by_cases big : 1048576 < l.length + m.length
  · exact Ev.tt (by simpa using big) (Ev.now _)
  refine Ev.ff (by simpa using big) ?_
  have hl : Bytes l := bytes_of (by omega) h3
  obtain ⟨x, s, mode, e, hx, hs, hm⟩ := drawRoundShift_ok hl
  refine Ev.dbind e (Ev.bind (impl_RoundShift_ev x s mode) (Ev.bind (spec_RoundShift_ev x s mode) (Ev.bind (impl_RestOfShift_ev x s mode) (Ev.bind (spec_RestOfShift_ev x s mode) ?_))))
  dsimp only
  refine Ev.ff (by simp) (Ev.tt rfl (Ev.ff (by simp) (Ev.tt rfl ?_)))
  by_cases c : numOk x = true ∧ modeOk s mode = true
  · have c' := numOk_iff.1 c.1
    have d' := modeOk_iff.1 c.2
    obtain ⟨n, rfl⟩ : ∃ n : Nat, s = (n : Int) := ⟨s.toNat, by omega⟩
    have hp := pow2_pos n
    have hp2 := pow2_le (s := n) (by omega)
    have hr0 := Int.emod_nonneg x (show (2 : Int) ^ n ≠ 0 by omega)
    have hr1 := Int.emod_lt_of_pos x hp
    have e1 : roundM x (n : Int) mode = (shM x (2 ^ n) mode, true) := by rw [roundM, if_pos c.1, if_pos c.2, Int.toNat_natCast]
    have e2 : restM x (n : Int) mode = (x - shM x (2 ^ n) mode * 2 ^ n, true) := by rw [restM, if_pos c.1, if_pos c.2, Int.toNat_natCast]
    have e3 : roundM x (n : Int) 0 = (shM x (2 ^ n) 0, true) := by rw [roundM, if_pos c.1, if_pos (modeOk_iff.2 ⟨d'.1, by omega⟩), Int.toNat_natCast]
    have e0 : shM x (2 ^ n) 0 = x / 2 ^ n := by
      unfold shM
      rw [if_neg (fun h => by omega), if_neg (fun h => by omega)]
    have hb := shM_bd x (2 ^ n) mode hp hp2 c'
    have hq : -4611686018427387905 ≤ x / 2 ^ n ∧ x / 2 ^ n ≤ 4611686018427387905 := ediv_bd hp hx
    have hneg : mode = 2 → shM (-x) (2 ^ n) mode = -shM x (2 ^ n) mode := fun h => by rw [h]; exact shM_neg x _ hp
    have hmode1 : mode = 1 → (x - shM x (2 ^ n) mode * 2 ^ n = x % 2 ^ n ∧ ¬ (2 ^ n ≤ 2 * (x % 2 ^ n) ∧ 0 < x % 2 ^ n)) ∨ (x - shM x (2 ^ n) mode * 2 ^ n = x % 2 ^ n - 2 ^ n ∧ 2 ^ n ≤ 2 * (x % 2 ^ n)) := by
      intro h
      have hd := mod_eq x (2 ^ n)
      unfold shM
      by_cases g : 2 ^ n ≤ 2 * (x % 2 ^ n) ∧ 0 < x % 2 ^ n
      · right
        rw [if_pos ⟨h, g⟩, Int.add_mul]
        exact ⟨by omega, g.1⟩
      · left
        rw [if_neg (fun h => g h.2), if_neg (fun h => by omega)]
        exact ⟨by omega, g⟩
    have hmode2 : mode = 2 → (x - shM x (2 ^ n) mode * 2 ^ n = x % 2 ^ n ∧ (0 ≤ x ∨ x % 2 ^ n = 0)) ∨ (x - shM x (2 ^ n) mode * 2 ^ n = x % 2 ^ n - 2 ^ n ∧ x < 0 ∧ 0 < x % 2 ^ n) := by
      intro h
      have hd := mod_eq x (2 ^ n)
      unfold shM
      rw [if_neg (fun h => by omega)]
      by_cases g : x < 0 ∧ 0 < x % 2 ^ n
      · right
        rw [if_pos ⟨h, g⟩, Int.add_mul]
        exact ⟨by omega, g⟩
      · left
        rw [if_neg (fun h => g h.2)]
        exact ⟨by omega, by omega⟩
    have hmode0 : mode = 0 → x - shM x (2 ^ n) mode * 2 ^ n = x % 2 ^ n := by
      intro h
      have hd := mod_eq x (2 ^ n)
      rw [h, e0]
      omega
    obtain ⟨r, hr, hor⟩ := shM_rest x (2 ^ n) mode hp
    rw [e1, e2]
    dsimp only
    generalize hS : shM x (2 ^ n) mode = S at *
    rw [hr] at hb hmode0 hmode1 hmode2 ⊢
    have hY : wrap64 (S * 2 ^ n) = S * 2 ^ n := w64 (by omega) (by omega)
    have hX : wrap64 (S * 2 ^ n + r) = x := by rw [w64 (n := S * 2 ^ n + r) (by omega) (by omega)]; omega
    have h2r : wrap64 (2 * r) = 2 * r := w64 (by omega) (by omega)
    have hnb : wrap64 (-(2 : Int) ^ n) = -2 ^ n := w64 (by omega) (by omega)
    have hnr : wrap64 (-r) = -r := w64 (by omega) (by omega)
    have hnx : wrap64 (-x) = -x := w64 (by omega) (by omega)
    have hSb : -4611686018427387906 ≤ S ∧ S ≤ 4611686018427387906 := by omega
    have hnS : wrap64 (-S) = -S := w64 (by omega) (by omega)
    have hq1 : wrap64 (x / 2 ^ n + 1) = x / 2 ^ n + 1 := w64 (by omega) (by omega)
    -- the last part: the same shift of the other number
    have last : Ev (fun k => laws_FnShiftsRound.j2 k x (n : Int) mode S) true := by
      by_cases m2 : mode = 2
      · by_cases g : x > -1000000000000
        · refine Ev.step (f := fun k => laws_FnShiftsRound.j3 k x (n : Int) mode S true) (fun k => ?_) ?_
          · simp only [laws_FnShiftsRound.j2, if_pos m2]
            rw [decide_eq_true g]
          · refine Ev.step (fun k => by simp only [laws_FnShiftsRound.j3]; rfl) ?_
            refine Ev.tt trivial ?_
            rw [hnx]
            have e4 : roundM (-x) (n : Int) mode = (-S, true) := by
              rw [roundM, if_pos (numOk_iff.2 (by omega)), if_pos c.2, Int.toNat_natCast, hneg m2]
            refine Ev.bind (impl_RoundShift_ev (-x) (n : Int) mode) ?_
            rw [e4, hnS]
            exact Ev.tt rfl (Ev.tt rfl (Ev.now _))
        · refine Ev.step (f := fun k => laws_FnShiftsRound.j3 k x (n : Int) mode S false) (fun k => ?_) ?_
          · simp only [laws_FnShiftsRound.j2, if_pos m2]
            rw [decide_eq_false g]
          · exact Ev.step (f := fun _ => some true) (fun k => by simp [laws_FnShiftsRound.j3]) (Ev.now _)
      · refine Ev.step (f := fun k => laws_FnShiftsRound.j3 k x (n : Int) mode S false) (fun k => by simp only [laws_FnShiftsRound.j2, if_neg m2]) ?_
        exact Ev.step (f := fun _ => some true) (fun k => by simp [laws_FnShiftsRound.j3]) (Ev.now _)
    have mid : Ev (fun k => laws_FnShiftsRound.j1 k x (n : Int) mode S r (2 ^ n) false) true := by
      refine Ev.step (fun k => by simp only [laws_FnShiftsRound.j1]; rfl) ?_
      refine Ev.ff (by decide) ?_
      by_cases m0 : mode = 0
      · have hh := hmode0 m0
        exact Ev.tt m0 (Ev.ff (by omega) (Ev.ff (by omega) last))
      · refine Ev.ff m0 ?_
        by_cases m1 : mode = 1
        · have hh := hmode1 m1
          rw [h2r, hnb]
          refine Ev.tt m1 (Ev.ff (by omega) ?_)
          by_cases g : 2 * r ≥ 2 ^ n
          · refine Ev.tt g (Ev.ff (by omega) (Ev.tt (by omega) (Ev.tt (by omega) last)))
          · refine Ev.ff g ?_
            by_cases g1 : (2 : Int) ^ n = 1
            · exact Ev.tt g1 (Ev.tt (by omega) last)
            · exact Ev.ff g1 last
        · have m2 : mode = 2 := by omega
          have hh := hmode2 m2
          have hsz : laws_iSize.f r = some (r.natAbs : Int) := by
            unfold laws_iSize.f
            rw [hnr]
            by_cases g : r < 0
            · rw [if_pos g]; simp; omega
            · rw [if_neg g]; simp; omega
          refine Ev.ff m1 (Ev.dbind hsz (Ev.ff (by omega) ?_))
          by_cases x0 : x > 0
          · exact Ev.tt x0 (Ev.ff (by omega) (Ev.ff (by omega) last))
          · refine Ev.ff x0 ?_
            by_cases x1 : x < 0
            · exact Ev.tt x1 (Ev.ff (by omega) last)
            · exact Ev.ff x1 last
    refine Ev.step (fun k => by simp only [laws_FnShiftsRound.j0]; rfl) ?_
    refine (Ev.ff (by simp) (Ev.tt trivial (Ev.tt (Int.natCast_nonneg _) (Ev.bind (impl_RoundShift_ev x (n : Int) 0) ?_))))
    rw [e3, shl_one (by omega), hY, hX, e0]
    refine Ev.tt rfl (Ev.tt rfl ?_)
    by_cases g : S = x / 2 ^ n
    · exact Ev.tt g mid
    · refine Ev.ff g ?_
      have e5 : (S != wrap64 (x / 2 ^ n + 1)) = false := by
        rw [hq1]
        simp
        omega
      rw [e5]
      exact mid
  · have e1 : roundM x s mode = (0, false) := by
      unfold roundM
      by_cases a : numOk x = true
      · rw [if_pos a, if_neg (fun b => c ⟨a, b⟩)]
      · rw [if_neg a]
    have e2 : restM x s mode = (0, false) := by
      unfold restM
      by_cases a : numOk x = true
      · rw [if_pos a, if_neg (fun b => c ⟨a, b⟩)]
      · rw [if_neg a]
    rw [e1, e2]
    exact Ev.step (f := fun _ => some true) (fun k => by simp [laws_FnShiftsRound.j0]) (Ev.now _)

end Go.Proofs.Ythbpdbkokplgcaa.Pure
