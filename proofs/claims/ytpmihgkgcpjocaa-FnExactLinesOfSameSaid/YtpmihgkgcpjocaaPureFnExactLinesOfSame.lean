/- The program's LinesOfSame returns what the reference's returns, for all arguments. Conditions: none beyond those that the statement itself prints. -/
import Derived.Test.YtpmihgkgcpjocaaPFnExactLinesOfSamex5
namespace Go.Proofs.Ytpmihgkgcpjocaa.Pure
open Go.RowKit Go.Proofs.Ytpmihgkgcpjocaa.PFnExactLinesOfSame Go.Proofs.YtpmihgkgcpjocaaW.PrintWords Go.Proofs.YtpmihgkgcpjocaaW.PrintLast Go.Proofs.YtpmihgkgcpjocaaW.PrintMore
set_option linter.unusedVariables false
set_option linter.unusedSimpArgs false

theorem w64 {n : Int} (h1 : -9223372036854775808 ≤ n) (h2 : n ≤ 9223372036854775807) : wrap64 n = n := by
  unfold wrap64
  omega
theorem Ev.to {α : Type} {g : Nat → Option α} {r r' : α} (h : Ev g r) (e : r = r') : Ev g r' := e ▸ h
theorem Ev.const {α : Type} {g : Option α} {r : α} (h : g = some r) : Ev (fun _ => g) r := ⟨0, fun _ _ => h⟩
theorem Ev.dbind {α β : Type} {g : Option α} {f : Nat → α → Option β} {a : α} {r : β} (h : g = some a) (k : Ev (fun n => f n a) r) : Ev (fun n => g.bind (f n)) r :=
  Ev.bind (g := fun _ => g) (Ev.const h) k
theorem Ev.tt {α : Type} {c : Prop} {_ : Decidable c} {g f : Nat → Option α} {r : α} (h : c) (k : Ev g r) : Ev (fun n => if c then g n else f n) r := by
  simpa only [if_pos h] using k
theorem Ev.ff {α : Type} {c : Prop} {_ : Decidable c} {g f : Nat → Option α} {r : α} (h : ¬ c) (k : Ev f r) : Ev (fun n => if c then g n else f n) r := by
  simpa only [if_neg h] using k
theorem rd_mid (p t : List Int) (x : Int) : rd (p ++ x :: t) (p.length : Int) = x := by
  simp [rd]
theorem lt_mid {α : Type} (p t : List α) (x : α) : (p.length : Int) < ((p ++ x :: t).length : Int) := by
  simp
  omega
theorem nx_mid {α : Type} (p t : List α) (x : α) (h : (p ++ x :: t).length ≤ 140737488351232) : wrap64 ((p.length : Int) + 1) = ((p ++ [x]).length : Int) := by
  simp at h ⊢
  exact w64 (by omega) (by omega)
theorem ap_mid {α : Type} (p t : List α) (x : α) : p ++ x :: t = (p ++ [x]) ++ t := by simp
theorem w64_nat (a b : Nat) (h : a + b ≤ 1000000000) : wrap64 ((a : Int) + (b : Int)) = ((a + b : Nat) : Int) := by
  rw [w64 (n := (a : Int) + (b : Int)) (by omega) (by omega)]
  omega
theorem w64_suc {α : Type} (q : List α) (x : α) (h : q.length ≤ 1000000000) : wrap64 ((q.length : Int) + 1) = ((q ++ [x]).length : Int) := by
  rw [w64 (n := (q.length : Int) + 1) (by omega) (by omega)]
  simp
theorem ar1 {a b c d : Nat} (h1 : a + 1 ≤ c) (h2 : b + 1 ≤ d) : ((a + b : Nat) : Int) < ((c + d - 1 : Nat) : Int) := by omega
theorem ar2 {a b c d : Nat} (h1 : a + 1 ≤ c) (h2 : b + 1 ≤ d) : a + b < c + d - 1 := by omega
theorem ar3 (a b : Nat) : ¬ (a ≤ a + b ∧ a + b - a < b) := by omega
theorem ar4 {v M : Int} (h : -M ≤ v ∧ v ≤ M) (hm : M ≤ 4000000000000000000) : wrap64 v = v := w64 (by omega) (by omega)
theorem ar5 {c v P M H : Int} (hc : -P ≤ c ∧ c ≤ P) (hv : -M ≤ v ∧ v ≤ M) (hp : P + M ≤ H) (hH : H ≤ 4000000000000000000) : wrap64 (c + v) = c + v := w64 (by omega) (by omega)
theorem ar6 {a b : Nat} {M : Int} (h : a + 1 ≤ b) (hM : 0 ≤ M) : (a : Int) * M + M ≤ (b : Int) * M := by
  have h1 : ((a : Int) + 1) * M ≤ (b : Int) * M := Int.mul_le_mul_of_nonneg_right (by omega) hM
  rw [Int.add_mul, Int.one_mul] at h1
  exact h1
theorem ar7 {a b c d : Nat} (h1 : a + 1 ≤ c) (h2 : b + 1 ≤ d) (h : c + d ≤ 100000000) : a + b ≤ 1000000000 := by omega
theorem ar8 {a c d : Nat} (h1 : a + 1 ≤ c) (h : c + d ≤ 100000000) : a ≤ 1000000000 := by omega
theorem tm (a b : Nat) : Int.tmod (a : Int) (b : Int) = ((a % b : Nat) : Int) := (Int.ofNat_tmod a b).symm
theorem td (a b : Nat) : Int.tdiv (a : Int) (b : Int) = ((a / b : Nat) : Int) := (Int.ofNat_tdiv a b).symm
theorem w64n {a : Nat} (h : a ≤ 1000000000) : wrap64 (a : Int) = (a : Int) := w64 (by omega) (by omega)

def backOf (n : Int) : Int × Bool := if n = 3 then (-1, true) else if n = 4 then (0, true) else if n = 6 then (1, true) else (0, false)
def tnF (c : Int) : List Int → Int → Int → Int × Int
  | [], y, z => (y, z)
  | x :: t, y, z => tnF c t (wrap64 ((wrap64 (x + (wrap64 (c * y)))) - z)) y
def sig (l : List Int) : Bool := decide (l.length ≤ 64) && l.all fun x => decide (-100000 ≤ x) && decide (x ≤ 100000)
def toneStates (l : List Int) (n : Int) : Int × Int × Bool := if (backOf n).2 = true then (if sig l = true then ((tnF (backOf n).1 l 0 0).1, (tnF (backOf n).1 l 0 0).2, true) else (0, 0, false)) else (0, 0, false)
theorem sig_len {l : List Int} (h : sig l = true) : l.length ≤ 64 := by
  simp [sig] at h
  exact h.1
theorem sig_mem {l : List Int} (h : sig l = true) : ∀ x ∈ l, -100000 ≤ x ∧ x ≤ 100000 := by
  simp [sig] at h
  exact h.2
def isBits (l : List Int) : Bool := decide (l.length ≤ 200) && l.all fun x => decide (x = 1 ∨ x = -1)
theorem isBits_len {l : List Int} (h : isBits l = true) : l.length ≤ 200 := by
  simp [isBits] at h
  exact h.1
theorem isBits_mem {l : List Int} (h : isBits l = true) : ∀ x ∈ l, x = 1 ∨ x = -1 := by
  simp [isBits] at h
  exact h.2
def toldM (l : List Int) : List Int × Bool := if sig l = true then (l, true) else ([], false)
theorem toldM_len (l : List Int) : (toldM l).1.length ≤ 64 := by
  unfold toldM
  split
  · exact sig_len ‹_›
  · simp
def bitM (x v : Int) : Int := if x ≥ v then 1 else -1
theorem bitM_cases (x v : Int) : bitM x v = 1 ∨ bitM x v = -1 := by
  unfold bitM
  split <;> simp
def tkS (st last : Int) (fixed : Bool) (bit : Int) : Int :=
  if fixed = true then st else if last = 0 then st else if bit = last then (if 2 * st ≤ 4096 then 2 * st else 4096) else (if 1 ≤ st / 2 then st / 2 else 1)
theorem tkS_bd {st last : Int} {fixed : Bool} {bit : Int} (h0 : 1 ≤ st) (h1 : st ≤ 4096) : 1 ≤ tkS st last fixed bit ∧ tkS st last fixed bit ≤ 4096 := by
  unfold tkS
  repeat' split
  all_goals omega
theorem mul_bit {st bit : Int} (hb : bit = 1 ∨ bit = -1) : st * bit = st ∨ st * bit = -st := by
  rcases hb with rfl | rfl
  · left; omega
  · right; omega
/-- bit, value and step behind each sample -/
def codeM (fixed : Bool) : List Int → Int → Int → Int → List (Int × Int × Int)
  | [], _, _, _ => []
  | x :: t, v, st, last =>
    let b := bitM x v
    let s := tkS st last fixed b
    (b, v + s * b, s) :: codeM fixed t (v + s * b) s b
theorem codeM_length (fixed : Bool) : ∀ (l : List Int) (v st last : Int), (codeM fixed l v st last).length = l.length
  | [], _, _, _ => rfl
  | x :: t, v, st, last => by simp [codeM, codeM_length fixed t]
def fixM (st : Int) : List Int → Int → List Int
  | [], _ => []
  | x :: t, v => bitM x v :: fixM st t (v + bitM x v * st)
theorem fixM_length (st : Int) : ∀ (l : List Int) (v : Int), (fixM st l v).length = l.length
  | [], _ => rfl
  | x :: t, v => by simp [fixM, fixM_length st t]
def fixedBits (l : List Int) (st : Int) : List Int × Bool := if sig l = true ∧ 1 ≤ st ∧ st ≤ 4096 then (fixM st l 0, true) else ([], false)
def decM (fixed : Bool) : List Int → Int → Int → Int → List (Int × Int)
  | [], _, _, _ => []
  | b :: t, v, st, last => (v + tkS st last fixed b * b, tkS st last fixed b) :: decM fixed t (v + tkS st last fixed b * b) (tkS st last fixed b) b
theorem decM_length (fixed : Bool) : ∀ (l : List Int) (v st last : Int), (decM fixed l v st last).length = l.length
  | [], _, _, _ => rfl
  | x :: t, v, st, last => by simp [decM, decM_length fixed t]
def gapM : List Int → List Int → List Int
  | x :: t, y :: u => (x - y) :: gapM t u
  | _, _ => []
theorem gapM_length : ∀ (l m : List Int), l.length = m.length → (gapM l m).length = l.length
  | [], m, _ => by cases m <;> simp [gapM]
  | x :: t, [], h => by simp at h
  | x :: t, y :: u, h => by
    simp at h
    simp [gapM, gapM_length t u h]
theorem codeM_val (fixed : Bool) : ∀ (l : List Int) (v st last : Int) (n : Int), 1 ≤ st → st ≤ 4096 → -4096 * n ≤ v → v ≤ 4096 * n → ∀ y ∈ (codeM fixed l v st last).map (·.2.1), -4096 * (n + l.length) ≤ y ∧ y ≤ 4096 * (n + l.length)
  | [], _, _, _, _, _, _, _, _, y, hy => by simp [codeM] at hy
  | x :: t, v, st, last, n, h0, h1, hv0, hv1, y, hy => by
    have hb := bitM_cases x v
    have hk := tkS_bd (last := last) (fixed := fixed) (bit := bitM x v) h0 h1
    have hm := mul_bit (st := tkS st last fixed (bitM x v)) hb
    simp only [codeM, List.map_cons, List.mem_cons] at hy
    rcases hy with rfl | hy
    · simp; omega
    · have := codeM_val fixed t _ _ _ (n + 1) hk.1 hk.2 (by omega) (by omega) y hy
      simp; omega
def stepOk (st : Int) : Bool := decide (1 ≤ st) && decide (st ≤ 4096)
theorem stepOk_iff {st : Int} : stepOk st = true ↔ 1 ≤ st ∧ st ≤ 4096 := by simp [stepOk]
def stepBits (l : List Int) (st : Int) : List Int × Bool := if sig l = true then (if stepOk st = true then ((codeM false l 0 st 0).map (·.1), true) else ([], false)) else ([], false)
def stepValues (l : List Int) (st : Int) : List Int × Bool := if isBits l = true then (if stepOk st = true then toldM ((decM false l 0 st 0).map (·.1)) else ([], false)) else ([], false)
def stepsOfBits (l : List Int) (st : Int) : List Int × Bool := if isBits l = true then (if stepOk st = true then toldM ((decM false l 0 st 0).map (·.2)) else ([], false)) else ([], false)
def fixedValues (l : List Int) (st : Int) : List Int × Bool := if isBits l = true then (if stepOk st = true then toldM ((decM true l 0 st 0).map (·.1)) else ([], false)) else ([], false)
def stepGaps (l : List Int) (st : Int) : List Int × Bool := if sig l = true then (if stepOk st = true then toldM (gapM l ((codeM false l 0 st 0).map (·.2.1))) else ([], false)) else ([], false)
def wts (l : List Int) : Bool := decide (1 ≤ l.length) && decide (l.length ≤ 9) && l.all fun x => decide (-1000 ≤ x) && decide (x ≤ 1000)
theorem wts_len {l : List Int} (h : wts l = true) : 1 ≤ l.length ∧ l.length ≤ 9 := by
  simp [wts] at h
  exact ⟨h.1.1, h.1.2⟩
theorem wts_mem {l : List Int} (h : wts l = true) : ∀ x ∈ l, -1000 ≤ x ∧ x ≤ 1000 := by
  simp [wts] at h
  exact h.2
def ratio (p q : Int) : Bool := (decide (1 ≤ p) && decide (p ≤ 8)) && (decide (1 ≤ q) && decide (q ≤ 8))
theorem ratio_iff {p q : Int} : ratio p q = true ↔ (1 ≤ p ∧ p ≤ 8) ∧ (1 ≤ q ∧ q ≤ 8) := by simp [ratio]
def rsOk (h l : List Int) (p q : Int) : Bool := wts h && ((sig l && ratio p q) && decide ((l.length : Int) * p ≤ 64))
def peakM : List Int → Nat → Nat
  | [], m => m
  | x :: t, m => peakM t (max m x.natAbs)

def cv : List Int → List Int → Nat → Int
  | [], _, _ => 0
  | w :: _, s, 0 => w * s.getD 0 0
  | w :: h, s, n + 1 => w * s.getD (n + 1) 0 + cv h s n
def Lf (f : Nat → Int) (N : Nat) : List Int := (List.range N).map f
theorem Lf_length (f : Nat → Int) (N : Nat) : (Lf f N).length = N := by simp [Lf]
theorem rd_Lf (f : Nat → Int) (N i : Nat) (h : i < N) : rd (Lf f N) (i : Int) = f i := by
  simp [rd, Lf, h]
theorem set_Lf (f : Nat → Int) (N i : Nat) (v : Int) : (Lf f N).set i v = Lf (fun n => if n = i then v else f n) N := by
  apply List.ext_getElem
  · simp [Lf]
  · intro n h1 h2
    simp [Lf, List.getElem_set]
    by_cases c : i = n
    · simp [c]
    · rw [if_neg c, if_neg (fun h => c h.symm)]
theorem Lf_congr {f g : Nat → Int} {N : Nat} (h : ∀ n, n < N → f n = g n) : Lf f N = Lf g N := by
  apply List.ext_getElem
  · simp [Lf]
  · intro n h1 h2
    simp [Lf] at h1 ⊢
    exact h n h1
theorem cv_snoc (s : List Int) (w : Int) : ∀ (p : List Int) (n : Nat), cv (p ++ [w]) s n = cv p s n + (if p.length ≤ n then w * s.getD (n - p.length) 0 else 0)
  | [], 0 => by simp [cv]
  | [], n + 1 => by simp [cv]
  | a :: p, 0 => by simp [cv]
  | a :: p, n + 1 => by
    simp only [List.cons_append, cv, cv_snoc s w p n, List.length_cons, Nat.add_le_add_iff_right, Nat.add_sub_add_right]
    omega
theorem getD_bd {s : List Int} {a M : Int} (hM : 0 ≤ M) (h : ∀ x ∈ s, -M ≤ a * x ∧ a * x ≤ M) (n : Nat) : -M ≤ a * s.getD n 0 ∧ a * s.getD n 0 ≤ M := by
  rw [List.getD_eq_getElem?_getD]
  by_cases c : n < s.length
  · rw [List.getElem?_eq_getElem c]
    exact h _ (List.getElem_mem c)
  · rw [List.getElem?_eq_none (by omega)]
    simp
    omega
theorem cv_bd {s : List Int} {M : Int} (hM : 0 ≤ M) : ∀ (h : List Int) (n : Nat), (∀ a ∈ h, ∀ x ∈ s, -M ≤ a * x ∧ a * x ≤ M) → -(h.length * M) ≤ cv h s n ∧ cv h s n ≤ h.length * M
  | [], n, hb => by simp [cv]
  | a :: h, 0, hb => by
    have h1 := getD_bd hM (hb a (by simp)) 0
    have h2 : 0 ≤ (h.length : Int) * M := Int.mul_nonneg (by omega) hM
    simp only [cv, List.length_cons, Int.natCast_add, Int.add_mul]
    omega
  | a :: h, n + 1, hb => by
    have h1 := getD_bd hM (hb a (by simp)) (n + 1)
    have h2 := cv_bd hM h n (fun b hbm => hb b (by simp [hbm]))
    simp only [cv, List.length_cons, Int.natCast_add, Int.add_mul]
    omega
def conv (h s : List Int) : List Int := if s = [] then [] else Lf (cv h s) (h.length + s.length - 1)
theorem conv_length (h s : List Int) (hs : s ≠ []) : (conv h s).length = h.length + s.length - 1 := by
  rw [conv, if_neg hs, Lf_length]
/-- what stands in the list when the weights p are done, and of the weight w the samples q -/
def cvi (p q s : List Int) (w : Int) (n : Nat) : Int := cv p s n + (if p.length ≤ n ∧ n - p.length < q.length then w * s.getD (n - p.length) 0 else 0)
theorem cvi_nil (p s : List Int) (w : Int) : cvi p [] s w = cv p s := by
  funext n
  simp [cvi]
theorem cvi_all (p s : List Int) (w : Int) (n : Nat) : cvi p s s w n = cv (p ++ [w]) s n := by
  rw [cv_snoc, cvi]
  by_cases c : p.length ≤ n
  · by_cases d : n - p.length < s.length
    · rw [if_pos ⟨c, d⟩, if_pos c]
    · rw [if_neg (fun h => d h.2), if_pos c, List.getD_eq_getElem?_getD, List.getElem?_eq_none (by omega)]
      simp
  · rw [if_neg (fun h => c h.1), if_neg c]
theorem getD_mid (q t : List Int) (x : Int) : (q ++ x :: t).getD q.length 0 = x := by simp
theorem cvi_step (p q t : List Int) (w x : Int) (n : Nat) : (if n = p.length + q.length then cvi p q (q ++ x :: t) w n + w * x else cvi p q (q ++ x :: t) w n) = cvi p (q ++ [x]) (q ++ x :: t) w n := by
  unfold cvi
  by_cases c : n = p.length + q.length
  · subst c
    have e : p.length + q.length - p.length = q.length := by omega
    rw [if_pos rfl, e, getD_mid, if_neg (by omega), if_pos ⟨by omega, by simp⟩]
    omega
  · rw [if_neg c]
    by_cases d : p.length ≤ n ∧ n - p.length < q.length
    · rw [if_pos d, if_pos ⟨d.1, by simp; omega⟩]
    · rw [if_neg d, if_neg (fun h => d ⟨h.1, by have := h.2; simp at this; omega⟩)]
theorem Lf_succ (f : Nat → Int) (n : Nat) : Lf f (n + 1) = Lf f n ++ [f n] := by simp [Lf, List.range_succ]
def dropN (len rate first : Nat) : Nat := (len - first + rate - 1) / rate
theorem dropN_lt {len rate first j : Nat} (hr : 1 ≤ rate) : j < dropN len rate first ↔ first + j * rate < len := by
  unfold dropN
  rw [Nat.lt_iff_add_one_le, Nat.le_div_iff_mul_le (by omega), Nat.add_mul]
  omega
def dropM (l : List Int) (rate first : Nat) : List Int := Lf (fun j => l.getD (first + j * rate) 0) (dropN l.length rate first)
theorem dropM_length (l : List Int) (rate first : Nat) : (dropM l rate first).length = dropN l.length rate first := Lf_length _ _
theorem dropN_le {len rate first : Nat} (hr : 1 ≤ rate) : dropN len rate first ≤ len := by
  apply Nat.le_of_not_lt
  intro h
  have := (dropN_lt hr).1 h
  have h2 : len * 1 ≤ len * rate := Nat.mul_le_mul_left len hr
  omega
def stuffM (p : Nat) : List Int → List Int
  | [] => []
  | x :: t => (x :: List.replicate (p - 1) 0) ++ stuffM p t
theorem stuffM_length (p : Nat) (hp : 1 ≤ p) : ∀ l : List Int, (stuffM p l).length = l.length * p
  | [] => by simp [stuffM]
  | x :: t => by
    simp only [stuffM, List.length_append, List.length_cons, List.length_replicate, stuffM_length p hp t, Nat.add_mul]
    omega
theorem stuffM_snoc (p : Nat) (x : Int) : ∀ l : List Int, stuffM p (l ++ [x]) = stuffM p l ++ (x :: List.replicate (p - 1) 0)
  | [] => by simp [stuffM]
  | y :: t => by simp [stuffM, stuffM_snoc p x t]
theorem rd_getD (l : List Int) (i : Nat) : rd l (i : Int) = l.getD i 0 := by simp [rd]
theorem stuffM_sig (p : Nat) : ∀ l : List Int, (∀ x ∈ l, -100000 ≤ x ∧ x ≤ 100000) → ∀ x ∈ stuffM p l, -100000 ≤ x ∧ x ≤ 100000
  | [], _, x, h => by simp [stuffM] at h
  | y :: t, hl, x, h => by
    simp only [stuffM, List.mem_append, List.mem_cons, List.mem_replicate] at h
    rcases h with (rfl | ⟨_, rfl⟩) | h
    · exact hl _ (by simp)
    · omega
    · exact stuffM_sig p t (fun z hz => hl z (by simp [hz])) x h
theorem sig_iff {l : List Int} : sig l = true ↔ l.length ≤ 64 ∧ ∀ x ∈ l, -100000 ≤ x ∧ x ≤ 100000 := by simp [sig]
theorem ediv_bd {x b : Int} (hb : 0 < b) (hx : -4611686018427387904 ≤ x ∧ x ≤ 4611686018427387904) : -4611686018427387905 ≤ x / b ∧ x / b ≤ 4611686018427387905 := by
  have h0 := Int.emod_nonneg x (show b ≠ 0 by omega)
  have h1 := Int.emod_lt_of_pos x hb
  have h2 := Int.emod_add_mul_ediv x b
  constructor
  · apply Int.not_lt.1
    intro h
    have : b * (x / b) ≤ 1 * (x / b) := Int.mul_le_mul_of_nonpos_right (by omega) (by omega)
    have h3 : b * (x / b) ≤ b * (-4611686018427387906) := Int.mul_le_mul_of_nonneg_left (by omega) (by omega)
    omega
  · apply Int.not_lt.1
    intro h
    have h3 : 1 * (x / b) ≤ b * (x / b) := Int.mul_le_mul_of_nonneg_right (by omega) (by omega)
    omega
def atM (s : List Int) (i : Int) : Int := if 0 ≤ i then s.getD i.toNat 0 else 0
theorem getD_all {l : List Int} {M : Int} (hM : 0 ≤ M) (h : ∀ x ∈ l, -M ≤ x ∧ x ≤ M) (n : Nat) : -M ≤ l.getD n 0 ∧ l.getD n 0 ≤ M := by
  rw [List.getD_eq_getElem?_getD]
  by_cases c : n < l.length
  · rw [List.getElem?_eq_getElem c]
    exact h _ (List.getElem_mem c)
  · rw [List.getElem?_eq_none (by omega)]
    simp
    omega

theorem laws_toIntS_l0 (l : List Int) (hl : l.length ≤ 140737488351232) : ∀ (t p : List Int), l = p ++ t → Ev (fun k => laws_toIntS.l0 k l (p ++ List.replicate t.length 0) (p.length : Int)) l
  | [], p, h => by
    apply Ev.step (f := fun _ => some l)
    · intro k
      subst h
      simp [laws_toIntS.l0]
    · exact Ev.now _
  | x :: t, p, h => by
    have e1 : (p.length : Int) < (l.length : Int) := by rw [h]; exact lt_mid p t x
    have e2 : rd l (p.length : Int) = x := by rw [h]; exact rd_mid p t x
    have e3 : wrap64 ((p.length : Int) + 1) = ((p ++ [x]).length : Int) := nx_mid p t x (h ▸ hl)
    have e4 : (p.length : Int) < ((p ++ List.replicate (x :: t).length 0 : List Int).length : Int) := by simp; omega
    have e5 : (p ++ List.replicate (x :: t).length 0 : List Int).set (p.length : Int).toNat x = (p ++ [x]) ++ List.replicate t.length 0 := by
      simp [List.replicate_succ]
    refine Ev.step (fun k => ?_) (laws_toIntS_l0 l hl t (p ++ [x]) (by simp [h]))
    simp only [laws_toIntS.l0, if_pos e1, if_pos (Int.natCast_nonneg _), if_pos e4, e2, e3, e5]
theorem laws_toIntS_ev (l : List Int) (hl : l.length ≤ 17592186044416) : Ev (fun k => laws_toIntS.f k l) l := by
  have h := laws_toIntS_l0 l (by omega) l [] rfl
  simp only [laws_toIntS.f]
  refine Ev.tt (Int.natCast_nonneg _) (Ev.tt ?_ ?_)
  · simp; omega
  · simpa using h

theorem laws_eqIntS_l0 (l m : List Int) (hl : l.length ≤ 140737488351232) : ∀ (t p u q : List Int), l = p ++ t → m = q ++ u → p.length = q.length → t.length = u.length → Ev (fun k => laws_eqIntS.l0 k l m (p.length : Int)) (t == u)
  | [], p, [], q, h, h', e, _ => by
    apply Ev.step (f := fun _ => some _)
    · intro k
      subst h
      simp [laws_eqIntS.l0]; rfl
    · exact Ev.now _
  | x :: t, p, y :: u, q, h, h', e, e' => by
    have e1 : (p.length : Int) < (l.length : Int) := by rw [h]; exact lt_mid p t x
    have e2 : rd l (p.length : Int) = x := by rw [h]; exact rd_mid p t x
    have e3 : wrap64 ((p.length : Int) + 1) = ((p ++ [x]).length : Int) := nx_mid p t x (h ▸ hl)
    have e4 : (p.length : Int) < (m.length : Int) := by rw [h', e]; exact lt_mid q u y
    have e5 : rd m (p.length : Int) = y := by rw [h', e]; exact rd_mid q u y
    by_cases c : x = y
    · refine Ev.to (Ev.step (fun k => ?_) (laws_eqIntS_l0 l m hl t (p ++ [x]) u (q ++ [y]) (by simp [h]) (by simp [h']) (by simp [e]) (by simpa using e'))) (by simp [c])
      simp only [laws_eqIntS.l0, if_pos e1, if_pos (Int.natCast_nonneg _), if_pos e4, e2, e3, e5, if_pos c]
    · refine Ev.to (Ev.step (fun k => ?_) (Ev.now false)) (by simp [c])
      simp only [laws_eqIntS.l0, if_pos e1, if_pos (Int.natCast_nonneg _), if_pos e4, e2, e3, e5, if_neg c]
theorem laws_eqIntS_ev (l m : List Int) (hl : l.length ≤ 140737488351232) : Ev (fun k => laws_eqIntS.f k l m) (l == m) := by
  simp only [laws_eqIntS.f]
  by_cases c : (l.length : Int) = (m.length : Int)
  · exact Ev.tt c (laws_eqIntS_l0 l m hl l [] m [] rfl rfl rfl (by omega))
  · refine Ev.ff c (Ev.to (Ev.now false) ?_)
    have : l ≠ m := fun h => c (by rw [h])
    simp [this]
theorem laws_eqIntS_self (l : List Int) (hl : l.length ≤ 140737488351232) : Ev (fun k => laws_eqIntS.f k l l) true := Ev.to (laws_eqIntS_ev l l hl) (by simp)

def marks : Nat → Int → List Int
  | 0, _ => []
  | n + 1, m => m :: marks n (m + 1)
theorem marks_length : ∀ (n : Nat) (m : Int), (marks n m).length = n
  | 0, _ => rfl
  | n + 1, m => by simp [marks, marks_length n]
theorem laws_markIntS_l0 : ∀ (t p : List Int) (m : Int), p.length + t.length ≤ 140737488351232 → 0 ≤ m → m + t.length ≤ 1000000000000000000 → Ev (fun k => laws_markIntS.l0 k (p ++ t) m (p.length : Int)) (m + t.length, p ++ marks t.length m)
  | [], p, m, h, h0, h1 => Ev.to (Ev.step (f := fun _ => some (m, p)) (fun k => by simp [laws_markIntS.l0]) (Ev.now _)) (by simp [marks])
  | x :: t, p, m, h, h0, h1 => by
    have e1 : (p.length : Int) < ((p ++ x :: t).length : Int) := lt_mid p t x
    simp only [List.length_cons] at h h1
    have e3 : wrap64 ((p.length : Int) + 1) = ((p ++ [m]).length : Int) := by
      simp
      exact w64 (by omega) (by omega)
    have e5 : (p ++ x :: t).set (p.length : Int).toNat m = (p ++ [m]) ++ t := by simp
    have e6 : wrap64 (m + 1) = m + 1 := w64 (by omega) (by omega)
    refine Ev.to (Ev.step (fun k => ?_) (laws_markIntS_l0 t (p ++ [m]) (m + 1) (by simp; omega) (by omega) (by omega))) ?_
    · simp only [laws_markIntS.l0, if_pos e1, if_pos (Int.natCast_nonneg _), e3, e5, e6]
    · simp [marks]; omega
theorem laws_markIntS_ev (l : List Int) (m : Int) (h : l.length ≤ 140737488351232) (h0 : 0 ≤ m) (h1 : m ≤ 100000000000000000) : Ev (fun k => laws_markIntS.f k l m) (m + l.length, marks l.length m) := by
  have h := laws_markIntS_l0 l [] m (by simpa using h) h0 (by omega)
  simpa [laws_markIntS.f] using h

theorem laws_heldIntS_l0 : ∀ (n : Nat) (l p : List Int) (m : Int), l = p ++ marks n m → l.length ≤ 140737488351232 → 0 ≤ m → m + n ≤ 1000000000000000000 → Ev (fun k => laws_heldIntS.l0 k l m (p.length : Int)) (m + n)
  | 0, l, p, m, h, hl, h0, h1 => Ev.to (Ev.step (f := fun _ => some m) (fun k => by subst h; simp [laws_heldIntS.l0, marks]) (Ev.now _)) (by simp)
  | n + 1, l, p, m, h, hl, h0, h1 => by
    simp only [marks] at h
    have e1 : (p.length : Int) < (l.length : Int) := by rw [h]; exact lt_mid p _ _
    have e2 : rd l (p.length : Int) = m := by rw [h]; exact rd_mid p _ _
    have e3 : wrap64 ((p.length : Int) + 1) = ((p ++ [m]).length : Int) := nx_mid p _ m (h ▸ hl)
    have e6 : wrap64 (m + 1) = m + 1 := w64 (by omega) (by omega)
    refine Ev.to (Ev.step (fun k => ?_) (laws_heldIntS_l0 n l (p ++ [m]) (m + 1) (by simp [h]) hl (by omega) (by omega))) (by omega)
    simp only [laws_heldIntS.l0, if_pos e1, if_pos (Int.natCast_nonneg _), e2, if_true, e3, e6]
theorem laws_heldIntS_ev (n : Nat) (h : n ≤ 140737488351232) : Ev (fun k => laws_heldIntS.f k (marks n 1) 1) (1 + n) := by
  have h := laws_heldIntS_l0 n (marks n 1) [] 1 rfl (by simpa [marks_length] using h) (by omega) (by omega)
  simpa [laws_heldIntS.f] using h

theorem spec_l1In_eq (a b c : Int) : spec_l1In.f a b c = some (decide (b ≤ a) && decide (a ≤ c)) := by
  unfold spec_l1In.f
  by_cases h : b ≤ a <;> simp [h]

theorem impl_in_eq (a b c : Int) : impl_in.f a b c = some (decide (b ≤ a) && decide (a ≤ c)) := by
  unfold impl_in.f
  by_cases h : b ≤ a <;> simp [h]

theorem spec_l1All_l0 (lo hi : Int) (l : List Int) (hl : l.length ≤ 140737488351232) : ∀ (t p : List Int), l = p ++ t → Ev (fun k => spec_l1All.l0 k lo hi l (l.length : Int) (p.length : Int)) (t.all fun x => decide (lo ≤ x) && decide (x ≤ hi))
  | [], p, h => by
    apply Ev.step (f := fun _ => some _)
    · intro k
      subst h
      simp [spec_l1All.l0]; rfl
    · exact Ev.now _
  | x :: t, p, h => by
    have e1 : (p.length : Int) < (l.length : Int) := by rw [h]; exact lt_mid p t x
    have e2 : rd l (p.length : Int) = x := by rw [h]; exact rd_mid p t x
    have e3 : wrap64 ((p.length : Int) + 1) = ((p ++ [x]).length : Int) := nx_mid p t x (h ▸ hl)
    by_cases c : (decide (lo ≤ x) && decide (x ≤ hi)) = true
    · refine Ev.to (Ev.step (fun k => ?_) (spec_l1All_l0 lo hi l hl t (p ++ [x]) (by simp [h]))) (by rw [List.all_cons, c, Bool.true_and])
      simp only [spec_l1All.l0, if_pos e1, if_pos (Int.natCast_nonneg _), e2, e3, spec_l1In_eq, Option.bind_some, if_pos c]
    · refine Ev.to (Ev.step (fun k => ?_) (Ev.now false)) (by rw [List.all_cons, Bool.eq_false_iff.mpr c, Bool.false_and])
      simp only [spec_l1All.l0, if_pos e1, if_pos (Int.natCast_nonneg _), e2, e3, spec_l1In_eq, Option.bind_some, if_neg c]
theorem spec_l1All_ev (l : List Int) (lo hi : Int) (hl : l.length ≤ 140737488351232) : Ev (fun k => spec_l1All.f k l lo hi) (l.all fun x => decide (lo ≤ x) && decide (x ≤ hi)) := by
  simpa [spec_l1All.f] using spec_l1All_l0 lo hi l hl l [] rfl

theorem spec_wdSignal_ev (l : List Int) (hl : l.length ≤ 140737488351232) : Ev (fun k => spec_wdSignal.f k l) (sig l) := by
  simp only [spec_wdSignal.f]
  by_cases c : (l.length : Int) ≤ 64
  · refine Ev.tt c (Ev.bind (spec_l1All_ev l (-100000) 100000 hl) (Ev.to (Ev.now _) ?_))
    simp [sig]; omega
  · refine Ev.ff c (Ev.to (Ev.now _) ?_)
    simp [sig]; omega

theorem impl_isSignal_c1_eq (x : Int) : impl_isSignal_c1.f x = some (!(decide (-100000 ≤ x) && decide (x ≤ 100000))) := by
  unfold impl_isSignal_c1.f
  rw [impl_in_eq]
  rfl
theorem indexSignal_l0 (l : List Int) (hl : l.length ≤ 140737488351232) : ∀ (t p : List Int), l = p ++ t → ∃ r, Ev (fun k => slices_IndexFunc_int_int_impl_isSignal_c1.l0 k l (l.length : Int) (p.length : Int)) r ∧ (decide (r ≥ 0) = !(t.all fun x => decide (-100000 ≤ x) && decide (x ≤ 100000)))
  | [], p, h => by
    refine ⟨-1, Ev.step (f := fun _ => some (-1)) ?_ (Ev.now _), by simp⟩
    intro k
    subst h
    simp [slices_IndexFunc_int_int_impl_isSignal_c1.l0]
  | x :: t, p, h => by
    have e1 : (p.length : Int) < (l.length : Int) := by rw [h]; exact lt_mid p t x
    have e2 : rd l (p.length : Int) = x := by rw [h]; exact rd_mid p t x
    have e3 : wrap64 ((p.length : Int) + 1) = ((p ++ [x]).length : Int) := nx_mid p t x (h ▸ hl)
    by_cases c : (decide (-100000 ≤ x) && decide (x ≤ 100000)) = true
    · obtain ⟨r, h1, h2⟩ := indexSignal_l0 l hl t (p ++ [x]) (by simp [h])
      refine ⟨r, Ev.step (fun k => ?_) h1, by rw [h2, List.all_cons, c, Bool.true_and]⟩
      simp only [slices_IndexFunc_int_int_impl_isSignal_c1.l0, if_pos e1, if_pos (Int.natCast_nonneg _), e2, e3, impl_isSignal_c1_eq, c, Option.bind_some, Bool.not_true]
      rfl
    · have c := Bool.eq_false_iff.mpr c
      refine ⟨(p.length : Int), Ev.step (fun k => ?_) (Ev.now _), by rw [List.all_cons, c]; simp⟩
      simp only [slices_IndexFunc_int_int_impl_isSignal_c1.l0, if_pos e1, if_pos (Int.natCast_nonneg _), e2, e3, impl_isSignal_c1_eq, c, Option.bind_some, Bool.not_false]
      rfl
theorem impl_isSignal_ev (l : List Int) (hl : l.length ≤ 140737488351232) : Ev (fun k => impl_isSignal.f k l) (sig l) := by
  simp only [impl_isSignal.f]
  by_cases c : (l.length : Int) ≤ 64
  · obtain ⟨r, h1, h2⟩ := indexSignal_l0 l hl l [] rfl
    refine Ev.tt c (Ev.bind (a := decide (r ≥ 0)) ?_ (Ev.to (Ev.now _) ?_))
    · simp only [slices_ContainsFunc_int_int_impl_isSignal_c1.f, slices_IndexFunc_int_int_impl_isSignal_c1.f]
      exact Ev.bind h1 (Ev.now _)
    · rw [h2]; simp [sig]; omega
  · refine Ev.ff c (Ev.to (Ev.now _) ?_)
    simp [sig]; omega

theorem spec_wdIf_ev (l : List Int) (hl : l.length ≤ 140737488351232) : Ev (fun k => spec_wdIf.f k l) (toldM l) := by
  simp only [spec_wdIf.f, toldM]
  refine Ev.bind (spec_wdSignal_ev l hl) ?_
  by_cases c : sig l = true
  · exact Ev.tt c (Ev.to (Ev.now _) (by rw [if_pos c]))
  · exact Ev.ff c (Ev.to (Ev.now _) (by rw [if_neg c]))

theorem impl_told_ev (l : List Int) (hl : l.length ≤ 140737488351232) : Ev (fun k => impl_told.f k l) (toldM l) := by
  simp only [impl_told.f, toldM]
  refine Ev.bind (impl_isSignal_ev l hl) ?_
  by_cases c : sig l = true
  · exact Ev.tt c (Ev.to (Ev.now _) (by rw [if_pos c]))
  · exact Ev.ff c (Ev.to (Ev.now _) (by rw [if_neg c]))

theorem spec_rsRatio_eq (p q : Int) : spec_rsRatio.f p q = some (ratio p q) := by
  unfold spec_rsRatio.f ratio
  rw [spec_l1In_eq]
  simp only [Option.bind_some, spec_l1In_eq]
  by_cases c : (decide (1 ≤ p) && decide (p ≤ 8)) = true
  · rw [if_pos c, c, Bool.true_and]
  · rw [if_neg c, Bool.eq_false_iff.mpr c, Bool.false_and]

theorem impl_isRatio_eq (p q : Int) : impl_isRatio.f p q = some (ratio p q) := by
  unfold impl_isRatio.f ratio
  rw [impl_in_eq]
  simp only [Option.bind_some, impl_in_eq]
  by_cases c : (decide (1 ≤ p) && decide (p ≤ 8)) = true
  · rw [if_pos c, c, Bool.true_and]
  · rw [if_neg c, Bool.eq_false_iff.mpr c, Bool.false_and]

theorem spec_rsGood_ev (l : List Int) (p q : Int) (hl : l.length ≤ 140737488351232) : Ev (fun k => spec_rsGood.f k l p q) (sig l && ratio p q) := by
  simp only [spec_rsGood.f]
  refine Ev.bind (spec_wdSignal_ev l hl) ?_
  by_cases c : sig l = true
  · rw [c, Bool.true_and]
    refine Ev.tt rfl (Ev.dbind (spec_rsRatio_eq p q) (Ev.now _))
  · rw [Bool.eq_false_iff.mpr c, Bool.false_and]
    exact Ev.ff (by decide) (Ev.now _)

/-- A number shifted: down, to the nearest one, towards 0. -/
def shM (x b mode : Int) : Int := if mode = 1 ∧ b ≤ 2 * (x % b) ∧ 0 < x % b then x / b + 1 else if mode = 2 ∧ x < 0 ∧ 0 < x % b then x / b + 1 else x / b
theorem div_uniq {x b q r : Int} (h : x = q * b + r) (h0 : 0 ≤ r) (h1 : r < b) : x / b = q := by
  have hb : 0 < b := by omega
  exact ((Int.ediv_emod_unique hb).2 ⟨by rw [h, Int.mul_comm]; omega, h0, h1⟩).1
theorem pow2_pos (s : Nat) : (0 : Int) < 2 ^ s := Int.pow_pos (by decide)
theorem pow2_le {s : Nat} (h : s ≤ 20) : (2 : Int) ^ s ≤ 1048576 := by
  have h1 : (2 : Nat) ^ s ≤ 2 ^ 20 := Nat.pow_le_pow_right (by decide) h
  have h3 : (2 : Int) ^ s = (((2 : Nat) ^ s : Nat) : Int) := by simp
  rw [h3]
  have h2 : (2 : Nat) ^ 20 = 1048576 := by decide
  omega
theorem shl_one {s : Nat} (h : s ≤ 20) : shl .i64 1 (s : Int) = 2 ^ s := by
  unfold shl
  have h1 : min ((s : Int)).toNat IntKind.i64.bits = s := by
    simp [IntKind.bits]; omega
  rw [h1, Int.one_mul, IntKind.wrap_i64]
  have := pow2_pos s
  have := pow2_le h
  omega
theorem shl_mul {s : Nat} (h : s ≤ 20) (y : Int) (h1 : -9223372036854775808 ≤ y * 2 ^ s) (h2 : y * 2 ^ s ≤ 9223372036854775807) : shl .i64 y (s : Int) = y * 2 ^ s := by
  unfold shl
  have e : min ((s : Int)).toNat IntKind.i64.bits = s := by
    simp [IntKind.bits]; omega
  rw [e, IntKind.wrap_i64]
  omega
theorem shr_div {s : Nat} (h : s ≤ 20) (y : Int) : shr .i64 y (s : Int) = y / 2 ^ s := by
  unfold shr
  have e : min ((s : Int)).toNat IntKind.i64.bits = s := by
    simp [IntKind.bits]; omega
  rw [e]
theorem mod_eq (x b : Int) : x = (x / b) * b + x % b := by
  have := Int.emod_add_mul_ediv x b
  rw [Int.mul_comm] at this
  omega

def numOk (x : Int) : Bool := decide (-1000000000000 ≤ x) && decide (x ≤ 1000000000000)
def modeOk (s mode : Int) : Bool := (decide (0 ≤ s) && decide (s ≤ 20)) && (decide (0 ≤ mode) && decide (mode ≤ 2))
theorem numOk_iff {x : Int} : numOk x = true ↔ -1000000000000 ≤ x ∧ x ≤ 1000000000000 := by simp [numOk]
theorem modeOk_iff {s m : Int} : modeOk s m = true ↔ (0 ≤ s ∧ s ≤ 20) ∧ (0 ≤ m ∧ m ≤ 2) := by simp [modeOk]

theorem spec_rsLength_eq (n p q : Nat) (hq : 1 ≤ q) (hq8 : q ≤ 8) (hn : n * p ≤ 64) : spec_rsLength.f (n : Int) (p : Int) (q : Int) = some ((dropN (n * p) q 0 : Nat) : Int) := by
  unfold spec_rsLength.f
  rw [if_neg (by omega), ← Int.natCast_mul, w64n (a := n * p) (by omega), ← Int.natCast_add, w64n (a := n * p + q) (by omega)]
  have e : ((n * p + q : Nat) : Int) - 1 = ((n * p + q - 1 : Nat) : Int) := by omega
  have hdv : (n * p + q - 1) / q ≤ n * p + q - 1 := Nat.div_le_self _ _
  rw [e, w64n (a := n * p + q - 1) (by omega), td, w64n (by omega), dropN, Nat.sub_zero]

def lenA (n p q : Nat) : Nat := (n * p + q - 1) / q
theorem lenA_le {n p q : Nat} (hn : n ≤ 64) (hp : p ≤ 8) (hq : 1 ≤ q ∧ q ≤ 8) : lenA n p q ≤ 519 := by
  have h1 : n * p ≤ 64 * 8 := Nat.mul_le_mul hn hp
  exact Nat.le_trans (Nat.div_le_self _ _) (by omega)
theorem src_lt {n p q i : Nat} (hp : 1 ≤ p) (hq : 1 ≤ q) (h : i < lenA n p q) : i * q / p < n := by
  rw [Nat.div_lt_iff_lt_mul hp]
  have h1 : (i + 1) * q ≤ n * p + q - 1 := (Nat.le_div_iff_mul_le hq).1 h
  rw [Nat.add_mul, Nat.one_mul] at h1
  omega
theorem lenF_eq (n p q : Nat) (hn : n ≤ 64) (hp : p ≤ 8) (hq : 1 ≤ q ∧ q ≤ 8) : (if (q : Int) = 0 then (none : Option Int) else some (wrap64 (Int.tdiv (wrap64 (wrap64 (wrap64 ((n : Int) * (p : Int)) + (q : Int)) - 1)) (q : Int)))) = some ((lenA n p q : Nat) : Int) := by
  have h1 : n * p ≤ 64 * 8 := Nat.mul_le_mul hn hp
  have e1 : wrap64 ((n : Int) * (p : Int)) = ((n * p : Nat) : Int) := by
    rw [← Int.natCast_mul]
    exact w64n (by omega)
  have e2 : wrap64 (((n * p : Nat) : Int) + (q : Int)) = ((n * p + q : Nat) : Int) := w64_nat _ _ (by omega)
  have e3 : wrap64 (((n * p + q : Nat) : Int) - 1) = ((n * p + q - 1 : Nat) : Int) := by
    rw [w64 (n := ((n * p + q : Nat) : Int) - 1) (by omega) (by omega)]
    omega
  rw [if_neg (by omega), e1, e2, e3, td, w64n (Nat.le_trans (Nat.div_le_self _ _) (by omega))]
  rfl
theorem src_w {i q : Nat} (hi : i ≤ 1000) (hq : q ≤ 8) : i * q ≤ 8000 := Nat.mul_le_mul hi hq
theorem mul_w {i q : Nat} (hi : i ≤ 1000) (hq : q ≤ 8) : wrap64 ((i : Int) * (q : Int)) = ((i * q : Nat) : Int) := by
  have h := src_w hi hq
  rw [← Int.natCast_mul]
  exact w64n (by omega)
theorem src_e {i p q : Nat} (hi : i ≤ 1000) (hq : q ≤ 8) : wrap64 (Int.tdiv (wrap64 ((i : Int) * (q : Int))) (p : Int)) = ((i * q / p : Nat) : Int) := by
  have h := src_w hi hq
  rw [mul_w hi hq, td]
  exact w64n (Nat.le_trans (Nat.div_le_self _ _) (by omega))
theorem prt_e {i p q : Nat} (hi : i ≤ 1000) (hq : q ≤ 8) : Int.tmod (wrap64 ((i : Int) * (q : Int))) (p : Int) = ((i * q % p : Nat) : Int) := by
  rw [mul_w hi hq, tm]
theorem nx_e {i : Nat} (hi : i ≤ 1000000) : wrap64 ((i : Int) + 1) = ((i + 1 : Nat) : Int) := by
  rw [w64 (n := (i : Int) + 1) (by omega) (by omega)]
  omega
def vH (s : List Int) (p a b : Nat) : Int := rd s (a : Int)
def vN (s : List Int) (p a b : Nat) : Int := if 2 * b < p ∨ a + 1 = s.length then rd s (a : Int) else rd s ((a + 1 : Nat) : Int)
def nxt (s : List Int) (a : Nat) : Nat := if a + 1 < s.length then a + 1 else a
def vL (s : List Int) (p a b : Nat) : Int := (p : Int) * rd s (a : Int) + (b : Int) * (rd s ((nxt s a : Nat) : Int) - rd s (a : Int))
def resM (v : List Int → Nat → Nat → Nat → Int) (s : List Int) (p q : Nat) : List Int := Lf (fun i => v s p (i * q / p) (i * q % p)) (lenA s.length p q)
def samM (v : List Int → Nat → Nat → Nat → Int) (s : List Int) (p q : Int) : List Int × Bool := if (sig s && ratio p q) = true then toldM (resM v s p.toNat q.toNat) else ([], false)
theorem rd_bd {s : List Int} (hs : sig s = true) {a : Nat} (ha : a < s.length) : -100000 ≤ rd s (a : Int) ∧ rd s (a : Int) ≤ 100000 := by
  rw [rd_getD, List.getD_eq_getElem?_getD, List.getElem?_eq_getElem ha]
  exact sig_mem hs _ (List.getElem_mem _)
theorem nxt_lt {s : List Int} {a : Nat} (ha : a < s.length) : nxt s a < s.length := by
  unfold nxt
  split <;> omega
theorem mulN_bd {b : Nat} {x M : Int} (hb : b ≤ 8) (hM : 0 ≤ M) (hx : -M ≤ x ∧ x ≤ M) : -(8 * M) ≤ (b : Int) * x ∧ (b : Int) * x ≤ 8 * M := by
  have h1 : (b : Int) * M ≤ 8 * M := Int.mul_le_mul_of_nonneg_right (by omega) hM
  have h2 : (b : Int) * x ≤ (b : Int) * M := Int.mul_le_mul_of_nonneg_left hx.2 (by omega)
  have h3 : (b : Int) * -M ≤ (b : Int) * x := Int.mul_le_mul_of_nonneg_left hx.1 (by omega)
  rw [Int.mul_neg] at h3
  exact ⟨by omega, by omega⟩
theorem vL_w {s : List Int} (hs : sig s = true) {p a b : Nat} (ha : a < s.length) (hp : p ≤ 8) (hb : b ≤ 8) : wrap64 (wrap64 ((p : Int) * rd s (a : Int)) + wrap64 ((b : Int) * wrap64 (rd s ((nxt s a : Nat) : Int) - rd s (a : Int)))) = vL s p a b := by
  have h1 := rd_bd hs ha
  have h2 := rd_bd hs (nxt_lt ha)
  have h3 := mulN_bd hp (by omega) h1
  have h4 := mulN_bd (x := rd s ((nxt s a : Nat) : Int) - rd s (a : Int)) (M := 200000) hb (by omega) (by omega)
  rw [w64 (n := (p : Int) * rd s (a : Int)) (by omega) (by omega), w64 (n := rd s ((nxt s a : Nat) : Int) - rd s (a : Int)) (by omega) (by omega), w64 (n := (b : Int) * (rd s ((nxt s a : Nat) : Int) - rd s (a : Int))) (by omega) (by omega), w64 (n := (p : Int) * rd s (a : Int) + (b : Int) * (rd s ((nxt s a : Nat) : Int) - rd s (a : Int))) (by omega) (by omega)]
  rfl

theorem imLen_eq (n p q : Nat) (hn : n ≤ 64) (hp : p ≤ 8) (hq : 1 ≤ q ∧ q ≤ 8) : impl_lengthAfter.f (n : Int) (p : Int) (q : Int) = some ((lenA n p q : Nat) : Int) := by
  simp only [impl_lengthAfter.f]
  exact lenF_eq n p q hn hp hq

theorem rsLen_eq (n p q : Nat) (hn : n ≤ 64) (hp : p ≤ 8) (hq : 1 ≤ q ∧ q ≤ 8) : spec_rsLength.f (n : Int) (p : Int) (q : Int) = some ((lenA n p q : Nat) : Int) := by
  simp only [spec_rsLength.f]
  exact lenF_eq n p q hn hp hq

theorem cLine_eq {s : List Int} (hs : sig s = true) {p a b : Nat} (ha : a < s.length) (hp : p ≤ 8) (hb : b < p) : impl_LineSamples_c1.f (a : Int) (b : Int) s (p : Int) = some (vL s p a b) := by
  have hl := sig_len hs
  have e2 : wrap64 ((s.length : Int) - 1) = (s.length : Int) - 1 := w64 (by omega) (by omega)
  have e3 : wrap64 ((a : Int) + 1) = ((a + 1 : Nat) : Int) := nx_e (by omega)
  have e4 : mn ((a + 1 : Nat) : Int) ((s.length : Int) - 1) = ((nxt s a : Nat) : Int) := by
    unfold mn nxt
    split <;> split <;> omega
  have hn := nxt_lt ha
  simp only [impl_LineSamples_c1.f, e2, e3, e4]
  rw [if_pos (by omega), if_pos (by omega), if_pos (by omega), if_pos (by omega), vL_w hs ha hp (by omega)]

theorem resLineSamples_l0 {s : List Int} (hs : sig s = true) {p q : Nat} (hp : 1 ≤ p ∧ p ≤ 8) (hq : 1 ≤ q ∧ q ≤ 8) : ∀ (d j : Nat), j + d = lenA s.length p q →
    Ev (fun k => impl_resample_impl_LineSamples_c1.l0 k s (p : Int) (q : Int) (Lf (fun i => vL s p (i * q / p) (i * q % p)) j) ((lenA s.length p q : Nat) : Int) (j : Int)) (toldM (resM vL s p q))
  | 0, j, hj => by
    have hL := lenA_le (sig_len hs) hp.2 hq
    have ej : j = lenA s.length p q := hj
    refine Ev.step (fun k => by simp only [impl_resample_impl_LineSamples_c1.l0]; rfl) ?_
    refine Ev.ff (by omega) ?_
    rw [ej]
    exact Ev.bind (impl_told_ev _ (by rw [Lf_length]; omega)) (Ev.now _)
  | d + 1, j, hj => by
    have hL := lenA_le (sig_len hs) hp.2 hq
    have ha := src_lt (i := j) hp.1 hq.1 (show j < lenA s.length p q by omega)
    have hb : j * q % p < p := Nat.mod_lt _ hp.1
    have next := resLineSamples_l0 hs hp hq d (j + 1) (by omega)
    rw [Lf_succ] at next
    refine Ev.step (fun k => by simp only [impl_resample_impl_LineSamples_c1.l0]; rfl) ?_
    rw [src_e (by omega) hq.2, prt_e (by omega) hq.2, nx_e (by omega)]
    exact Ev.tt (by omega) (Ev.ff (by omega) (Ev.dbind (cLine_eq hs ha hp.2 hb) (Ev.tt (by rw [Lf_length]; omega) next)))
theorem impl_LineSamples_ev (s : List Int) (p q : Int) (hs : s.length ≤ 140737488351232) : Ev (fun k => impl_LineSamples.f k s p q) (samM vL s p q) := by
  simp only [impl_LineSamples.f]
  refine Ev.bind (a := samM vL s p q) ?_ (Ev.now _)
  simp only [impl_resample_impl_LineSamples_c1.f]
  refine Ev.bind (impl_isSignal_ev s hs) ?_
  by_cases c : sig s = true
  · refine Ev.tt c (Ev.dbind (impl_isRatio_eq p q) (Ev.step (fun k => by simp only [impl_resample_impl_LineSamples_c1.j0]; rfl) ?_))
    by_cases d : ratio p q = true
    · have d' := ratio_iff.1 d
      obtain ⟨p', rfl⟩ : ∃ n : Nat, p = (n : Int) := ⟨p.toNat, by omega⟩
      obtain ⟨q', rfl⟩ : ∃ n : Nat, q = (n : Int) := ⟨q.toNat, by omega⟩
      refine Ev.ff (by rw [d]; simp) (Ev.dbind (imLen_eq _ _ _ (sig_len c) (by omega) (by omega)) ?_)
      have h := resLineSamples_l0 c (p := p') (q := q') (by omega) (by omega) (lenA s.length p' q') 0 (by omega)
      refine Ev.to h ?_
      rw [samM, if_pos (by rw [c, d]; rfl)]
      rfl
    · refine Ev.tt (by simp [d]) (Ev.to (Ev.now _) ?_)
      rw [samM, if_neg (by simp [d])]
  · refine Ev.ff c (Ev.to (Ev.step (f := fun _ => some (([] : List Int), false)) (fun k => by simp [impl_resample_impl_LineSamples_c1.j0]) (Ev.now _)) ?_)
    rw [samM, if_neg (by simp [c])]

theorem line_mix {p b x y : Int} : (p - b) * x + b * y = p * x + b * (y - x) := by
  rw [Int.sub_mul, Int.mul_sub]
  omega
theorem line_w {s : List Int} (hs : sig s = true) {p a b c : Nat} (ha : a < s.length) (hc : c < s.length) (hp : p ≤ 8) (hb : b < p) (e : c = nxt s a) : wrap64 (wrap64 (wrap64 ((p : Int) - (b : Int)) * rd s (a : Int)) + wrap64 ((b : Int) * rd s (c : Int))) = vL s p a b := by
  have h1 := rd_bd hs ha
  have h2 := rd_bd hs hc
  have ed : wrap64 ((p : Int) - (b : Int)) = ((p - b : Nat) : Int) := by
    rw [w64 (n := (p : Int) - (b : Int)) (by omega) (by omega)]
    omega
  have h3 := mulN_bd (b := p - b) (by omega) (by omega) h1
  have h4 := mulN_bd (b := b) (by omega) (by omega) h2
  rw [ed, w64 (n := ((p - b : Nat) : Int) * rd s (a : Int)) (by omega) (by omega), w64 (n := (b : Int) * rd s (c : Int)) (by omega) (by omega), w64 (n := ((p - b : Nat) : Int) * rd s (a : Int) + (b : Int) * rd s (c : Int)) (by omega) (by omega)]
  rw [show ((p - b : Nat) : Int) = (p : Int) - (b : Int) by omega, line_mix, vL, e]
theorem specLine_l0 {s : List Int} (hs : sig s = true) {p q : Nat} (hp : 1 ≤ p ∧ p ≤ 8) (hq : 1 ≤ q ∧ q ≤ 8) : ∀ (d j : Nat), j + d = lenA s.length p q →
    Ev (fun k => spec_rsLine.l0 k s (p : Int) (q : Int) (Lf (fun i => vL s p (i * q / p) (i * q % p)) j) (j : Int)) (resM vL s p q)
  | 0, j, hj => by
    have hL := lenA_le (sig_len hs) hp.2 hq
    have ej : j = lenA s.length p q := hj
    refine Ev.step (fun k => by simp only [spec_rsLine.l0]; rfl) ?_
    refine Ev.dbind (rsLen_eq _ _ _ (sig_len hs) hp.2 hq) (Ev.ff (by omega) ?_)
    rw [ej]
    exact Ev.now _
  | d + 1, j, hj => by
    have hL := lenA_le (sig_len hs) hp.2 hq
    have hl := sig_len hs
    have ha := src_lt (i := j) hp.1 hq.1 (show j < lenA s.length p q by omega)
    have hb : j * q % p < p := Nat.mod_lt _ hp.1
    have next := specLine_l0 hs hp hq d (j + 1) (by omega)
    rw [Lf_succ] at next
    refine Ev.step (fun k => by simp only [spec_rsLine.l0]; rfl) ?_
    rw [src_e (by omega) hq.2, prt_e (by omega) hq.2, nx_e (i := j) (by omega), nx_e (i := j * q / p) (by omega)]
    refine Ev.dbind (rsLen_eq _ _ _ hl hp.2 hq) (Ev.tt (by first | exact Int.natCast_nonneg _ | omega) (Ev.ff (by omega) ?_))
    by_cases g : j * q / p + 1 < s.length
    · rw [line_w hs (c := j * q / p + 1) ha g hp.2 hb (by rw [nxt, if_pos g])]
      exact Ev.tt (by first | exact Int.natCast_nonneg _ | omega) (Ev.tt (by first | exact Int.natCast_nonneg _ | omega) (Ev.tt (by first | exact Int.natCast_nonneg _ | omega) (Ev.tt (by first | exact Int.natCast_nonneg _ | omega) (Ev.tt (by rw [Lf_length]; omega) next))))
    · rw [line_w hs (c := j * q / p) ha ha hp.2 hb (by rw [nxt, if_neg g])]
      exact Ev.ff (by omega) (Ev.tt (by first | exact Int.natCast_nonneg _ | omega) (Ev.tt (by first | exact Int.natCast_nonneg _ | omega) (Ev.tt (by rw [Lf_length]; omega) next)))
theorem spec_rsLine_ev {s : List Int} (hs : sig s = true) {p q : Nat} (hp : 1 ≤ p ∧ p ≤ 8) (hq : 1 ≤ q ∧ q ≤ 8) : Ev (fun k => spec_rsLine.f k s (p : Int) (q : Int)) (resM vL s p q) :=
  specLine_l0 hs hp hq (lenA s.length p q) 0 (by omega)
theorem spec_lineT_ev (s : List Int) (p q : Int) (hs : s.length ≤ 140737488351232) : Ev (fun k => (spec_rsGood.f k s p q).bind fun t => if t = true then (spec_rsLine.f k s p q).bind fun u => (spec_wdIf.f k u).bind fun b => some (b.1, b.2) else some (([] : List Int), false)) (samM vL s p q) := by
  refine Ev.bind (spec_rsGood_ev s p q hs) ?_
  by_cases c : (sig s && ratio p q) = true
  · have c' := Bool.and_eq_true_iff.1 c
    have d' := ratio_iff.1 c'.2
    obtain ⟨p', rfl⟩ : ∃ n : Nat, p = (n : Int) := ⟨p.toNat, by omega⟩
    obtain ⟨q', rfl⟩ : ∃ n : Nat, q = (n : Int) := ⟨q.toNat, by omega⟩
    have hL := lenA_le (n := s.length) (p := p') (q := q') (sig_len c'.1) (by omega) (by omega)
    refine Ev.tt c (Ev.bind (spec_rsLine_ev c'.1 (by omega) (by omega)) (Ev.to (Ev.bind (spec_wdIf_ev _ (by rw [resM, Lf_length]; omega)) (Ev.now _)) ?_))
    rw [samM, if_pos c]
    rfl
  · refine Ev.ff c (Ev.to (Ev.now _) ?_)
    rw [samM, if_neg c]

theorem spec_LinesOfSame_ev (s : List Int) (p : Int) (hs : s.length ≤ 140737488351232) : Ev (fun k => spec_LinesOfSame.f k s p) (samM vL s p 1) := by
  simp only [spec_LinesOfSame.f]
  exact spec_lineT_ev s p 1 hs

theorem impl_LinesOfSame_ev (s : List Int) (p : Int) (hs : s.length ≤ 140737488351232) : Ev (fun k => impl_LinesOfSame.f k s p) (samM vL s p 1) := by
  simp only [impl_LinesOfSame.f]
  exact Ev.bind (impl_LineSamples_ev s p 1 hs) (Ev.now _)

theorem samM_len (v : List Int → Nat → Nat → Nat → Int) (s : List Int) (p q : Int) : (samM v s p q).1.length ≤ 64 := by
  unfold samM
  split
  · exact toldM_len _
  · simp
theorem LinesOfSame_agree (s : List Int) (p : Int) (hs : s.length ≤ 1048576) : ∃ r, Ev (fun k => spec_LinesOfSame.f k s p) r ∧ Ev (fun k => impl_LinesOfSame.f k s p) r ∧ r.1.length ≤ 17592186044415 :=
  ⟨samM vL s p 1, spec_LinesOfSame_ev s p (by omega), impl_LinesOfSame_ev s p (by omega), by have := samM_len vL s p 1; omega⟩

theorem FnExactLinesOfSame : laws_FnExactLinesOfSame.Pure := by
  intro l0 a1 hm0 he0 hx0 ha1
  apply Ev.rounds
  simp only [laws_FnExactLinesOfSame.f]
  by_cases c0 : (l0.length : Int) > 1048576
  · exact Ev.tt c0 (Ev.now _)
  refine Ev.ff c0 ?_
  have hl0 : l0.length ≤ 1048576 := by omega
  obtain ⟨r, hs, hi, hb⟩ := LinesOfSame_agree l0 a1 hl0
  obtain ⟨r0, r1⟩ := r
  try simp only at hb
  repeat ((try dsimp only); first | exact Ev.now _ | refine Ev.bind (laws_toIntS_ev l0 (by omega)) ?_ | refine Ev.bind hs ?_ | refine Ev.bind hi ?_ | refine Ev.bind (laws_eqIntS_self _ (by omega)) ?_ | refine Ev.bind (laws_markIntS_ev _ _ (by omega) (by omega) (by omega)) ?_ | refine Ev.bind (laws_heldIntS_ev _ (by omega)) ?_ | refine Ev.tt rfl ?_ | refine Ev.ff (by first | omega | decide) ?_ | (refine Ev.step (fun k => by simp only [laws_FnExactLinesOfSame.j0, bne_self_eq_false]; rfl) ?_) | (refine Ev.step (fun k => by simp only [laws_FnExactLinesOfSame.j1, bne_self_eq_false]; rfl) ?_) | (refine Ev.step (fun k => by simp only [laws_FnExactLinesOfSame.j2, bne_self_eq_false]; rfl) ?_))

end Go.Proofs.Ytpmihgkgcpjocaa.Pure
