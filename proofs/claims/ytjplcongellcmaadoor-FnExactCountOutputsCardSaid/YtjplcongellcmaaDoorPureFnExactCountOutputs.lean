/- FnExactCountOutputs: the plain law behind the statement FnExactCountOutputs. No condition. -/
import Derived.Test.YtjplcongellcmaaDoorPFnExactCountOutputsx9
namespace Go.Proofs.YtjplcongellcmaaDoor.Pure
open Go.RowKit Go.Proofs.YtjplcongellcmaaDoor.PFnExactCountOutputs Go.Proofs.YtjplcongellcmaaDoorW.PrintWords Go.Proofs.YtjplcongellcmaaDoorW.PrintLast Go.Proofs.YtjplcongellcmaaDoorW.PrintMore
set_option linter.unusedVariables false
set_option linter.unusedSimpArgs false

theorem w64 {n : Int} (h1 : -9223372036854775808 ≤ n) (h2 : n ≤ 9223372036854775807) : wrap64 n = n := by
  unfold wrap64
  omega
theorem Ev.to {α : Type} {g : Nat → Option α} {r r' : α} (h : Ev g r) (e : r = r') : Ev g r' := e ▸ h
theorem Ev.const {α : Type} {g : Option α} {r : α} (h : g = some r) : Ev (fun _ => g) r := ⟨0, fun _ _ => h⟩
theorem Ev.dbind {α β : Type} {g : Option α} {f : Nat → α → Option β} {a : α} {r : β} (h : g = some a) (k : Ev (fun n => f n a) r) : Ev (fun n => g.bind (f n)) r :=
  Ev.bind (g := fun _ => g) (Ev.const h) k
theorem Ev.tt {α : Type} {c : Prop} {_ : Decidable c} {g f : Nat → Option α} {r : α} (h : c) (k : Ev g r) : Ev (fun n => if c then g n else f n) r := by
  simpa only [if_pos h] using k
theorem Ev.ff {α : Type} {c : Prop} {_ : Decidable c} {g f : Nat → Option α} {r : α} (h : ¬ c) (k : Ev f r) : Ev (fun n => if c then g n else f n) r := by
  simpa only [if_neg h] using k
theorem rd_mid (p t : List Int) (x : Int) : rd (p ++ x :: t) (p.length : Int) = x := by
  simp [rd]
theorem lt_mid {α : Type} (p t : List α) (x : α) : (p.length : Int) < ((p ++ x :: t).length : Int) := by
  simp
  omega
theorem nx_mid {α : Type} (p t : List α) (x : α) (h : (p ++ x :: t).length ≤ 140737488351232) : wrap64 ((p.length : Int) + 1) = ((p ++ [x]).length : Int) := by
  simp at h ⊢
  exact w64 (by omega) (by omega)
theorem ap_mid {α : Type} (p t : List α) (x : α) : p ++ x :: t = (p ++ [x]) ++ t := by simp
theorem w64_nat (a b : Nat) (h : a + b ≤ 1000000000) : wrap64 ((a : Int) + (b : Int)) = ((a + b : Nat) : Int) := by
  rw [w64 (n := (a : Int) + (b : Int)) (by omega) (by omega)]
  omega
theorem w64_suc {α : Type} (q : List α) (x : α) (h : q.length ≤ 1000000000) : wrap64 ((q.length : Int) + 1) = ((q ++ [x]).length : Int) := by
  rw [w64 (n := (q.length : Int) + 1) (by omega) (by omega)]
  simp
theorem ar1 {a b c d : Nat} (h1 : a + 1 ≤ c) (h2 : b + 1 ≤ d) : ((a + b : Nat) : Int) < ((c + d - 1 : Nat) : Int) := by omega
theorem ar2 {a b c d : Nat} (h1 : a + 1 ≤ c) (h2 : b + 1 ≤ d) : a + b < c + d - 1 := by omega
theorem ar3 (a b : Nat) : ¬ (a ≤ a + b ∧ a + b - a < b) := by omega
theorem ar4 {v M : Int} (h : -M ≤ v ∧ v ≤ M) (hm : M ≤ 4000000000000000000) : wrap64 v = v := w64 (by omega) (by omega)
theorem ar5 {c v P M H : Int} (hc : -P ≤ c ∧ c ≤ P) (hv : -M ≤ v ∧ v ≤ M) (hp : P + M ≤ H) (hH : H ≤ 4000000000000000000) : wrap64 (c + v) = c + v := w64 (by omega) (by omega)
theorem ar6 {a b : Nat} {M : Int} (h : a + 1 ≤ b) (hM : 0 ≤ M) : (a : Int) * M + M ≤ (b : Int) * M := by
  have h1 : ((a : Int) + 1) * M ≤ (b : Int) * M := Int.mul_le_mul_of_nonneg_right (by omega) hM
  rw [Int.add_mul, Int.one_mul] at h1
  exact h1
theorem ar7 {a b c d : Nat} (h1 : a + 1 ≤ c) (h2 : b + 1 ≤ d) (h : c + d ≤ 100000000) : a + b ≤ 1000000000 := by omega
theorem ar8 {a c d : Nat} (h1 : a + 1 ≤ c) (h : c + d ≤ 100000000) : a ≤ 1000000000 := by omega
theorem tm (a b : Nat) : Int.tmod (a : Int) (b : Int) = ((a % b : Nat) : Int) := (Int.ofNat_tmod a b).symm
theorem td (a b : Nat) : Int.tdiv (a : Int) (b : Int) = ((a / b : Nat) : Int) := (Int.ofNat_tdiv a b).symm
theorem w64n {a : Nat} (h : a ≤ 1000000000) : wrap64 (a : Int) = (a : Int) := w64 (by omega) (by omega)

def backOf (n : Int) : Int × Bool := if n = 3 then (-1, true) else if n = 4 then (0, true) else if n = 6 then (1, true) else (0, false)
def tnF (c : Int) : List Int → Int → Int → Int × Int
  | [], y, z => (y, z)
  | x :: t, y, z => tnF c t (wrap64 ((wrap64 (x + (wrap64 (c * y)))) - z)) y
def sig (l : List Int) : Bool := decide (l.length ≤ 64) && l.all fun x => decide (-100000 ≤ x) && decide (x ≤ 100000)
def toneStates (l : List Int) (n : Int) : Int × Int × Bool := if (backOf n).2 = true then (if sig l = true then ((tnF (backOf n).1 l 0 0).1, (tnF (backOf n).1 l 0 0).2, true) else (0, 0, false)) else (0, 0, false)
theorem sig_len {l : List Int} (h : sig l = true) : l.length ≤ 64 := by
  simp [sig] at h
  exact h.1
theorem sig_mem {l : List Int} (h : sig l = true) : ∀ x ∈ l, -100000 ≤ x ∧ x ≤ 100000 := by
  simp [sig] at h
  exact h.2
def isBits (l : List Int) : Bool := decide (l.length ≤ 200) && l.all fun x => decide (x = 1 ∨ x = -1)
theorem isBits_len {l : List Int} (h : isBits l = true) : l.length ≤ 200 := by
  simp [isBits] at h
  exact h.1
theorem isBits_mem {l : List Int} (h : isBits l = true) : ∀ x ∈ l, x = 1 ∨ x = -1 := by
  simp [isBits] at h
  exact h.2
def toldM (l : List Int) : List Int × Bool := if sig l = true then (l, true) else ([], false)
theorem toldM_len (l : List Int) : (toldM l).1.length ≤ 64 := by
  unfold toldM
  split
  · exact sig_len ‹_›
  · simp
def bitM (x v : Int) : Int := if x ≥ v then 1 else -1
theorem bitM_cases (x v : Int) : bitM x v = 1 ∨ bitM x v = -1 := by
  unfold bitM
  split <;> simp
def tkS (st last : Int) (fixed : Bool) (bit : Int) : Int :=
  if fixed = true then st else if last = 0 then st else if bit = last then (if 2 * st ≤ 4096 then 2 * st else 4096) else (if 1 ≤ st / 2 then st / 2 else 1)
theorem tkS_bd {st last : Int} {fixed : Bool} {bit : Int} (h0 : 1 ≤ st) (h1 : st ≤ 4096) : 1 ≤ tkS st last fixed bit ∧ tkS st last fixed bit ≤ 4096 := by
  unfold tkS
  repeat' split
  all_goals omega
theorem mul_bit {st bit : Int} (hb : bit = 1 ∨ bit = -1) : st * bit = st ∨ st * bit = -st := by
  rcases hb with rfl | rfl
  · left; omega
  · right; omega
/-- bit, value and step behind each sample -/
def codeM (fixed : Bool) : List Int → Int → Int → Int → List (Int × Int × Int)
  | [], _, _, _ => []
  | x :: t, v, st, last =>
    let b := bitM x v
    let s := tkS st last fixed b
    (b, v + s * b, s) :: codeM fixed t (v + s * b) s b
theorem codeM_length (fixed : Bool) : ∀ (l : List Int) (v st last : Int), (codeM fixed l v st last).length = l.length
  | [], _, _, _ => rfl
  | x :: t, v, st, last => by simp [codeM, codeM_length fixed t]
def fixM (st : Int) : List Int → Int → List Int
  | [], _ => []
  | x :: t, v => bitM x v :: fixM st t (v + bitM x v * st)
theorem fixM_length (st : Int) : ∀ (l : List Int) (v : Int), (fixM st l v).length = l.length
  | [], _ => rfl
  | x :: t, v => by simp [fixM, fixM_length st t]
def fixedBits (l : List Int) (st : Int) : List Int × Bool := if sig l = true ∧ 1 ≤ st ∧ st ≤ 4096 then (fixM st l 0, true) else ([], false)
def decM (fixed : Bool) : List Int → Int → Int → Int → List (Int × Int)
  | [], _, _, _ => []
  | b :: t, v, st, last => (v + tkS st last fixed b * b, tkS st last fixed b) :: decM fixed t (v + tkS st last fixed b * b) (tkS st last fixed b) b
theorem decM_length (fixed : Bool) : ∀ (l : List Int) (v st last : Int), (decM fixed l v st last).length = l.length
  | [], _, _, _ => rfl
  | x :: t, v, st, last => by simp [decM, decM_length fixed t]
def gapM : List Int → List Int → List Int
  | x :: t, y :: u => (x - y) :: gapM t u
  | _, _ => []
theorem gapM_length : ∀ (l m : List Int), l.length = m.length → (gapM l m).length = l.length
  | [], m, _ => by cases m <;> simp [gapM]
  | x :: t, [], h => by simp at h
  | x :: t, y :: u, h => by
    simp at h
    simp [gapM, gapM_length t u h]
theorem codeM_val (fixed : Bool) : ∀ (l : List Int) (v st last : Int) (n : Int), 1 ≤ st → st ≤ 4096 → -4096 * n ≤ v → v ≤ 4096 * n → ∀ y ∈ (codeM fixed l v st last).map (·.2.1), -4096 * (n + l.length) ≤ y ∧ y ≤ 4096 * (n + l.length)
  | [], _, _, _, _, _, _, _, _, y, hy => by simp [codeM] at hy
  | x :: t, v, st, last, n, h0, h1, hv0, hv1, y, hy => by
    have hb := bitM_cases x v
    have hk := tkS_bd (last := last) (fixed := fixed) (bit := bitM x v) h0 h1
    have hm := mul_bit (st := tkS st last fixed (bitM x v)) hb
    simp only [codeM, List.map_cons, List.mem_cons] at hy
    rcases hy with rfl | hy
    · simp; omega
    · have := codeM_val fixed t _ _ _ (n + 1) hk.1 hk.2 (by omega) (by omega) y hy
      simp; omega
def stepOk (st : Int) : Bool := decide (1 ≤ st) && decide (st ≤ 4096)
theorem stepOk_iff {st : Int} : stepOk st = true ↔ 1 ≤ st ∧ st ≤ 4096 := by simp [stepOk]
def stepBits (l : List Int) (st : Int) : List Int × Bool := if sig l = true then (if stepOk st = true then ((codeM false l 0 st 0).map (·.1), true) else ([], false)) else ([], false)
def stepValues (l : List Int) (st : Int) : List Int × Bool := if isBits l = true then (if stepOk st = true then toldM ((decM false l 0 st 0).map (·.1)) else ([], false)) else ([], false)
def stepsOfBits (l : List Int) (st : Int) : List Int × Bool := if isBits l = true then (if stepOk st = true then toldM ((decM false l 0 st 0).map (·.2)) else ([], false)) else ([], false)
def fixedValues (l : List Int) (st : Int) : List Int × Bool := if isBits l = true then (if stepOk st = true then toldM ((decM true l 0 st 0).map (·.1)) else ([], false)) else ([], false)
def stepGaps (l : List Int) (st : Int) : List Int × Bool := if sig l = true then (if stepOk st = true then toldM (gapM l ((codeM false l 0 st 0).map (·.2.1))) else ([], false)) else ([], false)
def wts (l : List Int) : Bool := decide (1 ≤ l.length) && decide (l.length ≤ 9) && l.all fun x => decide (-1000 ≤ x) && decide (x ≤ 1000)
theorem wts_len {l : List Int} (h : wts l = true) : 1 ≤ l.length ∧ l.length ≤ 9 := by
  simp [wts] at h
  exact ⟨h.1.1, h.1.2⟩
theorem wts_mem {l : List Int} (h : wts l = true) : ∀ x ∈ l, -1000 ≤ x ∧ x ≤ 1000 := by
  simp [wts] at h
  exact h.2
def ratio (p q : Int) : Bool := (decide (1 ≤ p) && decide (p ≤ 8)) && (decide (1 ≤ q) && decide (q ≤ 8))
theorem ratio_iff {p q : Int} : ratio p q = true ↔ (1 ≤ p ∧ p ≤ 8) ∧ (1 ≤ q ∧ q ≤ 8) := by simp [ratio]
def rsOk (h l : List Int) (p q : Int) : Bool := wts h && ((sig l && ratio p q) && decide ((l.length : Int) * p ≤ 64))
def peakM : List Int → Nat → Nat
  | [], m => m
  | x :: t, m => peakM t (max m x.natAbs)

def cv : List Int → List Int → Nat → Int
  | [], _, _ => 0
  | w :: _, s, 0 => w * s.getD 0 0
  | w :: h, s, n + 1 => w * s.getD (n + 1) 0 + cv h s n
def Lf (f : Nat → Int) (N : Nat) : List Int := (List.range N).map f
theorem Lf_length (f : Nat → Int) (N : Nat) : (Lf f N).length = N := by simp [Lf]
theorem rd_Lf (f : Nat → Int) (N i : Nat) (h : i < N) : rd (Lf f N) (i : Int) = f i := by
  simp [rd, Lf, h]
theorem set_Lf (f : Nat → Int) (N i : Nat) (v : Int) : (Lf f N).set i v = Lf (fun n => if n = i then v else f n) N := by
  apply List.ext_getElem
  · simp [Lf]
  · intro n h1 h2
    simp [Lf, List.getElem_set]
    by_cases c : i = n
    · simp [c]
    · rw [if_neg c, if_neg (fun h => c h.symm)]
theorem Lf_congr {f g : Nat → Int} {N : Nat} (h : ∀ n, n < N → f n = g n) : Lf f N = Lf g N := by
  apply List.ext_getElem
  · simp [Lf]
  · intro n h1 h2
    simp [Lf] at h1 ⊢
    exact h n h1
theorem cv_snoc (s : List Int) (w : Int) : ∀ (p : List Int) (n : Nat), cv (p ++ [w]) s n = cv p s n + (if p.length ≤ n then w * s.getD (n - p.length) 0 else 0)
  | [], 0 => by simp [cv]
  | [], n + 1 => by simp [cv]
  | a :: p, 0 => by simp [cv]
  | a :: p, n + 1 => by
    simp only [List.cons_append, cv, cv_snoc s w p n, List.length_cons, Nat.add_le_add_iff_right, Nat.add_sub_add_right]
    omega
theorem getD_bd {s : List Int} {a M : Int} (hM : 0 ≤ M) (h : ∀ x ∈ s, -M ≤ a * x ∧ a * x ≤ M) (n : Nat) : -M ≤ a * s.getD n 0 ∧ a * s.getD n 0 ≤ M := by
  rw [List.getD_eq_getElem?_getD]
  by_cases c : n < s.length
  · rw [List.getElem?_eq_getElem c]
    exact h _ (List.getElem_mem c)
  · rw [List.getElem?_eq_none (by omega)]
    simp
    omega
theorem cv_bd {s : List Int} {M : Int} (hM : 0 ≤ M) : ∀ (h : List Int) (n : Nat), (∀ a ∈ h, ∀ x ∈ s, -M ≤ a * x ∧ a * x ≤ M) → -(h.length * M) ≤ cv h s n ∧ cv h s n ≤ h.length * M
  | [], n, hb => by simp [cv]
  | a :: h, 0, hb => by
    have h1 := getD_bd hM (hb a (by simp)) 0
    have h2 : 0 ≤ (h.length : Int) * M := Int.mul_nonneg (by omega) hM
    simp only [cv, List.length_cons, Int.natCast_add, Int.add_mul]
    omega
  | a :: h, n + 1, hb => by
    have h1 := getD_bd hM (hb a (by simp)) (n + 1)
    have h2 := cv_bd hM h n (fun b hbm => hb b (by simp [hbm]))
    simp only [cv, List.length_cons, Int.natCast_add, Int.add_mul]
    omega
def conv (h s : List Int) : List Int := if s = [] then [] else Lf (cv h s) (h.length + s.length - 1)
theorem conv_length (h s : List Int) (hs : s ≠ []) : (conv h s).length = h.length + s.length - 1 := by
  rw [conv, if_neg hs, Lf_length]
/-- what stands in the list when the weights p are done, and of the weight w the samples q -/
def cvi (p q s : List Int) (w : Int) (n : Nat) : Int := cv p s n + (if p.length ≤ n ∧ n - p.length < q.length then w * s.getD (n - p.length) 0 else 0)
theorem cvi_nil (p s : List Int) (w : Int) : cvi p [] s w = cv p s := by
  funext n
  simp [cvi]
theorem cvi_all (p s : List Int) (w : Int) (n : Nat) : cvi p s s w n = cv (p ++ [w]) s n := by
  rw [cv_snoc, cvi]
  by_cases c : p.length ≤ n
  · by_cases d : n - p.length < s.length
    · rw [if_pos ⟨c, d⟩, if_pos c]
    · rw [if_neg (fun h => d h.2), if_pos c, List.getD_eq_getElem?_getD, List.getElem?_eq_none (by omega)]
      simp
  · rw [if_neg (fun h => c h.1), if_neg c]
theorem getD_mid (q t : List Int) (x : Int) : (q ++ x :: t).getD q.length 0 = x := by simp
theorem cvi_step (p q t : List Int) (w x : Int) (n : Nat) : (if n = p.length + q.length then cvi p q (q ++ x :: t) w n + w * x else cvi p q (q ++ x :: t) w n) = cvi p (q ++ [x]) (q ++ x :: t) w n := by
  unfold cvi
  by_cases c : n = p.length + q.length
  · subst c
    have e : p.length + q.length - p.length = q.length := by omega
    rw [if_pos rfl, e, getD_mid, if_neg (by omega), if_pos ⟨by omega, by simp⟩]
    omega
  · rw [if_neg c]
    by_cases d : p.length ≤ n ∧ n - p.length < q.length
    · rw [if_pos d, if_pos ⟨d.1, by simp; omega⟩]
    · rw [if_neg d, if_neg (fun h => d ⟨h.1, by have := h.2; simp at this; omega⟩)]
theorem Lf_succ (f : Nat → Int) (n : Nat) : Lf f (n + 1) = Lf f n ++ [f n] := by simp [Lf, List.range_succ]
def dropN (len rate first : Nat) : Nat := (len - first + rate - 1) / rate
theorem dropN_lt {len rate first j : Nat} (hr : 1 ≤ rate) : j < dropN len rate first ↔ first + j * rate < len := by
  unfold dropN
  rw [Nat.lt_iff_add_one_le, Nat.le_div_iff_mul_le (by omega), Nat.add_mul]
  omega
def dropM (l : List Int) (rate first : Nat) : List Int := Lf (fun j => l.getD (first + j * rate) 0) (dropN l.length rate first)
theorem dropM_length (l : List Int) (rate first : Nat) : (dropM l rate first).length = dropN l.length rate first := Lf_length _ _
theorem dropN_le {len rate first : Nat} (hr : 1 ≤ rate) : dropN len rate first ≤ len := by
  apply Nat.le_of_not_lt
  intro h
  have := (dropN_lt hr).1 h
  have h2 : len * 1 ≤ len * rate := Nat.mul_le_mul_left len hr
  omega
def stuffM (p : Nat) : List Int → List Int
  | [] => []
  | x :: t => (x :: List.replicate (p - 1) 0) ++ stuffM p t
theorem stuffM_length (p : Nat) (hp : 1 ≤ p) : ∀ l : List Int, (stuffM p l).length = l.length * p
  | [] => by simp [stuffM]
  | x :: t => by
    simp only [stuffM, List.length_append, List.length_cons, List.length_replicate, stuffM_length p hp t, Nat.add_mul]
    omega
theorem stuffM_snoc (p : Nat) (x : Int) : ∀ l : List Int, stuffM p (l ++ [x]) = stuffM p l ++ (x :: List.replicate (p - 1) 0)
  | [] => by simp [stuffM]
  | y :: t => by simp [stuffM, stuffM_snoc p x t]
theorem rd_getD (l : List Int) (i : Nat) : rd l (i : Int) = l.getD i 0 := by simp [rd]
theorem stuffM_sig (p : Nat) : ∀ l : List Int, (∀ x ∈ l, -100000 ≤ x ∧ x ≤ 100000) → ∀ x ∈ stuffM p l, -100000 ≤ x ∧ x ≤ 100000
  | [], _, x, h => by simp [stuffM] at h
  | y :: t, hl, x, h => by
    simp only [stuffM, List.mem_append, List.mem_cons, List.mem_replicate] at h
    rcases h with (rfl | ⟨_, rfl⟩) | h
    · exact hl _ (by simp)
    · omega
    · exact stuffM_sig p t (fun z hz => hl z (by simp [hz])) x h
theorem sig_iff {l : List Int} : sig l = true ↔ l.length ≤ 64 ∧ ∀ x ∈ l, -100000 ≤ x ∧ x ≤ 100000 := by simp [sig]
theorem ediv_bd {x b : Int} (hb : 0 < b) (hx : -4611686018427387904 ≤ x ∧ x ≤ 4611686018427387904) : -4611686018427387905 ≤ x / b ∧ x / b ≤ 4611686018427387905 := by
  have h0 := Int.emod_nonneg x (show b ≠ 0 by omega)
  have h1 := Int.emod_lt_of_pos x hb
  have h2 := Int.emod_add_mul_ediv x b
  constructor
  · apply Int.not_lt.1
    intro h
    have : b * (x / b) ≤ 1 * (x / b) := Int.mul_le_mul_of_nonpos_right (by omega) (by omega)
    have h3 : b * (x / b) ≤ b * (-4611686018427387906) := Int.mul_le_mul_of_nonneg_left (by omega) (by omega)
    omega
  · apply Int.not_lt.1
    intro h
    have h3 : 1 * (x / b) ≤ b * (x / b) := Int.mul_le_mul_of_nonneg_right (by omega) (by omega)
    omega
def atM (s : List Int) (i : Int) : Int := if 0 ≤ i then s.getD i.toNat 0 else 0
theorem getD_all {l : List Int} {M : Int} (hM : 0 ≤ M) (h : ∀ x ∈ l, -M ≤ x ∧ x ≤ M) (n : Nat) : -M ≤ l.getD n 0 ∧ l.getD n 0 ≤ M := by
  rw [List.getD_eq_getElem?_getD]
  by_cases c : n < l.length
  · rw [List.getElem?_eq_getElem c]
    exact h _ (List.getElem_mem c)
  · rw [List.getElem?_eq_none (by omega)]
    simp
    omega
def totL : List (List Int) → Nat
  | [] => 0
  | x :: t => x.length + totL t

theorem laws_toIntS_l0 (l : List Int) (hl : l.length ≤ 140737488351232) : ∀ (t p : List Int), l = p ++ t → Ev (fun k => laws_toIntS.l0 k l (p ++ List.replicate t.length 0) (p.length : Int)) l
  | [], p, h => by
    apply Ev.step (f := fun _ => some l)
    · intro k
      subst h
      simp [laws_toIntS.l0]
    · exact Ev.now _
  | x :: t, p, h => by
    have e1 : (p.length : Int) < (l.length : Int) := by rw [h]; exact lt_mid p t x
    have e2 : rd l (p.length : Int) = x := by rw [h]; exact rd_mid p t x
    have e3 : wrap64 ((p.length : Int) + 1) = ((p ++ [x]).length : Int) := nx_mid p t x (h ▸ hl)
    have e4 : (p.length : Int) < ((p ++ List.replicate (x :: t).length 0 : List Int).length : Int) := by simp; omega
    have e5 : (p ++ List.replicate (x :: t).length 0 : List Int).set (p.length : Int).toNat x = (p ++ [x]) ++ List.replicate t.length 0 := by
      simp [List.replicate_succ]
    refine Ev.step (fun k => ?_) (laws_toIntS_l0 l hl t (p ++ [x]) (by simp [h]))
    simp only [laws_toIntS.l0, if_pos e1, if_pos (Int.natCast_nonneg _), if_pos e4, e2, e3, e5]
theorem laws_toIntS_ev (l : List Int) (hl : l.length ≤ 17592186044416) : Ev (fun k => laws_toIntS.f k l) l := by
  have h := laws_toIntS_l0 l (by omega) l [] rfl
  simp only [laws_toIntS.f]
  refine Ev.tt (Int.natCast_nonneg _) (Ev.tt ?_ ?_)
  · simp; omega
  · simpa using h

theorem laws_eqIntS_l0 (l m : List Int) (hl : l.length ≤ 140737488351232) : ∀ (t p u q : List Int), l = p ++ t → m = q ++ u → p.length = q.length → t.length = u.length → Ev (fun k => laws_eqIntS.l0 k l m (p.length : Int)) (t == u)
  | [], p, [], q, h, h', e, _ => by
    apply Ev.step (f := fun _ => some _)
    · intro k
      subst h
      simp [laws_eqIntS.l0]; rfl
    · exact Ev.now _
  | x :: t, p, y :: u, q, h, h', e, e' => by
    have e1 : (p.length : Int) < (l.length : Int) := by rw [h]; exact lt_mid p t x
    have e2 : rd l (p.length : Int) = x := by rw [h]; exact rd_mid p t x
    have e3 : wrap64 ((p.length : Int) + 1) = ((p ++ [x]).length : Int) := nx_mid p t x (h ▸ hl)
    have e4 : (p.length : Int) < (m.length : Int) := by rw [h', e]; exact lt_mid q u y
    have e5 : rd m (p.length : Int) = y := by rw [h', e]; exact rd_mid q u y
    by_cases c : x = y
    · refine Ev.to (Ev.step (fun k => ?_) (laws_eqIntS_l0 l m hl t (p ++ [x]) u (q ++ [y]) (by simp [h]) (by simp [h']) (by simp [e]) (by simpa using e'))) (by simp [c])
      simp only [laws_eqIntS.l0, if_pos e1, if_pos (Int.natCast_nonneg _), if_pos e4, e2, e3, e5, if_pos c]
    · refine Ev.to (Ev.step (fun k => ?_) (Ev.now false)) (by simp [c])
      simp only [laws_eqIntS.l0, if_pos e1, if_pos (Int.natCast_nonneg _), if_pos e4, e2, e3, e5, if_neg c]
theorem laws_eqIntS_ev (l m : List Int) (hl : l.length ≤ 140737488351232) : Ev (fun k => laws_eqIntS.f k l m) (l == m) := by
  simp only [laws_eqIntS.f]
  by_cases c : (l.length : Int) = (m.length : Int)
  · exact Ev.tt c (laws_eqIntS_l0 l m hl l [] m [] rfl rfl rfl (by omega))
  · refine Ev.ff c (Ev.to (Ev.now false) ?_)
    have : l ≠ m := fun h => c (by rw [h])
    simp [this]
theorem laws_eqIntS_self (l : List Int) (hl : l.length ≤ 140737488351232) : Ev (fun k => laws_eqIntS.f k l l) true := Ev.to (laws_eqIntS_ev l l hl) (by simp)

theorem spec_l1In_eq (a b c : Int) : spec_l1In.f a b c = some (decide (b ≤ a) && decide (a ≤ c)) := by
  unfold spec_l1In.f
  by_cases h : b ≤ a <;> simp [h]

theorem impl_in_eq (a b c : Int) : impl_in.f a b c = some (decide (b ≤ a) && decide (a ≤ c)) := by
  unfold impl_in.f
  by_cases h : b ≤ a <;> simp [h]

theorem spec_l1All_l0 (lo hi : Int) (l : List Int) (hl : l.length ≤ 140737488351232) : ∀ (t p : List Int), l = p ++ t → Ev (fun k => spec_l1All.l0 k lo hi l (l.length : Int) (p.length : Int)) (t.all fun x => decide (lo ≤ x) && decide (x ≤ hi))
  | [], p, h => by
    apply Ev.step (f := fun _ => some _)
    · intro k
      subst h
      simp [spec_l1All.l0]; rfl
    · exact Ev.now _
  | x :: t, p, h => by
    have e1 : (p.length : Int) < (l.length : Int) := by rw [h]; exact lt_mid p t x
    have e2 : rd l (p.length : Int) = x := by rw [h]; exact rd_mid p t x
    have e3 : wrap64 ((p.length : Int) + 1) = ((p ++ [x]).length : Int) := nx_mid p t x (h ▸ hl)
    by_cases c : (decide (lo ≤ x) && decide (x ≤ hi)) = true
    · refine Ev.to (Ev.step (fun k => ?_) (spec_l1All_l0 lo hi l hl t (p ++ [x]) (by simp [h]))) (by rw [List.all_cons, c, Bool.true_and])
      simp only [spec_l1All.l0, if_pos e1, if_pos (Int.natCast_nonneg _), e2, e3, spec_l1In_eq, Option.bind_some, if_pos c]
    · refine Ev.to (Ev.step (fun k => ?_) (Ev.now false)) (by rw [List.all_cons, Bool.eq_false_iff.mpr c, Bool.false_and])
      simp only [spec_l1All.l0, if_pos e1, if_pos (Int.natCast_nonneg _), e2, e3, spec_l1In_eq, Option.bind_some, if_neg c]
theorem spec_l1All_ev (l : List Int) (lo hi : Int) (hl : l.length ≤ 140737488351232) : Ev (fun k => spec_l1All.f k l lo hi) (l.all fun x => decide (lo ≤ x) && decide (x ≤ hi)) := by
  simpa [spec_l1All.f] using spec_l1All_l0 lo hi l hl l [] rfl

theorem spec_wdSignal_ev (l : List Int) (hl : l.length ≤ 140737488351232) : Ev (fun k => spec_wdSignal.f k l) (sig l) := by
  simp only [spec_wdSignal.f]
  by_cases c : (l.length : Int) ≤ 64
  · refine Ev.tt c (Ev.bind (spec_l1All_ev l (-100000) 100000 hl) (Ev.to (Ev.now _) ?_))
    simp [sig]; omega
  · refine Ev.ff c (Ev.to (Ev.now _) ?_)
    simp [sig]; omega

theorem impl_isSignal_c1_eq (x : Int) : impl_isSignal_c1.f x = some (!(decide (-100000 ≤ x) && decide (x ≤ 100000))) := by
  unfold impl_isSignal_c1.f
  rw [impl_in_eq]
  rfl
theorem indexSignal_l0 (l : List Int) (hl : l.length ≤ 140737488351232) : ∀ (t p : List Int), l = p ++ t → ∃ r, Ev (fun k => slices_IndexFunc_int_int_impl_isSignal_c1.l0 k l (l.length : Int) (p.length : Int)) r ∧ (decide (r ≥ 0) = !(t.all fun x => decide (-100000 ≤ x) && decide (x ≤ 100000)))
  | [], p, h => by
    refine ⟨-1, Ev.step (f := fun _ => some (-1)) ?_ (Ev.now _), by simp⟩
    intro k
    subst h
    simp [slices_IndexFunc_int_int_impl_isSignal_c1.l0]
  | x :: t, p, h => by
    have e1 : (p.length : Int) < (l.length : Int) := by rw [h]; exact lt_mid p t x
    have e2 : rd l (p.length : Int) = x := by rw [h]; exact rd_mid p t x
    have e3 : wrap64 ((p.length : Int) + 1) = ((p ++ [x]).length : Int) := nx_mid p t x (h ▸ hl)
    by_cases c : (decide (-100000 ≤ x) && decide (x ≤ 100000)) = true
    · obtain ⟨r, h1, h2⟩ := indexSignal_l0 l hl t (p ++ [x]) (by simp [h])
      refine ⟨r, Ev.step (fun k => ?_) h1, by rw [h2, List.all_cons, c, Bool.true_and]⟩
      simp only [slices_IndexFunc_int_int_impl_isSignal_c1.l0, if_pos e1, if_pos (Int.natCast_nonneg _), e2, e3, impl_isSignal_c1_eq, c, Option.bind_some, Bool.not_true]
      rfl
    · have c := Bool.eq_false_iff.mpr c
      refine ⟨(p.length : Int), Ev.step (fun k => ?_) (Ev.now _), by rw [List.all_cons, c]; simp⟩
      simp only [slices_IndexFunc_int_int_impl_isSignal_c1.l0, if_pos e1, if_pos (Int.natCast_nonneg _), e2, e3, impl_isSignal_c1_eq, c, Option.bind_some, Bool.not_false]
      rfl
theorem impl_isSignal_ev (l : List Int) (hl : l.length ≤ 140737488351232) : Ev (fun k => impl_isSignal.f k l) (sig l) := by
  simp only [impl_isSignal.f]
  by_cases c : (l.length : Int) ≤ 64
  · obtain ⟨r, h1, h2⟩ := indexSignal_l0 l hl l [] rfl
    refine Ev.tt c (Ev.bind (a := decide (r ≥ 0)) ?_ (Ev.to (Ev.now _) ?_))
    · simp only [slices_ContainsFunc_int_int_impl_isSignal_c1.f, slices_IndexFunc_int_int_impl_isSignal_c1.f]
      exact Ev.bind h1 (Ev.now _)
    · rw [h2]; simp [sig]; omega
  · refine Ev.ff c (Ev.to (Ev.now _) ?_)
    simp [sig]; omega

/-- A number shifted: down, to the nearest one, towards 0. -/
def shM (x b mode : Int) : Int := if mode = 1 ∧ b ≤ 2 * (x % b) ∧ 0 < x % b then x / b + 1 else if mode = 2 ∧ x < 0 ∧ 0 < x % b then x / b + 1 else x / b
theorem div_uniq {x b q r : Int} (h : x = q * b + r) (h0 : 0 ≤ r) (h1 : r < b) : x / b = q := by
  have hb : 0 < b := by omega
  exact ((Int.ediv_emod_unique hb).2 ⟨by rw [h, Int.mul_comm]; omega, h0, h1⟩).1
theorem pow2_pos (s : Nat) : (0 : Int) < 2 ^ s := Int.pow_pos (by decide)
theorem pow2_le {s : Nat} (h : s ≤ 20) : (2 : Int) ^ s ≤ 1048576 := by
  have h1 : (2 : Nat) ^ s ≤ 2 ^ 20 := Nat.pow_le_pow_right (by decide) h
  have h3 : (2 : Int) ^ s = (((2 : Nat) ^ s : Nat) : Int) := by simp
  rw [h3]
  have h2 : (2 : Nat) ^ 20 = 1048576 := by decide
  omega
theorem shl_one {s : Nat} (h : s ≤ 20) : shl .i64 1 (s : Int) = 2 ^ s := by
  unfold shl
  have h1 : min ((s : Int)).toNat IntKind.i64.bits = s := by
    simp [IntKind.bits]; omega
  rw [h1, Int.one_mul, IntKind.wrap_i64]
  have := pow2_pos s
  have := pow2_le h
  omega
theorem shl_mul {s : Nat} (h : s ≤ 20) (y : Int) (h1 : -9223372036854775808 ≤ y * 2 ^ s) (h2 : y * 2 ^ s ≤ 9223372036854775807) : shl .i64 y (s : Int) = y * 2 ^ s := by
  unfold shl
  have e : min ((s : Int)).toNat IntKind.i64.bits = s := by
    simp [IntKind.bits]; omega
  rw [e, IntKind.wrap_i64]
  omega
theorem shr_div {s : Nat} (h : s ≤ 20) (y : Int) : shr .i64 y (s : Int) = y / 2 ^ s := by
  unfold shr
  have e : min ((s : Int)).toNat IntKind.i64.bits = s := by
    simp [IntKind.bits]; omega
  rw [e]
theorem mod_eq (x b : Int) : x = (x / b) * b + x % b := by
  have := Int.emod_add_mul_ediv x b
  rw [Int.mul_comm] at this
  omega

theorem impl_shifted_ev (x : Int) (s : Nat) (mode : Int) (hs : s ≤ 20) (hx : -4611686018427387904 ≤ x ∧ x ≤ 4611686018427387904) : Ev (fun k => impl_shifted.f k x (s : Int) mode) (shM x (2 ^ s) mode) := by
  have hb := pow2_pos s
  have hb2 := pow2_le hs
  have hr0 := Int.emod_nonneg x (show (2 : Int) ^ s ≠ 0 by omega)
  have hr1 := Int.emod_lt_of_pos x hb
  have hd := mod_eq x (2 ^ s)
  simp only [impl_shifted.f]
  by_cases c : mode = 1
  · refine Ev.tt c ?_
    by_cases d : (s : Int) > 0
    · obtain ⟨m, rfl⟩ : ∃ m, s = m + 1 := ⟨s - 1, by omega⟩
      have e1 : wrap64 (((m + 1 : Nat) : Int) - 1) = (m : Int) := by
        rw [w64 (n := ((m + 1 : Nat) : Int) - 1) (by omega) (by omega)]
        omega
      have hp : (2 : Int) ^ (m + 1) = 2 * 2 ^ m := by rw [Int.pow_succ]; omega
      have hpm := pow2_pos m
      have e2 : wrap64 (x + 2 ^ m) = x + 2 ^ m := w64 (by omega) (by omega)
      refine Ev.step (f := fun _ => some (shM x (2 ^ (m + 1)) mode)) (fun k => ?_) (Ev.now _)
      simp only [impl_shifted.j0, e1, shl_one (s := m) (by omega), e2, shr_div hs]
      rw [if_pos (by simp), if_pos (Int.natCast_nonneg _), if_pos (Int.natCast_nonneg _)]
      congr 1
      unfold shM
      by_cases g : (2 : Int) ^ (m + 1) ≤ 2 * (x % 2 ^ (m + 1)) ∧ 0 < x % 2 ^ (m + 1)
      · rw [if_pos ⟨c, g⟩]
        refine div_uniq (r := x % 2 ^ (m + 1) - 2 ^ m) ?_ (by omega) (by omega)
        rw [Int.add_mul]
        omega
      · rw [if_neg (fun h => g h.2), if_neg (fun h => by omega)]
        refine div_uniq (r := x % 2 ^ (m + 1) + 2 ^ m) (by omega) (by omega) (by omega)
    · have e : s = 0 := by omega
      subst e
      refine Ev.step (f := fun _ => some (shM x (2 ^ 0) mode)) (fun k => ?_) (Ev.now _)
      simp only [impl_shifted.j0, shr_div (s := 0) (by omega)]
      rw [if_neg (by simp), if_neg (by omega), if_pos (by omega)]
      congr 1
      unfold shM
      rw [if_neg (fun h => by have := h.2.2; simp at this), if_neg (fun h => by omega)]
  · refine Ev.ff c ?_
    refine Ev.step (f := fun _ => some (shM x (2 ^ s) mode)) (fun k => ?_) (Ev.now _)
    simp only [impl_shifted.j0, shr_div hs]
    rw [if_neg (by decide)]
    have hS : shM x (2 ^ s) mode = if mode = 2 ∧ x < 0 ∧ 0 < x % 2 ^ s then x / 2 ^ s + 1 else x / 2 ^ s := by
      unfold shM
      rw [if_neg (fun h => c h.1)]
    rw [hS]
    clear hS
    by_cases d : mode = 2
    · rw [if_pos d]
      by_cases g : x < 0
      · rw [if_pos g, if_pos (Int.natCast_nonneg _), w64 (n := -x) (by omega) (by omega)]
        by_cases r : 0 < x % 2 ^ s
        · rw [if_pos ⟨d, g, r⟩]
          have e : (-x) / 2 ^ s = -(x / 2 ^ s) - 1 := by
            refine div_uniq (r := 2 ^ s - x % 2 ^ s) ?_ (by omega) (by omega)
            rw [Int.sub_mul, Int.neg_mul]
            omega
          have hq : -4611686018427387905 ≤ x / 2 ^ s ∧ x / 2 ^ s ≤ 4611686018427387905 := ediv_bd hb hx
          rw [e, w64 (n := -(-(x / 2 ^ s) - 1)) (by omega) (by omega)]
          congr 1
          omega
        · rw [if_neg (fun h => r h.2.2)]
          have e : (-x) / 2 ^ s = -(x / 2 ^ s) := by
            refine div_uniq (r := 0) ?_ (by omega) (by omega)
            rw [Int.neg_mul]
            omega
          have hq : -4611686018427387905 ≤ x / 2 ^ s ∧ x / 2 ^ s ≤ 4611686018427387905 := ediv_bd hb hx
          rw [e, w64 (n := -(-(x / 2 ^ s))) (by omega) (by omega)]
          congr 1
          omega
      · rw [if_neg g, if_pos (Int.natCast_nonneg _), if_neg (fun h => g h.2.1)]
    · rw [if_neg d, if_pos (Int.natCast_nonneg _), if_neg (fun h => d h.1)]

theorem spec_wdShift_ev (x : Int) (s : Nat) (mode : Int) (hs : s ≤ 20) (hx : -4611686018427387904 ≤ x ∧ x ≤ 4611686018427387904) : Ev (fun k => spec_wdShift.f k x (s : Int) mode) (shM x (2 ^ s) mode) := by
  have hb := pow2_pos s
  have hb2 := pow2_le hs
  have hr0 := Int.emod_nonneg x (show (2 : Int) ^ s ≠ 0 by omega)
  have hr1 := Int.emod_lt_of_pos x hb
  have hd := mod_eq x (2 ^ s)
  have hq : -4611686018427387905 ≤ x / 2 ^ s ∧ x / 2 ^ s ≤ 4611686018427387905 := ediv_bd hb hx
  have key : ∀ d : Int, d = x / 2 ^ s → Ev (fun k => spec_wdShift.j0 k x mode (2 ^ s) d) (shM x (2 ^ s) mode) := by
    intro d e
    subst e
    have e1 : wrap64 (x / 2 ^ s * 2 ^ s) = x / 2 ^ s * 2 ^ s := w64 (by omega) (by omega)
    have e2 : wrap64 (x - x / 2 ^ s * 2 ^ s) = x % 2 ^ s := by
      rw [w64 (n := x - x / 2 ^ s * 2 ^ s) (by omega) (by omega)]
      omega
    have e3 : wrap64 (2 * (x % 2 ^ s)) = 2 * (x % 2 ^ s) := w64 (by omega) (by omega)
    have e4 : wrap64 (x / 2 ^ s + 1) = x / 2 ^ s + 1 := w64 (by omega) (by omega)
    have j1 : ∀ f : Bool, (f = true ↔ mode = 1 ∧ 2 ^ s ≤ 2 * (x % 2 ^ s) ∧ 0 < x % 2 ^ s) → Ev (fun k => spec_wdShift.j1 k x mode (x / 2 ^ s) (x % 2 ^ s) f) (shM x (2 ^ s) mode) := by
      intro f hf
      refine Ev.step (f := fun _ => some (shM x (2 ^ s) mode)) (fun k => ?_) (Ev.now _)
      simp only [spec_wdShift.j1, e4]
      unfold shM
      by_cases g : f = true
      · rw [if_pos g, if_pos (hf.1 g)]
      · rw [if_neg g, if_neg (fun h => g (hf.2 h))]
        by_cases m2 : mode = 2
        · rw [if_pos m2]
          by_cases x0 : x < 0
          · rw [if_pos x0]
            by_cases r0 : x % 2 ^ s > 0
            · rw [if_pos r0, if_pos ⟨m2, x0, r0⟩]
            · rw [if_neg r0, if_neg (fun h => r0 h.2.2)]
          · rw [if_neg x0, if_neg (fun h => x0 h.2.1)]
        · rw [if_neg m2, if_neg (fun h => m2 h.1)]
    by_cases m1 : mode = 1
    · by_cases g : 2 * (x % 2 ^ s) ≥ 2 ^ s
      · refine Ev.step (fun k => ?_) (j1 (decide (x % 2 ^ s > 0)) (by simp only [decide_eq_true_eq]; exact ⟨fun h => ⟨m1, g, h⟩, fun h => h.2.2⟩))
        simp only [spec_wdShift.j0, e1, e2, e3, if_pos m1, if_pos g]
      · refine Ev.step (fun k => ?_) (j1 false (by simp; intro _ h; omega))
        simp only [spec_wdShift.j0, e1, e2, e3, if_pos m1, if_neg g]
    · refine Ev.step (fun k => ?_) (j1 false (by simp; intro h; exact absurd h m1))
      simp only [spec_wdShift.j0, e1, e2, e3, if_neg m1]
  simp only [spec_wdShift.f, shl_one hs]
  refine Ev.tt (Int.natCast_nonneg _) (Ev.ff (by omega) ?_)
  by_cases g : Int.tmod x (2 ^ s) < 0
  · refine Ev.tt g (key _ ?_)
    have hx0 : x < 0 := by
      apply Int.not_le.1
      intro h
      have := Int.tmod_nonneg (2 ^ s) h
      omega
    have e := Int.tdiv_eq_ediv (a := x) (b := 2 ^ s)
    have e0 : ¬ (0 ≤ x ∨ (2 : Int) ^ s ∣ x) := by
      rintro (h | h)
      · omega
      · rw [Int.tmod_eq_zero_of_dvd h] at g
        omega
    rw [if_neg e0, Int.sign_eq_one_of_pos hb] at e
    rw [e, w64 (n := x / 2 ^ s + 1) (by omega) (by omega), w64 (n := x / 2 ^ s + 1 - 1) (by omega) (by omega)]
    omega
  · refine Ev.ff g (key _ ?_)
    have e := Int.tdiv_eq_ediv (a := x) (b := 2 ^ s)
    have e0 : 0 ≤ x ∨ (2 : Int) ^ s ∣ x := by
      by_cases h : 0 ≤ x
      · exact .inl h
      · right
        have h2 : Int.tmod x (2 ^ s) ≤ 0 := by
          have := Int.tmod_nonneg (2 ^ s) (show 0 ≤ -x by omega)
          rw [Int.neg_tmod] at this
          omega
        exact Int.dvd_of_tmod_eq_zero (by omega)
    rw [if_pos e0] at e
    rw [e, w64 (n := x / 2 ^ s + 0) (by omega) (by omega)]
    omega

def numOk (x : Int) : Bool := decide (-1000000000000 ≤ x) && decide (x ≤ 1000000000000)
def modeOk (s mode : Int) : Bool := (decide (0 ≤ s) && decide (s ≤ 20)) && (decide (0 ≤ mode) && decide (mode ≤ 2))
theorem numOk_iff {x : Int} : numOk x = true ↔ -1000000000000 ≤ x ∧ x ≤ 1000000000000 := by simp [numOk]
theorem modeOk_iff {s m : Int} : modeOk s m = true ↔ (0 ≤ s ∧ s ≤ 20) ∧ (0 ≤ m ∧ m ≤ 2) := by simp [modeOk]

theorem spec_wdMode_eq (s m : Int) : spec_wdMode.f s m = some (modeOk s m) := by
  unfold spec_wdMode.f modeOk
  rw [spec_l1In_eq]
  simp only [Option.bind_some, spec_l1In_eq]
  by_cases c : (decide (0 ≤ s) && decide (s ≤ 20)) = true
  · rw [if_pos c, c, Bool.true_and]
  · rw [if_neg c, Bool.eq_false_iff.mpr c, Bool.false_and]

def goodB (b : Int) : Bool := decide (2 ≤ b) && decide (b ≤ 16)
def hf (b : Int) : Int := 2 ^ (b - 1).toNat
def fitH (h : Int) (w : Bool) (x : Int) : Int := if w = true then (x + h) % (2 * h) - h else if x < -h then -h else if h - 1 < x then h - 1 else x
theorem goodB_iff {b : Int} : goodB b = true ↔ 2 ≤ b ∧ b ≤ 16 := by simp [goodB]
theorem half {b : Int} (g : goodB b = true) : (2 ≤ hf b ∧ hf b ≤ 32768) ∧ wrap64 (b - 1) = b - 1 ∧ 0 ≤ b - 1 ∧ shl .i64 1 (b - 1) = hf b ∧ 0 ≤ b ∧ shl .i64 1 b = 2 * hf b := by
  have g' := goodB_iff.1 g
  obtain ⟨n, rfl⟩ : ∃ n : Nat, b = ((n + 1 : Nat) : Int) := ⟨(b - 1).toNat, by omega⟩
  have e : ((n + 1 : Nat) : Int) - 1 = (n : Int) := by omega
  have eh : hf ((n + 1 : Nat) : Int) = 2 ^ n := by rw [hf, e, Int.toNat_natCast]
  have h1 : (2 : Nat) ^ n ≤ 2 ^ 15 := Nat.pow_le_pow_right (by decide) (by omega)
  have h2 : (2 : Nat) ^ 1 ≤ 2 ^ n := Nat.pow_le_pow_right (by decide) (by omega)
  have h3 : (2 : Int) ^ n = (((2 : Nat) ^ n : Nat) : Int) := by simp
  have h4 : (2 : Nat) ^ 15 = 32768 := by decide
  have h5 : (2 : Nat) ^ 1 = 2 := by decide
  rw [eh, e, shl_one (s := n) (by omega), shl_one (s := n + 1) (by omega), Int.pow_succ]
  refine ⟨⟨by omega, by omega⟩, w64 (by omega) (by omega), by omega, rfl, by omega, by omega⟩
theorem mod_uniq {x b q r : Int} (h : x = q * b + r) (h0 : 0 ≤ r) (h1 : r < b) : x % b = r := by
  have hb : 0 < b := by omega
  exact ((Int.ediv_emod_unique (q := q) hb).2 ⟨by rw [h, Int.mul_comm]; omega, h0, h1⟩).2
theorem tmod_fix (a n : Int) (hn : 0 < n) (hn2 : n ≤ 1000000000) : Int.tmod (wrap64 (Int.tmod a n + n)) n = a % n := by
  have h0 := Int.emod_nonneg a (show n ≠ 0 by omega)
  have h1 := Int.emod_lt_of_pos a hn
  have e := Int.tmod_eq_emod (a := a) (b := n)
  have hb : Int.tmod a n = a % n ∨ Int.tmod a n = a % n - n := by
    rw [e]
    split
    · left; omega
    · right; omega
  rcases hb with hb | hb
  · rw [hb, w64 (n := a % n + n) (by omega) (by omega), Int.tmod_eq_emod_of_nonneg (by omega)]
    simp
  · rw [hb, Int.sub_add_cancel, w64 (n := a % n) (by omega) (by omega), Int.tmod_eq_emod_of_nonneg (by omega)]
    simp
theorem fitH_bd (h : Int) (w : Bool) (x : Int) (hh : 1 ≤ h) : -h ≤ fitH h w x ∧ fitH h w x ≤ h - 1 := by
  have h0 := Int.emod_nonneg (x + h) (show 2 * h ≠ 0 by omega)
  have h1 := Int.emod_lt_of_pos (x + h) (show 0 < 2 * h by omega)
  unfold fitH
  split
  · omega
  · split
    · omega
    · split <;> omega
theorem fitH_id (h : Int) (w : Bool) (x : Int) (h0 : -h ≤ x) (h1 : x ≤ h - 1) : fitH h w x = x := by
  unfold fitH
  by_cases c : w = true
  · rw [if_pos c, mod_uniq (x := x + h) (b := 2 * h) (q := 0) (r := x + h) (by omega) (by omega) (by omega)]
    omega
  · rw [if_neg c, if_neg (by omega), if_neg (by omega)]
theorem fitH_two (h x : Int) (hh : 1 ≤ h) : fitH h true x = if x % (2 * h) > h - 1 then x % (2 * h) - 2 * h else x % (2 * h) := by
  have h0 := Int.emod_nonneg x (show 2 * h ≠ 0 by omega)
  have h1 := Int.emod_lt_of_pos x (show 0 < 2 * h by omega)
  have hd := mod_eq x (2 * h)
  unfold fitH
  rw [if_pos rfl]
  split
  · rw [mod_uniq (x := x + h) (b := 2 * h) (q := x / (2 * h) + 1) (r := x % (2 * h) - h) (by rw [Int.add_mul]; omega) (by omega) (by omega)]
    omega
  · rw [mod_uniq (x := x + h) (b := 2 * h) (q := x / (2 * h)) (r := x % (2 * h) + h) (by omega) (by omega) (by omega)]
    omega
theorem fit_back (h x y : Int) (h0 : -h ≤ x) (h1 : x ≤ h - 1) : fitH h true (fitH h true (x + y) - y) = x := by
  have hd := mod_eq (x + y + h) (2 * h)
  have e : fitH h true (x + y) - y = x - (x + y + h) / (2 * h) * (2 * h) := by
    unfold fitH
    rw [if_pos rfl]
    omega
  rw [e]
  unfold fitH
  rw [if_pos rfl, mod_uniq (x := x - (x + y + h) / (2 * h) * (2 * h) + h) (b := 2 * h) (q := -((x + y + h) / (2 * h))) (r := x + h) (by rw [Int.neg_mul]; omega) (by omega) (by omega)]
  omega
theorem fit_dvd (h x : Int) : ∃ q, x - fitH h true x = 2 * h * q := by
  have hd := mod_eq (x + h) (2 * h)
  refine ⟨(x + h) / (2 * h), ?_⟩
  unfold fitH
  rw [if_pos rfl, Int.mul_comm (2 * h)]
  omega
def inW (b x : Int) : Bool := decide (-(hf b) ≤ x) && decide (x ≤ hf b - 1)
theorem inW_iff {b x : Int} : inW b x = true ↔ -(hf b) ≤ x ∧ x ≤ hf b - 1 := by simp [inW]
theorem ediv_in {x b M : Int} (hb : 0 < b) (hM : 0 ≤ M) (hx : -M ≤ x ∧ x ≤ M) : -M ≤ x / b ∧ x / b ≤ M := by
  have h1 : (-M) * b ≤ (-M) * 1 := Int.mul_le_mul_of_nonpos_left (by omega) (by omega)
  have h2 : M * 1 ≤ M * b := Int.mul_le_mul_of_nonneg_left (by omega) hM
  exact ⟨Int.le_ediv_of_mul_le hb (by omega), Int.ediv_le_of_le_mul hb (by omega)⟩
theorem shM_in {x b M : Int} (m : Int) (hb : 0 < b) (hM : 0 ≤ M) (hx : -M ≤ x ∧ x ≤ M) : -M ≤ shM x b m ∧ shM x b m ≤ M + 1 := by
  have := ediv_in hb hM hx
  unfold shM
  split
  · omega
  · split <;> omega

theorem impl_isWord_eq (b : Int) (w : Bool) : impl_isWord.f b w = some (goodB b) := by
  unfold impl_isWord.f
  rw [impl_in_eq]
  rfl

theorem spec_wdGood_eq (b : Int) (w : Bool) : spec_wdGood.f b w = some (goodB b) := by
  unfold spec_wdGood.f
  rw [spec_l1In_eq]
  rfl

theorem impl_Word_ends_eq {b : Int} (w : Bool) (g : goodB b = true) : impl_Word_ends.f b w = some (-(hf b), hf b - 1) := by
  obtain ⟨h1, h2, h3, h4, h5, h6⟩ := half g
  unfold impl_Word_ends.f
  rw [h2, if_pos h3, h4, w64 (n := -(hf b)) (by omega) (by omega), w64 (n := hf b - 1) (by omega) (by omega)]

theorem impl_mod_eq (a n : Int) (hn : 0 < n) (hn2 : n ≤ 1000000000) : impl_mod.f a n = some (a % n) := by
  unfold impl_mod.f
  rw [if_neg (by omega), tmod_fix a n hn hn2]
theorem impl_Word_fit_eq {b : Int} (w : Bool) (x : Int) (g : goodB b = true) (hx : -4611686018427387904 ≤ x ∧ x ≤ 4611686018427387904) : impl_Word_fit.f b w x = some (fitH (hf b) w x) := by
  obtain ⟨h1, h2, h3, h4, h5, h6⟩ := half g
  have m0 := Int.emod_nonneg (x + hf b) (show 2 * hf b ≠ 0 by omega)
  have m1 := Int.emod_lt_of_pos (x + hf b) (show 0 < 2 * hf b by omega)
  have e1 : x - -(hf b) = x + hf b := by omega
  have e2 : hf b - 1 - -(hf b) = 2 * hf b - 1 := by omega
  have e3 : 2 * hf b - 1 + 1 = 2 * hf b := by omega
  unfold impl_Word_fit.f fitH
  rw [impl_Word_ends_eq w g]
  simp only [Option.bind_some]
  by_cases c : w = true
  · rw [if_pos c, if_pos c, e1, w64 (n := x + hf b) (by omega) (by omega), e2, w64 (n := 2 * hf b - 1) (by omega) (by omega), e3, w64 (n := 2 * hf b) (by omega) (by omega), impl_mod_eq _ _ (by omega) (by omega)]
    simp only [Option.bind_some]
    rw [w64 (n := (x + hf b) % (2 * hf b) + -(hf b)) (by omega) (by omega)]
    congr 1
  · rw [if_neg c, if_neg c]
    congr 1
    unfold mn mx
    repeat' split
    all_goals omega

theorem spec_wdHigh_eq {b : Int} (w : Bool) (g : goodB b = true) : spec_wdHigh.f b w = some (hf b - 1) := by
  obtain ⟨h1, h2, h3, h4, h5, h6⟩ := half g
  unfold spec_wdHigh.f
  rw [h2, if_pos h3, h4, w64 (n := hf b - 1) (by omega) (by omega)]

theorem spec_wdLow_eq {b : Int} (w : Bool) (g : goodB b = true) : spec_wdLow.f b w = some (-(hf b)) := by
  obtain ⟨h1, h2, h3, h4, h5, h6⟩ := half g
  unfold spec_wdLow.f
  rw [h2, if_pos h3, h4, w64 (n := -(hf b)) (by omega) (by omega)]

theorem spec_wdFit_eq {b : Int} (w : Bool) (x : Int) (g : goodB b = true) : spec_wdFit.f b w x = some (fitH (hf b) w x) := by
  obtain ⟨h1, h2, h3, h4, h5, h6⟩ := half g
  unfold spec_wdFit.f
  by_cases c : w = true
  · have m0 := Int.emod_nonneg x (show 2 * hf b ≠ 0 by omega)
    have m1 := Int.emod_lt_of_pos x (show 0 < 2 * hf b by omega)
    rw [if_pos c, if_pos h5, h6, if_neg (by omega), spec_wdHigh_eq w g, tmod_fix x _ (by omega) (by omega)]
    simp only [Option.bind_some]
    rw [c, fitH_two _ _ (by omega)]
    by_cases d : x % (2 * hf b) > hf b - 1
    · rw [if_pos d, if_pos d, w64 (n := x % (2 * hf b) - 2 * hf b) (by omega) (by omega)]
    · rw [if_neg d, if_neg d]
  · rw [if_neg c, spec_wdHigh_eq w g, spec_wdLow_eq w g]
    simp only [Option.bind_some, spec_l1Most.f, spec_l1Least.f]
    unfold fitH
    rw [if_neg c]
    by_cases d : -(hf b) > x
    · rw [if_pos d]
      simp only [Option.bind_some]
      rw [if_neg (show ¬ hf b - 1 < -(hf b) by omega), if_pos (show x < -(hf b) by omega)]
      rfl
    · rw [if_neg d]
      simp only [Option.bind_some]
      rw [if_neg (show ¬ x < -(hf b) by omega)]
      by_cases e : hf b - 1 < x
      · rw [if_pos e, if_pos e]
        rfl
      · rw [if_neg e, if_neg e]
        rfl

def foOk (a sh m b : Int) : Bool := (((decide (-1024 ≤ a) && decide (a ≤ 1024)) && (decide (0 ≤ sh) && decide (sh ≤ 10))) && (decide (0 ≤ m) && decide (m ≤ 2))) && goodB b
theorem foOk_iff {a sh m b : Int} : foOk a sh m b = true ↔ (-1024 ≤ a ∧ a ≤ 1024) ∧ (0 ≤ sh ∧ sh ≤ 10) ∧ (0 ≤ m ∧ m ≤ 2) ∧ goodB b = true := by
  simp [foOk, and_assoc]
def foRw (a sh m y x : Int) : Int := shM (a * y) (2 ^ sh.toNat) m + x
def foM (a sh m b : Int) (w : Bool) : List Int → Int → List Int
  | [], _ => []
  | x :: t, y => fitH (hf b) w (foRw a sh m y x) :: foM a sh m b w t (fitH (hf b) w (foRw a sh m y x))
theorem foM_length (a sh m b : Int) (w : Bool) : ∀ (l : List Int) (y : Int), (foM a sh m b w l y).length = l.length
  | [], _ => rfl
  | x :: t, y => by simp [foM, foM_length a sh m b w t]
theorem ay_in {a b y : Int} (g : goodB b = true) (ha : -1024 ≤ a ∧ a ≤ 1024) (hy : -(hf b) ≤ y ∧ y ≤ hf b - 1) : -33554432 ≤ a * y ∧ a * y ≤ 33554432 := by
  have h := (half g).1
  have h1 : (a.natAbs * y.natAbs : Nat) ≤ 1024 * 32768 := Nat.mul_le_mul (by omega) (by omega)
  have h2 := Int.natAbs_mul a y
  omega
theorem foRw_in {a sh m b y x : Int} (ok : foOk a sh m b = true) (hy : -(hf b) ≤ y ∧ y ≤ hf b - 1) (hx : -100000 ≤ x ∧ x ≤ 100000) : (-33554432 ≤ shM (a * y) (2 ^ sh.toNat) m ∧ shM (a * y) (2 ^ sh.toNat) m ≤ 33554433) ∧ (-40000000 ≤ foRw a sh m y x ∧ foRw a sh m y x ≤ 40000000) := by
  obtain ⟨h1, h2, h3, h4⟩ := foOk_iff.1 ok
  have := shM_in (M := 33554432) m (pow2_pos sh.toNat) (by omega) (ay_in h4 h1 hy)
  unfold foRw
  omega

theorem spec_foGood_eq (a sh m b : Int) (w : Bool) : spec_foGood.f a sh m b w = some (foOk a sh m b) := by
  unfold spec_foGood.f foOk
  simp only [spec_l1In_eq, spec_wdMode_eq, spec_wdGood_eq, Option.bind_some]
  by_cases c1 : (decide (-1024 ≤ a) && decide (a ≤ 1024)) = true
  · rw [if_pos c1, c1]
    by_cases c2 : (decide (0 ≤ sh) && decide (sh ≤ 10)) = true
    · rw [if_pos c2, c2]
      have c2' : 0 ≤ sh ∧ sh ≤ 10 := by simpa using c2
      by_cases c3 : (decide (0 ≤ m) && decide (m ≤ 2)) = true
      · have c3' : 0 ≤ m ∧ m ≤ 2 := by simpa using c3
        rw [if_pos (modeOk_iff.2 ⟨by omega, c3'⟩), c3]
        rfl
      · rw [if_neg (fun h => c3 (by have := (modeOk_iff.1 h).2; simpa using this)), Bool.eq_false_iff.mpr c3]
        rfl
    · rw [if_neg c2, Bool.eq_false_iff.mpr c2]
      simp
  · rw [if_neg c1, Bool.eq_false_iff.mpr c1]
    simp

theorem impl_isFirst_eq (a sh m b : Int) (w : Bool) : impl_isFirst.f a sh m b w = some (foOk a sh m b) := by
  unfold impl_isFirst.f impl_isFactor.f impl_isScale.f foOk
  simp only [impl_in_eq, impl_isWord_eq, Option.bind_some]
  by_cases c1 : (decide (-1024 ≤ a) && decide (a ≤ 1024)) = true
  · rw [if_pos c1, c1]
    by_cases c2 : (decide (0 ≤ sh) && decide (sh ≤ 10)) = true
    · rw [if_pos c2, c2]
      simp only [Option.bind_some]
      by_cases c3 : (decide (0 ≤ m) && decide (m ≤ 2)) = true
      · rw [if_pos c3, c3]
        rfl
      · rw [if_neg c3, Bool.eq_false_iff.mpr c3]
        rfl
    · rw [if_neg c2, Bool.eq_false_iff.mpr c2]
      simp
  · rw [if_neg c1, Bool.eq_false_iff.mpr c1]
    simp

theorem spec_foRun_l0 (a sh m b : Int) (w : Bool) (ok : foOk a sh m b = true) (l : List Int) (hl : l.length ≤ 1000000) (hb : ∀ x ∈ l, -100000 ≤ x ∧ x ≤ 100000) : ∀ (t p q : List Int) (y c : Int), l = p ++ t → q.length = p.length → -(hf b) ≤ y → y ≤ hf b - 1 →
    ∃ c', Ev (fun k => spec_foRun.l0 k y q c l (l.length : Int) (p.length : Int) a sh m b w) (q ++ foM a sh m b w t y, c')
  | [], p, q, y, c, h, hq, h0, h1 => by
    refine ⟨c, Ev.to (Ev.step (f := fun _ => some (q, c)) (fun k => ?_) (Ev.now _)) (by simp [foM])⟩
    subst h
    simp [spec_foRun.l0]
  | x :: t, p, q, y, c, h, hq, h0, h1 => by
    have e1 : (p.length : Int) < (l.length : Int) := by rw [h]; exact lt_mid p t x
    have e2 : rd l (p.length : Int) = x := by rw [h]; exact rd_mid p t x
    have e3 : wrap64 ((p.length : Int) + 1) = ((p ++ [x]).length : Int) := nx_mid p t x (by rw [← h]; omega)
    have hx := hb x (by rw [h]; simp)
    have hpl : p.length ≤ 1000000 := by rw [h] at hl; simp at hl; omega
    obtain ⟨k1, k2, k3, g⟩ := foOk_iff.1 ok
    have hr := foRw_in ok ⟨h0, h1⟩ hx
    have hay := ay_in g k1 ⟨h0, h1⟩
    have hf1 := fitH_bd (hf b) w (foRw a sh m y x) (by have := (half g).1; omega)
    have hraw : Ev (fun k => spec_foRaw.f k a sh m b w y x) (foRw a sh m y x) := by
      obtain ⟨n, rfl⟩ : ∃ n : Nat, sh = (n : Int) := ⟨sh.toNat, by omega⟩
      rw [Int.toNat_natCast] at hr
      simp only [spec_foRaw.f]
      rw [w64 (n := a * y) (by omega) (by omega)]
      refine Ev.bind (spec_wdShift_ev (a * y) n m (by omega) (by omega)) (Ev.to (Ev.now _) ?_)
      rw [w64 (n := shM (a * y) (2 ^ n) m + x) (by omega) (by omega), foRw, Int.toNat_natCast]
    have hql : q.length < 17592186044416 := by omega
    by_cases d : fitH (hf b) w (foRw a sh m y x) = foRw a sh m y x
    · obtain ⟨c', hc⟩ := spec_foRun_l0 a sh m b w ok l hl hb t (p ++ [x]) (q ++ [fitH (hf b) w (foRw a sh m y x)]) (fitH (hf b) w (foRw a sh m y x)) c (by simp [h]) (by simp [hq]) hf1.1 hf1.2
      refine ⟨c', Ev.to (Ev.step (fun k => by simp only [spec_foRun.l0]; rfl) ?_) (show (q ++ [fitH (hf b) w (foRw a sh m y x)] ++ foM a sh m b w t (fitH (hf b) w (foRw a sh m y x)), c') = _ by simp [foM])⟩
      rw [e2, e3]
      exact Ev.tt e1 (Ev.tt (Int.natCast_nonneg _) (Ev.tt e1 (Ev.bind hraw (Ev.dbind (spec_wdFit_eq w _ g) (Ev.tt d (Ev.tt hql hc))))))
    · obtain ⟨c', hc⟩ := spec_foRun_l0 a sh m b w ok l hl hb t (p ++ [x]) (q ++ [fitH (hf b) w (foRw a sh m y x)]) (fitH (hf b) w (foRw a sh m y x)) (wrap64 (c + 1)) (by simp [h]) (by simp [hq]) hf1.1 hf1.2
      refine ⟨c', Ev.to (Ev.step (fun k => by simp only [spec_foRun.l0]; rfl) ?_) (show (q ++ [fitH (hf b) w (foRw a sh m y x)] ++ foM a sh m b w t (fitH (hf b) w (foRw a sh m y x)), c') = _ by simp [foM])⟩
      rw [e2, e3]
      exact Ev.tt e1 (Ev.tt (Int.natCast_nonneg _) (Ev.tt e1 (Ev.bind hraw (Ev.dbind (spec_wdFit_eq w _ g) (Ev.ff d (Ev.tt hql hc))))))
theorem spec_foRun_ev (a sh m b : Int) (w : Bool) (ok : foOk a sh m b = true) (l : List Int) (hl : l.length ≤ 1000000) (hb : ∀ x ∈ l, -100000 ≤ x ∧ x ≤ 100000) (y : Int) (h0 : -(hf b) ≤ y) (h1 : y ≤ hf b - 1) : ∃ c, Ev (fun k => spec_foRun.f k a sh m b w y l) (foM a sh m b w l y, c) := by
  obtain ⟨c, h⟩ := spec_foRun_l0 a sh m b w ok l hl hb l [] [] y 0 rfl rfl h0 h1
  exact ⟨c, by simpa [spec_foRun.f] using h⟩

theorem impl_First_run_l0 (a sh m b : Int) (w : Bool) (ok : foOk a sh m b = true) (l : List Int) (hl : l.length ≤ 1000000) (hb : ∀ x ∈ l, -100000 ≤ x ∧ x ≤ 100000) : ∀ (t p q : List Int) (y : Int), l = p ++ t → q.length = p.length → -(hf b) ≤ y → y ≤ hf b - 1 →
    Ev (fun k => impl_First_run.l0 k y q l (l.length : Int) (p.length : Int) a sh m b w) (q ++ foM a sh m b w t y)
  | [], p, q, y, h, hq, h0, h1 => by
    refine Ev.to (Ev.step (f := fun _ => some q) (fun k => ?_) (Ev.now _)) (by simp [foM])
    subst h
    simp [impl_First_run.l0]
  | x :: t, p, q, y, h, hq, h0, h1 => by
    have e1 : (p.length : Int) < (l.length : Int) := by rw [h]; exact lt_mid p t x
    have e2 : rd l (p.length : Int) = x := by rw [h]; exact rd_mid p t x
    have e3 : wrap64 ((p.length : Int) + 1) = ((p ++ [x]).length : Int) := nx_mid p t x (by rw [← h]; omega)
    have hx := hb x (by rw [h]; simp)
    have hpl : p.length ≤ 1000000 := by rw [h] at hl; simp at hl; omega
    obtain ⟨k1, k2, k3, g⟩ := foOk_iff.1 ok
    have hr := foRw_in ok ⟨h0, h1⟩ hx
    have hay := ay_in g k1 ⟨h0, h1⟩
    have hf1 := fitH_bd (hf b) w (foRw a sh m y x) (by have := (half g).1; omega)
    have hstep : Ev (fun k => impl_First_step.f k a sh m b w y x) (fitH (hf b) w (foRw a sh m y x)) := by
      have hraw : Ev (fun k => impl_First_raw.f k a sh m b w y x) (foRw a sh m y x) := by
        obtain ⟨n, rfl⟩ : ∃ n : Nat, sh = (n : Int) := ⟨sh.toNat, by omega⟩
        rw [Int.toNat_natCast] at hr
        simp only [impl_First_raw.f]
        rw [w64 (n := a * y) (by omega) (by omega)]
        refine Ev.bind (impl_shifted_ev (a * y) n m (by omega) (by omega)) (Ev.to (Ev.now _) ?_)
        rw [w64 (n := shM (a * y) (2 ^ n) m + x) (by omega) (by omega), foRw, Int.toNat_natCast]
      simp only [impl_First_step.f]
      exact Ev.bind hraw (Ev.dbind (impl_Word_fit_eq w _ g (by omega)) (Ev.now _))
    have hql : q.length < 17592186044416 := by omega
    refine Ev.to (Ev.step (fun k => by simp only [impl_First_run.l0]; rfl) ?_) (show (q ++ [fitH (hf b) w (foRw a sh m y x)]) ++ foM a sh m b w t (fitH (hf b) w (foRw a sh m y x)) = _ by simp [foM])
    rw [e2, e3]
    exact Ev.tt e1 (Ev.tt (Int.natCast_nonneg _) (Ev.tt e1 (Ev.bind hstep (Ev.tt hql (impl_First_run_l0 a sh m b w ok l hl hb t (p ++ [x]) (q ++ [fitH (hf b) w (foRw a sh m y x)]) _ (by simp [h]) (by simp [hq]) hf1.1 hf1.2)))))
theorem impl_First_run_ev (a sh m b : Int) (w : Bool) (ok : foOk a sh m b = true) (l : List Int) (hl : l.length ≤ 1000000) (hb : ∀ x ∈ l, -100000 ≤ x ∧ x ≤ 100000) (y : Int) (h0 : -(hf b) ≤ y) (h1 : y ≤ hf b - 1) : Ev (fun k => impl_First_run.f k a sh m b w y l) (foM a sh m b w l y) := by
  have h := impl_First_run_l0 a sh m b w ok l hl hb l [] [] y rfl rfl h0 h1
  simpa [impl_First_run.f] using h

theorem rdF_mid (p t : List S79) (x : S79) : rd_T79 (p ++ x :: t) (p.length : Int) = x := by simp [rd_T79]

def toFi (p : S83) : S79 := ⟨p.f0, p.f1, p.f2, ⟨p.f3.f0, p.f3.f1⟩⟩
theorem rdL_mid (p t : List S83) (x : S83) : rd_T83 (p ++ x :: t) (p.length : Int) = x := by simp [rd_T83]
theorem laws_toFirst_eq (a b c d : Int) (e : Bool) : laws_toFirst.f a b c d e = some (a, b, c, d, e) := rfl
theorem laws_toFirstS_l0 (l : List S83) (hl : l.length ≤ 1000000000) : ∀ (t p : List S83), l = p ++ t → Ev (fun k => laws_toFirstS.l0 k l (p.map toFi ++ List.replicate t.length z79) (p.length : Int)) (l.map toFi)
  | [], p, h => by
    apply Ev.step (f := fun _ => some (l.map toFi))
    · intro k
      subst h
      simp [laws_toFirstS.l0]
    · exact Ev.now _
  | x :: t, p, h => by
    have e1 : (p.length : Int) < (l.length : Int) := by rw [h]; exact lt_mid p t x
    have e2 : rd_T83 l (p.length : Int) = x := by rw [h]; exact rdL_mid p t x
    have e3 : wrap64 ((p.length : Int) + 1) = ((p ++ [x]).length : Int) := nx_mid p t x (by rw [← h]; omega)
    have e4 : (p.length : Int) < ((p.map toFi ++ List.replicate (x :: t).length z79).length : Int) := by simp; omega
    have e5 : (p.map toFi ++ List.replicate (x :: t).length z79).set (p.length : Int).toNat (⟨x.f0, x.f1, x.f2, (⟨x.f3.f0, x.f3.f1⟩ : S77)⟩ : S79) = (p ++ [x]).map toFi ++ List.replicate t.length z79 := by
      simp [List.replicate_succ, toFi, List.set_append]
    refine Ev.step (fun k => ?_) (laws_toFirstS_l0 l hl t (p ++ [x]) (by simp [h]))
    simp only [laws_toFirstS.l0, if_pos e1, if_pos (Int.natCast_nonneg _), laws_toFirst_eq, Option.bind_some, e2, if_pos e4, e3, e5]
theorem laws_toFirstS_ev (l : List S83) (hl : l.length ≤ 1000000000) : Ev (fun k => laws_toFirstS.f k l) (l.map toFi) := by
  have h := laws_toFirstS_l0 l hl l [] rfl
  simp only [laws_toFirstS.f]
  refine Ev.tt (Int.natCast_nonneg _) (Ev.tt ?_ ?_)
  · simp; omega
  · simpa using h

theorem laws_eqFirst_self (a b c d : Int) (e : Bool) : laws_eqFirst.f a b c d e a b c d e = some true := by
  simp [laws_eqFirst.f, laws_eqWord.f]
theorem laws_eqFirstS_l0 (l : List S79) (hl : l.length ≤ 1000000000) : ∀ (t p : List S79), l = p ++ t → Ev (fun k => laws_eqFirstS.l0 k l l (p.length : Int)) true
  | [], p, h => by
    apply Ev.step (f := fun _ => some true)
    · intro k
      subst h
      simp [laws_eqFirstS.l0]
    · exact Ev.now _
  | x :: t, p, h => by
    have e1 : (p.length : Int) < (l.length : Int) := by rw [h]; exact lt_mid p t x
    have e3 : wrap64 ((p.length : Int) + 1) = ((p ++ [x]).length : Int) := nx_mid p t x (by rw [← h]; omega)
    refine Ev.step (fun k => ?_) (laws_eqFirstS_l0 l hl t (p ++ [x]) (by simp [h]))
    simp only [laws_eqFirstS.l0, if_pos e1, if_pos (Int.natCast_nonneg _), laws_eqFirst_self, Option.bind_some, e3]
    rfl
theorem laws_eqFirstS_self (l : List S79) (hl : l.length ≤ 1000000000) : Ev (fun k => laws_eqFirstS.f k l l) true := by
  simp only [laws_eqFirstS.f]
  exact Ev.tt (by trivial) (laws_eqFirstS_l0 l hl l [] rfl)

theorem laws_szFirstS_eq (l : List S83) (hl : l.length * 40 ≤ 140737488351232) : laws_szFirstS.f l 1048576 = some (if 1048576 < l.length then -1 else 1048576 - (l.length : Int)) := by
  unfold laws_szFirstS.f
  rw [w64 (n := 1048576 - (l.length : Int)) (by omega) (by omega)]
  by_cases c : 1048576 < l.length
  · rw [if_pos (by omega), if_pos c]
  · rw [if_neg (by omega), if_neg c]

def fiOk (p : S79) : Bool := foOk p.f0 p.f1 p.f2 p.f3.f0
def partsOk (l : List S79) : Bool := (decide (1 ≤ (l.length : Int)) && decide ((l.length : Int) ≤ 4)) && l.all fiOk
theorem partsOk_iff {l : List S79} : partsOk l = true ↔ (1 ≤ l.length ∧ l.length ≤ 4) ∧ ∀ p ∈ l, fiOk p = true := by
  simp only [partsOk, Bool.and_eq_true, decide_eq_true_eq, List.all_eq_true]
  constructor
  · rintro ⟨⟨h1, h2⟩, h3⟩; exact ⟨⟨by omega, by omega⟩, h3⟩
  · rintro ⟨⟨h1, h2⟩, h3⟩; exact ⟨⟨by omega, by omega⟩, h3⟩
def fiRun (p : S79) (s : List Int) : List Int := foM p.f0 p.f1 p.f2 p.f3.f0 p.f3.f1 s 0
def chM : List S79 → List Int → List (List Int)
  | [], s => [s]
  | p :: t, s => s :: chM t (fiRun p s)
theorem chM_length : ∀ (l : List S79) (s : List Int), (chM l s).length = l.length + 1
  | [], s => rfl
  | p :: t, s => by simp [chM, chM_length t]
def okS (s : List Int) : Prop := s.length ≤ 64 ∧ ∀ x ∈ s, -100000 ≤ x ∧ x ≤ 100000
theorem sig_okS {s : List Int} (h : sig s = true) : okS s := ⟨sig_len h, sig_mem h⟩
theorem foM_in (a sh m b : Int) (w : Bool) (g : goodB b = true) : ∀ (l : List Int) (y : Int), ∀ x ∈ foM a sh m b w l y, -100000 ≤ x ∧ x ≤ 100000
  | [], y, x, h => by simp [foM] at h
  | z :: t, y, x, h => by
    simp only [foM, List.mem_cons] at h
    rcases h with rfl | h
    · have h1 := (half g).1
      have := fitH_bd (hf b) w (foRw a sh m y z) (by omega)
      omega
    · exact foM_in a sh m b w g t _ x h
theorem okS_run {p : S79} {s : List Int} (ok : fiOk p = true) (h : okS s) : okS (fiRun p s) := ⟨by rw [fiRun, foM_length]; exact h.1, foM_in _ _ _ _ _ (foOk_iff.1 ok).2.2.2 _ _⟩
theorem chM_ok : ∀ (l : List S79) (s : List Int), (∀ p ∈ l, fiOk p = true) → okS s → ∀ z ∈ chM l s, okS z
  | [], s, _, h, z, hz => by
    simp only [chM, List.mem_singleton] at hz
    exact hz ▸ h
  | p :: t, s, hp, h, z, hz => by
    simp only [chM, List.mem_cons] at hz
    rcases hz with rfl | hz
    · exact h
    · exact chM_ok t _ (fun q hq => hp q (by simp [hq])) (okS_run (hp p (by simp)) h) z hz
theorem rdI_end (q : List (List Int)) (s : List Int) : rd_L6 (q ++ [s]) (q.length : Int) = s := by simp [rd_L6]
theorem rdI_mid (p t : List (List Int)) (x : List Int) : rd_L6 (p ++ x :: t) (p.length : Int) = x := by simp [rd_L6]

theorem indexParts_l0 (l : List S79) (hl : l.length ≤ 1000000) : ∀ (t p : List S79), l = p ++ t → ∃ r, Ev (fun k => slices_IndexFunc_impl_First_impl_First_impl_areParts_c1.l0 k l (l.length : Int) (p.length : Int)) r ∧ (decide (r ≥ 0) = !(t.all fiOk))
  | [], p, h => by
    refine ⟨-1, Ev.step (f := fun _ => some (-1)) ?_ (Ev.now _), by simp⟩
    intro k
    subst h
    simp [slices_IndexFunc_impl_First_impl_First_impl_areParts_c1.l0]
  | x :: t, p, h => by
    have e1 : (p.length : Int) < (l.length : Int) := by rw [h]; exact lt_mid p t x
    have e2 : rd_T79 l (p.length : Int) = x := by rw [h]; exact rdF_mid p t x
    have e3 : wrap64 ((p.length : Int) + 1) = ((p ++ [x]).length : Int) := nx_mid p t x (by rw [← h]; omega)
    have e4 : impl_areParts_c1.f x.f0 x.f1 x.f2 x.f3.f0 x.f3.f1 = some (!(fiOk x)) := by
      unfold impl_areParts_c1.f
      rw [impl_isFirst_eq]
      rfl
    by_cases c : fiOk x = true
    · obtain ⟨r, h1, h2⟩ := indexParts_l0 l hl t (p ++ [x]) (by simp [h])
      refine ⟨r, Ev.step (fun k => ?_) h1, by rw [h2, List.all_cons, c, Bool.true_and]⟩
      simp only [slices_IndexFunc_impl_First_impl_First_impl_areParts_c1.l0, if_pos e1, if_pos (Int.natCast_nonneg _), e2, e3, e4, c, Option.bind_some, Bool.not_true]
      rfl
    · have c := Bool.eq_false_iff.mpr c
      refine ⟨(p.length : Int), Ev.step (fun k => ?_) (Ev.now _), by rw [List.all_cons, c]; simp⟩
      simp only [slices_IndexFunc_impl_First_impl_First_impl_areParts_c1.l0, if_pos e1, if_pos (Int.natCast_nonneg _), e2, e3, e4, c, Option.bind_some, Bool.not_false]
      rfl
theorem impl_areParts_ev (l : List S79) (hl : l.length ≤ 10000000) : Ev (fun k => impl_areParts.f k l) (partsOk l) := by
  simp only [impl_areParts.f, impl_in_eq, Option.bind_some]
  by_cases c : (decide (1 ≤ (l.length : Int)) && decide ((l.length : Int) ≤ 4)) = true
  · have c' : 1 ≤ (l.length : Int) ∧ (l.length : Int) ≤ 4 := by simpa only [Bool.and_eq_true, decide_eq_true_eq] using c
    obtain ⟨r, h1, h2⟩ := indexParts_l0 l (by omega) l [] rfl
    refine Ev.tt c (Ev.bind (a := decide (r ≥ 0)) ?_ (Ev.to (Ev.now _) ?_))
    · simp only [slices_ContainsFunc_impl_First_impl_First_impl_areParts_c1.f, slices_IndexFunc_impl_First_impl_First_impl_areParts_c1.f]
      exact Ev.bind h1 (Ev.now _)
    · rw [h2, partsOk, c, Bool.not_not, Bool.true_and]
  · refine Ev.ff c (Ev.to (Ev.now _) ?_)
    rw [partsOk, Bool.eq_false_iff.mpr c, Bool.false_and]

theorem spec_chGood_l0 (l : List S79) (hl : l.length ≤ 1000000) : ∀ (t p : List S79), l = p ++ t → Ev (fun k => spec_chGood.l0 k l (l.length : Int) (p.length : Int)) (t.all fiOk)
  | [], p, h => by
    apply Ev.step (f := fun _ => some true)
    · intro k
      subst h
      simp [spec_chGood.l0]
    · exact Ev.now _
  | x :: t, p, h => by
    have e1 : (p.length : Int) < (l.length : Int) := by rw [h]; exact lt_mid p t x
    have e2 : rd_T79 l (p.length : Int) = x := by rw [h]; exact rdF_mid p t x
    have e3 : wrap64 ((p.length : Int) + 1) = ((p ++ [x]).length : Int) := nx_mid p t x (by rw [← h]; omega)
    have e4 : spec_foGood.f x.f0 x.f1 x.f2 x.f3.f0 x.f3.f1 = some (fiOk x) := spec_foGood_eq _ _ _ _ _
    by_cases c : fiOk x = true
    · refine Ev.to (Ev.step (fun k => ?_) (spec_chGood_l0 l hl t (p ++ [x]) (by simp [h]))) (by rw [List.all_cons, c, Bool.true_and])
      simp only [spec_chGood.l0, if_pos e1, if_pos (Int.natCast_nonneg _), e2, e3, e4, c, Option.bind_some]
      rfl
    · refine Ev.to (Ev.step (fun k => ?_) (Ev.now false)) (by rw [List.all_cons, Bool.eq_false_iff.mpr c, Bool.false_and])
      simp only [spec_chGood.l0, if_pos e1, if_pos (Int.natCast_nonneg _), e2, e3, e4, Bool.eq_false_iff.mpr c, Option.bind_some]
      rfl
theorem spec_chGood_ev (l : List S79) (hl : l.length ≤ 10000000) : Ev (fun k => spec_chGood.f k l) (partsOk l) := by
  simp only [spec_chGood.f, spec_l1In_eq, Option.bind_some]
  by_cases c : (decide (1 ≤ (l.length : Int)) && decide ((l.length : Int) ≤ 4)) = true
  · have c' : 1 ≤ (l.length : Int) ∧ (l.length : Int) ≤ 4 := by simpa only [Bool.and_eq_true, decide_eq_true_eq] using c
    refine Ev.tt c (Ev.to (spec_chGood_l0 l (by omega) l [] rfl) (by rw [partsOk, c, Bool.true_and]))
  · refine Ev.ff c (Ev.to (Ev.now _) ?_)
    rw [partsOk, Bool.eq_false_iff.mpr c, Bool.false_and]

theorem spec_chAsked_ev (l : List S79) (s : List Int) (hl : l.length ≤ 10000000) (hs : s.length ≤ 10000000) : Ev (fun k => spec_chAsked.f k l s) (partsOk l && sig s) := by
  simp only [spec_chAsked.f]
  refine Ev.bind (spec_chGood_ev l hl) ?_
  by_cases c : partsOk l = true
  · exact Ev.tt c (Ev.bind (spec_wdSignal_ev s (by omega)) (Ev.to (Ev.now _) (by rw [c, Bool.true_and])))
  · exact Ev.ff c (Ev.to (Ev.now _) (by rw [Bool.eq_false_iff.mpr c, Bool.false_and]))

theorem impl_chain_l0 (l : List S79) (hl : l.length ≤ 1000) : ∀ (t p : List S79) (q : List (List Int)) (s : List Int), l = p ++ t → q.length = p.length → (∀ x ∈ t, fiOk x = true) → okS s →
    Ev (fun k => impl_chain.l0 k (q ++ [s]) l (l.length : Int) (p.length : Int)) (q ++ chM t s)
  | [], p, q, s, h, hq, ok, hs => by
    apply Ev.step (f := fun _ => some (q ++ [s]))
    · intro k
      subst h
      simp [impl_chain.l0]
    · exact Ev.now _
  | x :: t, p, q, s, h, hq, ok, hs => by
    have e1 : (p.length : Int) < (l.length : Int) := by rw [h]; exact lt_mid p t x
    have e2 : rd_T79 l (p.length : Int) = x := by rw [h]; exact rdF_mid p t x
    have e3 : wrap64 ((p.length : Int) + 1) = ((p ++ [x]).length : Int) := nx_mid p t x (by rw [← h]; omega)
    have e4 : (p.length : Int) < ((q ++ [s]).length : Int) := by simp; omega
    have e5 : rd_L6 (q ++ [s]) (p.length : Int) = s := by rw [← hq]; exact rdI_end q s
    have e6 : (q ++ [s]).length < 5864062014805 := by rw [h] at hl; simp at hl ⊢; omega
    have okx := ok x (by simp)
    have g := (half (foOk_iff.1 okx).2.2.2).1
    have hr := impl_First_run_ev x.f0 x.f1 x.f2 x.f3.f0 x.f3.f1 okx s (by have := hs.1; omega) hs.2 0 (by omega) (by omega)
    have ih := impl_chain_l0 l hl t (p ++ [x]) (q ++ [s]) (fiRun x s) (by simp [h]) (by simp [hq]) (fun y hy => ok y (by simp [hy])) (okS_run okx hs)
    refine Ev.to (Ev.step (fun k => by simp only [impl_chain.l0]; rfl) ?_) (show (q ++ [s]) ++ chM t (fiRun x s) = _ by simp [chM])
    rw [e2, e3, e5]
    exact Ev.tt e1 (Ev.tt (Int.natCast_nonneg _) (Ev.tt e1 (Ev.tt e4 (Ev.bind hr (Ev.tt e6 ih)))))
theorem impl_chain_ev (l : List S79) (s : List Int) (ok : partsOk l = true) (hs : okS s) : Ev (fun k => impl_chain.f k l s) (chM l s) := by
  obtain ⟨h1, h2⟩ := partsOk_iff.1 ok
  have h := impl_chain_l0 l (by omega) l [] [] s rfl rfl h2 hs
  simp only [impl_chain.f]
  have e : slices_Clone_int_int.f s = some s := by
    have := hs.1
    simp only [slices_Clone_int_int.f, Option.bind_some, List.nil_append, List.length_nil]
    rw [if_pos (by omega)]
  exact Ev.dbind e (by simpa using h)

theorem spec_chAll_l0 (l : List S79) (hl : l.length ≤ 1000) : ∀ (t p : List S79) (q : List (List Int)) (s : List Int), l = p ++ t → q.length = p.length → (∀ x ∈ t, fiOk x = true) → okS s →
    Ev (fun k => spec_chAll.l0 k (q ++ [s]) l (l.length : Int) (p.length : Int)) (q ++ chM t s)
  | [], p, q, s, h, hq, ok, hs => by
    apply Ev.step (f := fun _ => some (q ++ [s]))
    · intro k
      subst h
      simp [spec_chAll.l0]
    · exact Ev.now _
  | x :: t, p, q, s, h, hq, ok, hs => by
    have e1 : (p.length : Int) < (l.length : Int) := by rw [h]; exact lt_mid p t x
    have e2 : rd_T79 l (p.length : Int) = x := by rw [h]; exact rdF_mid p t x
    have e3 : wrap64 ((p.length : Int) + 1) = ((p ++ [x]).length : Int) := nx_mid p t x (by rw [← h]; omega)
    have pl : p.length ≤ 1000 := by rw [h] at hl; simp at hl; omega
    have e4 : wrap64 (((q ++ [s]).length : Int) - 1) = (q.length : Int) := by
      rw [w64 (n := ((q ++ [s]).length : Int) - 1) (by simp only [List.length_append, List.length_singleton]; omega) (by simp only [List.length_append, List.length_singleton]; omega)]
      simp
    have e5 : rd_L6 (q ++ [s]) (q.length : Int) = s := rdI_end q s
    have e6 : (q ++ [s]).length < 5864062014805 := by simp; omega
    have e7 : (q.length : Int) < ((q ++ [s]).length : Int) := by simp only [List.length_append, List.length_singleton]; omega
    have okx := ok x (by simp)
    have g := (half (foOk_iff.1 okx).2.2.2).1
    obtain ⟨c, hr⟩ := spec_foRun_ev x.f0 x.f1 x.f2 x.f3.f0 x.f3.f1 okx s (by have := hs.1; omega) hs.2 0 (by omega) (by omega)
    have ih := spec_chAll_l0 l hl t (p ++ [x]) (q ++ [s]) (fiRun x s) (by simp [h]) (by simp [hq]) (fun y hy => ok y (by simp [hy])) (okS_run okx hs)
    refine Ev.to (Ev.step (fun k => by simp only [spec_chAll.l0]; rfl) ?_) (show (q ++ [s]) ++ chM t (fiRun x s) = _ by simp [chM])
    rw [e2, e3, e4, e5]
    exact Ev.tt e1 (Ev.tt (Int.natCast_nonneg _) (Ev.tt e1 (Ev.tt (Int.natCast_nonneg _) (Ev.tt e7 (Ev.bind hr (Ev.tt e6 ih))))))
theorem spec_chAll_ev (l : List S79) (s : List Int) (ok : partsOk l = true) (hs : okS s) : Ev (fun k => spec_chAll.f k l s) (chM l s) := by
  obtain ⟨h1, h2⟩ := partsOk_iff.1 ok
  have h := spec_chAll_l0 l (by omega) l [] [] s rfl rfl h2 hs
  simp only [spec_chAll.f]
  have e : spec_l1Own.f s = some s := by
    have := hs.1
    simp only [spec_l1Own.f, Option.bind_some, List.nil_append, List.length_nil]
    rw [if_pos (by omega)]
  exact Ev.dbind e (by simpa using h)

def outM : List S79 → List Int → List Int
  | [], s => s
  | p :: t, s => outM t (fiRun p s)
theorem chM_getD : ∀ (l : List S79) (s : List Int), (chM l s).getD l.length [] = outM l s
  | [], s => rfl
  | p :: t, s => by
    rw [chM, outM, ← chM_getD t]
    simp
theorem chM_last (l : List S79) (s : List Int) : rd_L6 (chM l s) (l.length : Int) = outM l s := by
  rw [← chM_getD, rd_L6, Int.toNat_natCast]
theorem outM_ok : ∀ (l : List S79) (s : List Int), (∀ p ∈ l, fiOk p = true) → okS s → okS (outM l s)
  | [], s, _, h => h
  | p :: t, s, hp, h => outM_ok t _ (fun q hq => hp q (by simp [hq])) (okS_run (hp p (by simp)) h)

theorem impl_output_ev (l : List S79) (s : List Int) (ok : partsOk l = true) (hs : okS s) : Ev (fun k => impl_output.f k l s) (outM l s) := by
  simp only [impl_output.f]
  refine Ev.bind (impl_chain_ev l s ok hs) (Ev.tt (Int.natCast_nonneg _) (Ev.tt (by rw [chM_length]; omega) ?_))
  exact Ev.to (Ev.now _) (chM_last l s)

theorem spec_chRun_ev (l : List S79) (s : List Int) (ok : partsOk l = true) (hs : okS s) : Ev (fun k => spec_chRun.f k l s) (outM l s) := by
  have h2 := (partsOk_iff.1 ok).1
  have e : wrap64 (((chM l s).length : Int) - 1) = (l.length : Int) := by
    rw [chM_length, w64 (n := (((l.length + 1 : Nat) : Int)) - 1) (by omega) (by omega)]
    omega
  simp only [spec_chRun.f]
  refine Ev.bind (spec_chAll_ev l s ok hs) ?_
  rw [e]
  refine Ev.tt (Int.natCast_nonneg _) (Ev.tt (by rw [chM_length]; omega) ?_)
  exact Ev.to (Ev.now _) (chM_last l s)

theorem spec_l1Own_eq (l : List Int) (hl : l.length ≤ 1000000) : spec_l1Own.f l = some l := by
  simp only [spec_l1Own.f, Option.bind_some]
  rw [if_pos (by simp; omega)]
  rfl

theorem sClone_eq (l : List Int) (hl : l.length ≤ 1000000) : slices_Clone_int_int.f l = some l := by
  unfold slices_Clone_int_int.f
  simp only [Option.bind_some, List.length_nil, List.nil_append, Nat.zero_add]
  rw [if_pos (by omega)]

/-- a numeral's value -/
def valD (l : List UInt8) : Nat := l.foldl (fun a b => 10 * a + (b.toNat - 48)) 0
theorem dd_all : ∀ (u : Nat), (Go.Lib.decDigits u ≠ [] ∧ ∀ b ∈ Go.Lib.decDigits u, 48 ≤ b.toNat ∧ b.toNat ≤ 57) ∧ valD (Go.Lib.decDigits u) = u := by
  intro u
  induction u using Nat.strongRecOn with
  | ind u ih =>
    rw [Go.Lib.decDigits]
    by_cases h : u < 10
    · rw [dif_pos h]
      have e : (UInt8.ofNat (48 + u)).toNat = 48 + u := by
        rw [UInt8.toNat_ofNat']
        omega
      refine ⟨⟨by simp, fun b hb => ?_⟩, ?_⟩
      · obtain rfl : b = UInt8.ofNat (48 + u) := by simpa using hb
        omega
      · simp only [valD, List.foldl_cons, List.foldl_nil]
        omega
    · rw [dif_neg h]
      obtain ⟨⟨h1, h2⟩, h3⟩ := ih (u / 10) (by omega)
      have e : (UInt8.ofNat (48 + u % 10)).toNat = 48 + u % 10 := by
        rw [UInt8.toNat_ofNat']
        omega
      refine ⟨⟨by simp, fun b hb => ?_⟩, ?_⟩
      · rcases List.mem_append.1 hb with hb | hb
        · exact h2 b hb
        · obtain rfl : b = UInt8.ofNat (48 + u % 10) := by simpa using hb
          omega
      · unfold valD at h3 ⊢
        rw [List.foldl_append, h3]
        simp only [List.foldl_cons, List.foldl_nil]
        omega
theorem dd_len : ∀ (k u : Nat), u < 10 ^ (k + 1) → (Go.Lib.decDigits u).length ≤ k + 1
  | 0, u, h => by
    rw [Go.Lib.decDigits, dif_pos (by omega)]
    simp
  | k + 1, u, h => by
    rw [Go.Lib.decDigits]
    split
    · simp
    · have h2 : u / 10 < 10 ^ (k + 1) := Nat.div_lt_of_lt_mul (by rw [Nat.mul_comm, ← Nat.pow_succ]; exact h)
      have := dd_len k (u / 10) h2
      rw [List.length_append, List.length_singleton]
      omega
theorem itoa_len6 {n : Int} (h : -100000 ≤ n ∧ n ≤ 100000) : (Go.Lib.itoa n).length ≤ 21 := by
  have h1 := dd_len 5 n.natAbs (by omega)
  have h2 := dd_len 5 n.toNat (by omega)
  unfold Go.Lib.itoa
  split
  · rw [List.length_cons]; omega
  · omega
theorem itoa_all (n : Int) : Go.Lib.itoa n ≠ [] ∧ Go.Lib.itoa n ≠ [45] ∧ ∀ b ∈ Go.Lib.itoa n, b ≠ 44 := by
  have hd : ∀ u, ∀ b ∈ Go.Lib.decDigits u, b ≠ 44 ∧ b ≠ 45 := fun u b hb => by
    have h := (dd_all u).1.2 b hb
    constructor
    · rintro rfl
      exact absurd h.1 (by decide)
    · rintro rfl
      exact absurd h.1 (by decide)
  unfold Go.Lib.itoa
  by_cases h : n < 0
  · rw [if_pos h]
    refine ⟨by simp, fun e => (dd_all n.natAbs).1.1 (by simpa using e), fun b hb => ?_⟩
    rcases List.mem_cons.1 hb with rfl | hb
    · decide
    · exact (hd _ b hb).1
  · rw [if_neg h]
    refine ⟨(dd_all n.toNat).1.1, fun e => ?_, fun b hb => (hd _ b hb).1⟩
    exact (hd n.toNat 45 (by rw [e]; simp)).2 rfl
theorem itoa_inj {n m : Int} (h : Go.Lib.itoa n = Go.Lib.itoa m) : n = m := by
  have hd : ∀ u, ∀ b ∈ Go.Lib.decDigits u, b ≠ 45 := fun u b hb => by
    have h := (dd_all u).1.2 b hb
    rintro rfl
    exact absurd h.1 (by decide)
  have hv : ∀ u v, Go.Lib.decDigits u = Go.Lib.decDigits v → u = v := fun u v e => by
    rw [← (dd_all u).2, ← (dd_all v).2, e]
  unfold Go.Lib.itoa at h
  by_cases h1 : n < 0
  · rw [if_pos h1] at h
    by_cases h2 : m < 0
    · rw [if_pos h2] at h
      have := hv _ _ (List.cons.inj h).2
      omega
    · rw [if_neg h2] at h
      exact absurd rfl (hd m.toNat 45 (by rw [← h]; simp))
  · rw [if_neg h1] at h
    by_cases h2 : m < 0
    · rw [if_pos h2] at h
      exact absurd rfl (hd n.toNat 45 (by rw [h]; simp))
    · rw [if_neg h2] at h
      have := hv _ _ h
      omega
theorem cut_inj {c : UInt8} : ∀ {x y r s : List UInt8}, c ∉ x → c ∉ y → x ++ c :: r = y ++ c :: s → x = y ∧ r = s
  | [], [], r, s, _, _, h => ⟨rfl, (List.cons.inj h).2⟩
  | [], b :: y, r, s, _, hy, h => absurd (List.cons.inj h).1 (fun e => hy (by simp [e]))
  | a :: x, [], r, s, hx, _, h => absurd (List.cons.inj h).1 (fun e => hx (by simp [e]))
  | a :: x, b :: y, r, s, hx, hy, h => by
    obtain ⟨h1, h2⟩ := List.cons.inj h
    obtain ⟨e1, e2⟩ := cut_inj (x := x) (y := y) (fun e => hx (by simp [e])) (fun e => hy (by simp [e])) h2
    exact ⟨by rw [h1, e1], e2⟩
theorem join_inj {c : UInt8} : ∀ {xs ys : List (List UInt8)} {x y : List UInt8}, (∀ z ∈ x :: xs, c ∉ z) → (∀ z ∈ y :: ys, c ∉ z) → Go.Lib.join (x :: xs) [c] = Go.Lib.join (y :: ys) [c] → x :: xs = y :: ys := by
  have step : ∀ (a b : List UInt8) (t : List (List UInt8)), Go.Lib.join (a :: b :: t) [c] = a ++ c :: Go.Lib.join (b :: t) [c] := fun a b t => by
    rw [Go.Lib.join_cons, Go.Lib.join_cons]
    simp [Go.Lib.joinTail]
  have one : ∀ (a : List UInt8), Go.Lib.join [a] [c] = a := fun a => Go.Lib.join_one a _
  intro xs
  induction xs with
  | nil =>
    intro ys x y hx hy h
    cases ys with
    | nil => rw [one, one] at h; rw [h]
    | cons b t =>
      rw [one, step] at h
      exact absurd (show c ∈ x by rw [h]; simp) (hx x (by simp))
  | cons a t ih =>
    intro ys x y hx hy h
    cases ys with
    | nil =>
      rw [one, step] at h
      exact absurd (show c ∈ y by rw [← h]; simp) (hy y (by simp))
    | cons b u =>
      rw [step, step] at h
      obtain ⟨e1, e2⟩ := cut_inj (hx x (by simp)) (hy y (by simp)) h
      rw [e1, ih (fun z hz => hx z (List.mem_cons_of_mem _ hz)) (fun z hz => hy z (List.mem_cons_of_mem _ hz)) e2]
/-- the text of a list -/
def txtL (l : List Int) : List UInt8 := if l = [] then [45] else Go.Lib.join (l.map Go.Lib.itoa) [44]
theorem txtL_inj {l m : List Int} (h : txtL l = txtL m) : l = m := by
  have hn : ∀ (x : Int) (t : List Int), Go.Lib.join ((x :: t).map Go.Lib.itoa) [44] ≠ [45] := fun x t e => by
    cases t with
    | nil =>
      rw [List.map_cons, List.map_nil, Go.Lib.join_one] at e
      exact (itoa_all x).2.1 e
    | cons y t =>
      have : (44 : UInt8) ∈ [(45 : UInt8)] := by
        rw [← e, List.map_cons, List.map_cons, Go.Lib.join_cons]
        simp [Go.Lib.joinTail]
      exact absurd this (by decide)
  have hc : ∀ (l : List Int), ∀ z ∈ l.map Go.Lib.itoa, (44 : UInt8) ∉ z := fun l z hz => by
    obtain ⟨x, -, rfl⟩ := List.mem_map.1 hz
    exact fun e => (itoa_all x).2.2 44 e rfl
  unfold txtL at h
  cases l with
  | nil =>
    cases m with
    | nil => rfl
    | cons y t => rw [if_pos rfl, if_neg (by simp)] at h; exact absurd h.symm (hn y t)
  | cons x s =>
    cases m with
    | nil => rw [if_neg (by simp), if_pos rfl] at h; exact absurd h (hn x s)
    | cons y t =>
      rw [if_neg (by simp), if_neg (by simp)] at h
      have := join_inj (hc (x :: s)) (hc (y :: t)) h
      exact List.map_inj_right (fun _ _ e => itoa_inj e) |>.1 this

theorem co_index_l0 (l : List Int) (hl : l.length ≤ 1000000) (y : Int) : ∀ (t p : List Int), l = p ++ t → ∃ r, Ev (fun k => slices_Index_int_int.l0 k l y (l.length : Int) (p.length : Int)) r ∧ (decide (r ≥ 0) = decide (y ∈ t))
  | [], p, h => by
    refine ⟨-1, Ev.step (fun k => by simp only [slices_Index_int_int.l0]; rfl) (Ev.ff (by rw [h]; simp) (Ev.now _)), by simp⟩
  | z :: t, p, h => by
    have e1 : (p.length : Int) < (l.length : Int) := by rw [h]; exact lt_mid p t z
    have e2 : rd l (p.length : Int) = z := by rw [h]; exact rd_mid p t z
    have e3 : wrap64 ((p.length : Int) + 1) = ((p ++ [z]).length : Int) := nx_mid p t z (by rw [← h]; omega)
    by_cases c : y = z
    · refine ⟨(p.length : Int), Ev.step (fun k => by simp only [slices_Index_int_int.l0, e2]; rfl) (Ev.tt e1 (Ev.tt (Int.natCast_nonneg _) (Ev.tt e1 (Ev.tt c (Ev.now _))))), by rw [c]; simp⟩
    · obtain ⟨r, h1, h2⟩ := co_index_l0 l hl y t (p ++ [z]) (by rw [h]; simp)
      refine ⟨r, Ev.step (fun k => by simp only [slices_Index_int_int.l0, e2, e3]; rfl) (Ev.tt e1 (Ev.tt (Int.natCast_nonneg _) (Ev.tt e1 (Ev.ff c h1)))), by rw [h2]; simp [c]⟩
theorem co_contains (l : List Int) (hl : l.length ≤ 1000000) (y : Int) : Ev (fun k => slices_Contains_int_int.f k l y) (decide (y ∈ l)) := by
  obtain ⟨r, h1, h2⟩ := co_index_l0 l hl y l [] rfl
  simp only [slices_Contains_int_int.f, slices_Index_int_int.f]
  rw [← h2]
  exact Ev.bind h1 (Ev.now _)

theorem co_has_l0 (l : List Int) (hl : l.length ≤ 1000000) (y : Int) : ∀ (t p : List Int), l = p ++ t → Ev (fun k => spec_l1Has.l0 k y l (l.length : Int) (p.length : Int)) (decide (y ∈ t))
  | [], p, h => by
    refine Ev.to (Ev.step (fun k => by simp only [spec_l1Has.l0]; rfl) (Ev.ff (by rw [h]; simp) (Ev.now _))) (by simp)
  | z :: t, p, h => by
    have e1 : (p.length : Int) < (l.length : Int) := by rw [h]; exact lt_mid p t z
    have e2 : rd l (p.length : Int) = z := by rw [h]; exact rd_mid p t z
    have e3 : wrap64 ((p.length : Int) + 1) = ((p ++ [z]).length : Int) := nx_mid p t z (by rw [← h]; omega)
    refine Ev.step (fun k => by simp only [spec_l1Has.l0, e2, e3]; rfl) (Ev.tt e1 (Ev.tt (Int.natCast_nonneg _) (Ev.tt e1 ?_)))
    by_cases c : z = y
    · exact Ev.tt c (Ev.to (Ev.now _) (by rw [c]; simp))
    · exact Ev.ff c (Ev.to (co_has_l0 l hl y t (p ++ [z]) (by rw [h]; simp)) (by simp [show ¬ y = z from fun e => c e.symm]))
theorem co_has (l : List Int) (hl : l.length ≤ 1000000) (y : Int) : Ev (fun k => spec_l1Has.f k l y) (decide (y ∈ l)) := by
  simp only [spec_l1Has.f]
  exact co_has_l0 l hl y l [] rfl

/-- the orders that an order is made longer to -/
def extO (o : List Int) : Nat → Int → List (List Int)
  | 0, _ => []
  | d + 1, i => (if i ∈ o then [] else [o ++ [i]]) ++ extO o d (i + 1)
theorem extO_len (o : List Int) : ∀ (d : Nat) (i : Int), (extO o d i).length ≤ d
  | 0, _ => Nat.le_refl _
  | d + 1, i => by
    have ih := extO_len o d (i + 1)
    simp only [extO, List.length_append]
    split <;> simp <;> omega
def rndO (n : Nat) (L : List (List Int)) : List (List Int) := L.flatMap fun o => extO o n 0
def ordO (n : Nat) : Nat → List (List Int)
  | 0 => [[]]
  | r + 1 => rndO n (ordO n r)
theorem ordO_all : ∀ n, n < 5 → ∀ r, r ≤ n → (ordO n r).length ≤ 24 ∧ ordO n r ≠ [] ∧ ∀ o ∈ ordO n r, o.length = r ∧ ∀ k ∈ o, 0 ≤ k ∧ k < (n : Int) := by decide +kernel
theorem co_rdm (p t : List (List Int)) (z : List Int) : rd_L6 (p ++ z :: t) (p.length : Int) = z := by simp [rd_L6]

theorem impl_orders_l2 (n : Nat) (hn : n ≤ 4) (L : List (List Int)) (o : List Int) (ho : o.length ≤ 10) (a b Ll i : Int) {R : List (List Int)} : ∀ (d : Nat) (j : Int) (acc : List (List Int)), 0 ≤ j → j + d = n → acc.length + d ≤ 1000 → Ev (fun k => impl_orders.l1 k (n : Int) (acc ++ extO o d j) a b L Ll (wrap64 (i + 1))) R → Ev (fun k => impl_orders.l2 k (n : Int) acc o a b L Ll i (n : Int) j) R
  | 0, j, acc, h0, h1, h2, hk => by
    refine Ev.step (fun k => by simp only [impl_orders.l2]; rfl) (Ev.ff (by omega) ?_)
    simpa [extO] using hk
  | d + 1, j, acc, h0, h1, h2, hk => by
    have e1 : wrap64 (j + 1) = j + 1 := w64 (by omega) (by omega)
    refine Ev.step (fun k => by simp only [impl_orders.l2, slices_Clone_int_int.f, Option.bind_some, List.nil_append, List.length_nil, Nat.zero_add, e1]; rfl) (Ev.tt (by omega) (Ev.bind (co_contains o (by omega) j) ?_))
    by_cases c : j ∈ o
    · refine Ev.tt (decide_eq_true c) (impl_orders_l2 n hn L o ho a b Ll i d (j + 1) acc (by omega) (by omega) (by omega) ?_)
      simpa [extO, c] using hk
    · have g1 : o.length < 17592186044416 := by omega
      have g2 : acc.length < 5864062014805 := by omega
      simp only [if_pos g1, Option.bind_some]
      refine Ev.ff (by simpa using c) ?_
      refine Ev.tt g2 (impl_orders_l2 n hn L o ho a b Ll i d (j + 1) (acc ++ [o ++ [j]]) (by omega) (by omega) (by simp; omega) ?_)
      simpa [extO, c] using hk
theorem impl_orders_l1 (n : Nat) (hn : n ≤ 4) (L : List (List Int)) (hL : L.length ≤ 24) (ho : ∀ o ∈ L, o.length ≤ 10) (a b : Int) {R : List (List Int)} : ∀ (t p acc : List (List Int)), L = p ++ t → acc.length + 4 * t.length ≤ 900 → Ev (fun k => impl_orders.l0 k (n : Int) (acc ++ rndO n t) a (wrap64 (b + 1))) R → Ev (fun k => impl_orders.l1 k (n : Int) acc a b L (L.length : Int) (p.length : Int)) R
  | [], p, acc, h, hs, hk => by
    refine Ev.step (fun k => by simp only [impl_orders.l1]; rfl) (Ev.ff (by rw [h]; simp) ?_)
    simpa [rndO] using hk
  | o :: t, p, acc, h, hs, hk => by
    have e1 : (p.length : Int) < (L.length : Int) := by rw [h]; exact lt_mid p t o
    have e2 : rd_L6 L (p.length : Int) = o := by rw [h]; exact co_rdm p t o
    have e3 : wrap64 ((p.length : Int) + 1) = ((p ++ [o]).length : Int) := nx_mid p t o (by rw [← h]; omega)
    have hx := extO_len o n 0
    rw [List.length_cons] at hs
    have ih := impl_orders_l1 n hn L hL ho a b t (p ++ [o]) (acc ++ extO o n 0) (by rw [h]; simp) (by rw [List.length_append]; omega) (by simpa [rndO] using hk)
    rw [← e3] at ih
    refine Ev.step (fun k => by simp only [impl_orders.l1, e2]; rfl) (Ev.tt e1 (Ev.tt (Int.natCast_nonneg _) (Ev.tt e1 ?_)))
    exact impl_orders_l2 n hn L o (ho o (by rw [h]; simp)) a b (L.length : Int) (p.length : Int) n 0 acc (Int.le_refl _) (by omega) (by omega) ih
theorem impl_orders_l0 (n : Nat) (hn : n ≤ 4) : ∀ (d r : Nat), r + d = n → Ev (fun k => impl_orders.l0 k (n : Int) (ordO n r) (n : Int) (r : Int)) (ordO n n)
  | 0, r, h => by
    obtain rfl : r = n := by omega
    exact Ev.step (fun k => by simp only [impl_orders.l0]; rfl) (Ev.ff (by omega) (Ev.now _))
  | d + 1, r, h => by
    obtain ⟨h1, h2, h3⟩ := ordO_all n (by omega) r (by omega)
    have e1 : wrap64 ((r : Int) + 1) = ((r + 1 : Nat) : Int) := by rw [w64 (n := (r : Int) + 1) (by omega) (by omega)]; omega
    have ih := impl_orders_l0 n hn d (r + 1) (by omega)
    rw [← e1] at ih
    refine Ev.step (fun k => by simp only [impl_orders.l0]; rfl) (Ev.tt (by omega) ?_)
    exact impl_orders_l1 n hn (ordO n r) h1 (fun o ho => by have := (h3 o ho).1; omega) (n : Int) (r : Int) (ordO n r) [] [] rfl (by simp; omega) ih
theorem impl_orders_ev (n : Nat) (hn : n ≤ 4) : Ev (fun k => impl_orders.f k (n : Int)) (ordO n n) := by
  simp only [impl_orders.f]
  exact impl_orders_l0 n hn n 0 (by omega)

theorem spec_chOrders_l2 (n : Nat) (hn : n ≤ 4) (L : List (List Int)) (o : List Int) (ho : o.length ≤ 10) (Ll i : Int) {R : List (List Int)} : ∀ (d : Nat) (j : Int) (acc : List (List Int)), 0 ≤ j → j + d = n → acc.length + d ≤ 1000 → Ev (fun k => spec_chOrders.l1 k (n : Int) (acc ++ extO o d j) L Ll (wrap64 (i + 1))) R → Ev (fun k => spec_chOrders.l2 k (n : Int) acc o j L Ll i) R
  | 0, j, acc, h0, h1, h2, hk => by
    refine Ev.step (fun k => by simp only [spec_chOrders.l2]; rfl) (Ev.ff (by omega) ?_)
    simpa [extO] using hk
  | d + 1, j, acc, h0, h1, h2, hk => by
    have e1 : wrap64 (j + 1) = j + 1 := w64 (by omega) (by omega)
    refine Ev.step (fun k => by simp only [spec_chOrders.l2, spec_l1Own.f, Option.bind_some, List.nil_append, List.length_nil, Nat.zero_add, e1]; rfl) (Ev.tt (by omega) (Ev.bind (co_has o (by omega) j) ?_))
    by_cases c : j ∈ o
    · refine Ev.tt (decide_eq_true c) (spec_chOrders_l2 n hn L o ho Ll i d (j + 1) acc (by omega) (by omega) (by omega) ?_)
      simpa [extO, c] using hk
    · have g1 : o.length < 17592186044416 := by omega
      have g2 : acc.length < 5864062014805 := by omega
      simp only [if_pos g1, Option.bind_some]
      refine Ev.ff (by simpa using c) ?_
      refine Ev.tt g2 (spec_chOrders_l2 n hn L o ho Ll i d (j + 1) (acc ++ [o ++ [j]]) (by omega) (by omega) (by simp; omega) ?_)
      simpa [extO, c] using hk
theorem spec_chOrders_l1 (n : Nat) (hn : n ≤ 4) (L : List (List Int)) (hL : L.length ≤ 24) (ho : ∀ o ∈ L, o.length ≤ 10) {R : List (List Int)} : ∀ (t p acc : List (List Int)), L = p ++ t → acc.length + 4 * t.length ≤ 900 → Ev (fun k => spec_chOrders.l0 k (n : Int) (acc ++ rndO n t)) R → Ev (fun k => spec_chOrders.l1 k (n : Int) acc L (L.length : Int) (p.length : Int)) R
  | [], p, acc, h, hs, hk => by
    refine Ev.step (fun k => by simp only [spec_chOrders.l1]; rfl) (Ev.ff (by rw [h]; simp) ?_)
    simpa [rndO] using hk
  | o :: t, p, acc, h, hs, hk => by
    have e1 : (p.length : Int) < (L.length : Int) := by rw [h]; exact lt_mid p t o
    have e2 : rd_L6 L (p.length : Int) = o := by rw [h]; exact co_rdm p t o
    have e3 : wrap64 ((p.length : Int) + 1) = ((p ++ [o]).length : Int) := nx_mid p t o (by rw [← h]; omega)
    have hx := extO_len o n 0
    rw [List.length_cons] at hs
    have ih := spec_chOrders_l1 n hn L hL ho t (p ++ [o]) (acc ++ extO o n 0) (by rw [h]; simp) (by rw [List.length_append]; omega) (by simpa [rndO] using hk)
    rw [← e3] at ih
    refine Ev.step (fun k => by simp only [spec_chOrders.l1, e2]; rfl) (Ev.tt e1 (Ev.tt (Int.natCast_nonneg _) (Ev.tt e1 ?_)))
    exact spec_chOrders_l2 n hn L o (ho o (by rw [h]; simp)) (L.length : Int) (p.length : Int) n 0 acc (Int.le_refl _) (by omega) (by omega) ih
theorem spec_chOrders_l0 (n : Nat) (hn : n ≤ 4) : ∀ (d r : Nat), r + d = n → Ev (fun k => spec_chOrders.l0 k (n : Int) (ordO n r)) (ordO n n)
  | d, r, h => by
    obtain ⟨h1, h2, h3⟩ := ordO_all n (by omega) r (by omega)
    have hp : 0 < ((ordO n r).length : Int) := by
      have := List.length_pos_iff.2 h2
      omega
    have hr : ((rd_L6 (ordO n r) 0).length : Int) = (r : Int) := by
      cases e : ordO n r with
      | nil => exact absurd e h2
      | cons o t =>
        have := (h3 o (by rw [e]; simp)).1
        simp [rd_L6, this]
    cases d with
    | zero =>
      obtain rfl : r = n := by omega
      exact Ev.step (fun k => by simp only [spec_chOrders.l0, hr]; rfl) (Ev.tt hp (Ev.ff (by omega) (Ev.now _)))
    | succ d =>
      have ih := spec_chOrders_l0 n hn d (r + 1) (by omega)
      refine Ev.step (fun k => by simp only [spec_chOrders.l0, hr]; rfl) (Ev.tt hp (Ev.tt (by omega) ?_))
      exact spec_chOrders_l1 n hn (ordO n r) h1 (fun o ho => by have := (h3 o ho).1; omega) (ordO n r) [] [] rfl (by simp; omega) ih
theorem spec_chOrders_ev (n : Nat) (hn : n ≤ 4) : Ev (fun k => spec_chOrders.f k (n : Int)) (ordO n n) := by
  simp only [spec_chOrders.f]
  exact spec_chOrders_l0 n hn n 0 (by omega)

def takeO (l : List S79) (o : List Int) : List S79 := o.map fun i => rd_T79 l i
theorem takeO_ok {l : List S79} (ok : partsOk l = true) {o : List Int} (ho : o.length = l.length) (hk : ∀ k ∈ o, 0 ≤ k ∧ k < (l.length : Int)) : partsOk (takeO l o) = true := by
  obtain ⟨h1, h2⟩ := partsOk_iff.1 ok
  refine partsOk_iff.2 ⟨by rw [takeO, List.length_map, ho]; exact h1, fun p hp => ?_⟩
  obtain ⟨i, hi, rfl⟩ := List.mem_map.1 hp
  have := hk i hi
  have hlt : i.toNat < l.length := by omega
  have e : rd_T79 l i = l[i.toNat] := by simp [rd_T79, List.getD_eq_getElem?_getD, List.getElem?_eq_getElem hlt]
  rw [e]
  exact h2 _ (List.getElem_mem hlt)

theorem impl_inOrder_l0 (l : List S79) (hl : l.length ≤ 1000) (o : List Int) (ho : o.length ≤ 1000) (hk : ∀ k ∈ o, 0 ≤ k ∧ k < (l.length : Int)) : ∀ (t p : List Int) (acc : List S79), o = p ++ t → acc.length + t.length ≤ 2000 → Ev (fun k => impl_inOrder.l0 k l acc o (o.length : Int) (p.length : Int)) (acc ++ takeO l t)
  | [], p, acc, h, hs => by
    refine Ev.to (Ev.step (fun k => by simp only [impl_inOrder.l0]; rfl) (Ev.ff (by rw [h]; simp) (Ev.now _))) (by simp [takeO])
  | i :: t, p, acc, h, hs => by
    have e1 : (p.length : Int) < (o.length : Int) := by rw [h]; exact lt_mid p t i
    have e2 : rd o (p.length : Int) = i := by rw [h]; exact rd_mid p t i
    have e3 : wrap64 ((p.length : Int) + 1) = ((p ++ [i]).length : Int) := nx_mid p t i (by rw [← h]; omega)
    have hi := hk i (by rw [h]; simp)
    rw [List.length_cons] at hs
    have ih := impl_inOrder_l0 l hl o ho hk t (p ++ [i]) (acc ++ [rd_T79 l i]) (by rw [h]; simp) (by rw [List.length_append, List.length_singleton]; omega)
    refine Ev.step (fun k => by simp only [impl_inOrder.l0, e2, e3]; rfl) (Ev.tt e1 (Ev.tt (Int.natCast_nonneg _) (Ev.tt e1 (Ev.tt hi.1 (Ev.tt hi.2 (Ev.tt (by omega) (Ev.to ih ?_)))))))
    simp [takeO]
theorem impl_inOrder_ev (l : List S79) (hl : l.length ≤ 1000) (o : List Int) (ho : o.length ≤ 1000) (hk : ∀ k ∈ o, 0 ≤ k ∧ k < (l.length : Int)) : Ev (fun k => impl_inOrder.f k l o) (takeO l o) := by
  simp only [impl_inOrder.f]
  exact impl_inOrder_l0 l hl o ho hk o [] [] rfl (by simp; omega)

theorem spec_chTake_l0 (l : List S79) (hl : l.length ≤ 1000) (o : List Int) (ho : o.length ≤ 1000) (hk : ∀ k ∈ o, 0 ≤ k ∧ k < (l.length : Int)) : ∀ (t p : List Int) (acc : List S79), o = p ++ t → acc.length + t.length ≤ 2000 → Ev (fun k => spec_chTake.l0 k l acc o (o.length : Int) (p.length : Int)) (acc ++ takeO l t)
  | [], p, acc, h, hs => by
    refine Ev.to (Ev.step (fun k => by simp only [spec_chTake.l0]; rfl) (Ev.ff (by rw [h]; simp) (Ev.now _))) (by simp [takeO])
  | i :: t, p, acc, h, hs => by
    have e1 : (p.length : Int) < (o.length : Int) := by rw [h]; exact lt_mid p t i
    have e2 : rd o (p.length : Int) = i := by rw [h]; exact rd_mid p t i
    have e3 : wrap64 ((p.length : Int) + 1) = ((p ++ [i]).length : Int) := nx_mid p t i (by rw [← h]; omega)
    have hi := hk i (by rw [h]; simp)
    rw [List.length_cons] at hs
    have ih := spec_chTake_l0 l hl o ho hk t (p ++ [i]) (acc ++ [rd_T79 l i]) (by rw [h]; simp) (by rw [List.length_append, List.length_singleton]; omega)
    refine Ev.step (fun k => by simp only [spec_chTake.l0, e2, e3]; rfl) (Ev.tt e1 (Ev.tt (Int.natCast_nonneg _) (Ev.tt e1 (Ev.tt hi.1 (Ev.tt hi.2 (Ev.tt (by omega) (Ev.to ih ?_)))))))
    simp [takeO]
theorem spec_chTake_ev (l : List S79) (hl : l.length ≤ 1000) (o : List Int) (ho : o.length ≤ 1000) (hk : ∀ k ∈ o, 0 ≤ k ∧ k < (l.length : Int)) : Ev (fun k => spec_chTake.f k l o) (takeO l o) := by
  simp only [spec_chTake.f]
  exact spec_chTake_l0 l hl o ho hk o [] [] rfl (by simp; omega)

theorem co_itoa {n : Int} (h : -100000 ≤ n ∧ n ≤ 100000) : strconv_Itoa_88.f n = some ⟨(Go.Lib.itoa n).toArray⟩ := by
  unfold strconv_Itoa_88.f
  rw [if_pos (by omega), if_pos (by omega)]
theorem co_itoa_len {n : Int} (h : -100000 ≤ n ∧ n ≤ 100000) : (Go.Lib.itoa n).length ≤ 21 := itoa_len6 h
theorem co_join_len : ∀ (l : List Int), (∀ x ∈ l, -100000 ≤ x ∧ x ≤ 100000) → (Go.Lib.join (l.map Go.Lib.itoa) [44]).length ≤ 22 * l.length
  | [], _ => by simp [Go.Lib.join_nil]
  | x :: t, h => by
    rw [List.map_cons, Go.Lib.join_cons, List.length_append, Go.Lib.joinTail_length, List.length_map]
    have h1 := co_itoa_len (h x (by simp))
    have h2 : ∀ (s : List Int), (∀ x ∈ s, -100000 ≤ x ∧ x ≤ 100000) → Go.Lib.lens (s.map Go.Lib.itoa) ≤ 21 * s.length := by
      intro s
      induction s with
      | nil => intro _; simp [Go.Lib.lens]
      | cons y s ih =>
        intro hs
        have := ih (fun z hz => hs z (List.mem_cons_of_mem _ hz))
        have h3 := co_itoa_len (hs y (by simp))
        simp only [Go.Lib.lens, List.map_cons, List.sum_cons, List.length_cons] at this ⊢
        omega
    have h3 := h2 t (fun z hz => h z (List.mem_cons_of_mem _ hz))
    simp only [List.length_cons, List.length_nil]
    omega
theorem impl_listText_l0 (l : List Int) (hl : l.length ≤ 1000) (hb : ∀ x ∈ l, -100000 ≤ x ∧ x ≤ 100000) : ∀ (t p : List Int), l = p ++ t → Ev (fun k => impl_listText.l0 k (p.map fun x => (⟨(Go.Lib.itoa x).toArray⟩ : ByteArray)) l (l.length : Int) (p.length : Int)) (⟨(Go.Lib.join (l.map Go.Lib.itoa) [44]).toArray⟩ : ByteArray)
  | [], p, h => by
    have e : p = l := by rw [h, List.append_nil]
    subst e
    have hj : strings_Join.f (p.map fun x => (⟨(Go.Lib.itoa x).toArray⟩ : ByteArray)) (⟨#[44]⟩ : ByteArray) = some ⟨(Go.Lib.join (p.map Go.Lib.itoa) [44]).toArray⟩ := by
      have e1 : (p.map fun x => (⟨(Go.Lib.itoa x).toArray⟩ : ByteArray)).map (·.data.toList) = p.map Go.Lib.itoa := by
        rw [List.map_map]
        exact List.map_congr_left (fun x _ => by simp)
      have h2 := co_join_len p hb
      unfold strings_Join.f
      rw [e1, if_pos (by rw [List.length_map]; omega), if_pos (by show (Go.Lib.join (p.map Go.Lib.itoa) [44]).length ≤ _; omega)]
    refine Ev.step (fun k => by simp only [impl_listText.l0, hj, Option.bind_some]; rfl) (Ev.ff (by omega) (Ev.now _))
  | x :: t, p, h => by
    have e1 : (p.length : Int) < (l.length : Int) := by rw [h]; exact lt_mid p t x
    have e2 : rd l (p.length : Int) = x := by rw [h]; exact rd_mid p t x
    have e3 : wrap64 ((p.length : Int) + 1) = ((p ++ [x]).length : Int) := nx_mid p t x (by rw [← h]; omega)
    have hp : p.length ≤ 1000 := by rw [h] at hl; simp at hl; omega
    have ih := impl_listText_l0 l hl hb t (p ++ [x]) (by rw [h]; simp)
    rw [List.map_append] at ih
    refine Ev.step (fun k => by simp only [impl_listText.l0, e2, e3, co_itoa (hb x (by rw [h]; simp)), Option.bind_some]; rfl) (Ev.tt e1 (Ev.tt (Int.natCast_nonneg _) (Ev.tt e1 (Ev.tt (by rw [List.length_map]; omega) ?_))))
    exact ih
theorem impl_listText_ev (l : List Int) (hl : l.length ≤ 1000) (hb : ∀ x ∈ l, -100000 ≤ x ∧ x ≤ 100000) : Ev (fun k => impl_listText.f k l) (⟨(txtL l).toArray⟩ : ByteArray) := by
  simp only [impl_listText.f, txtL]
  by_cases c : l = []
  · subst c
    exact Ev.tt rfl (Ev.now _)
  · have h0 : ¬ (l.length : Int) = 0 := fun e => c (List.length_eq_zero_iff.1 (by omega))
    rw [if_neg c]
    exact Ev.ff h0 (impl_listText_l0 l hl hb l [] rfl)
theorem txtL_len (l : List Int) (hl : l.length ≤ 1000) (hb : ∀ x ∈ l, -100000 ≤ x ∧ x ≤ 100000) : (txtL l).length ≤ 22001 := by
  unfold txtL
  split
  · simp
  · have := co_join_len l hb
    omega

theorem co_same_l0 (l m : List Int) (hl : l.length ≤ 1000000) : ∀ (t p u q : List Int), l = p ++ t → m = q ++ u → p.length = q.length → t.length = u.length → Ev (fun k => spec_l1Same.l0 k l m (l.length : Int) (p.length : Int)) (decide (t = u))
  | [], p, u, q, h, h', e, e' => by
    have hu : u = [] := List.length_eq_zero_iff.1 (by simpa using e'.symm)
    refine Ev.to (Ev.step (fun k => by simp only [spec_l1Same.l0]; rfl) (Ev.ff (by rw [h]; simp) (Ev.now _))) (by simp [hu])
  | x :: t, p, [], q, h, h', e, e' => by simp at e'
  | x :: t, p, y :: u, q, h, h', e, e' => by
    have e1 : (p.length : Int) < (l.length : Int) := by rw [h]; exact lt_mid p t x
    have e2 : rd l (p.length : Int) = x := by rw [h]; exact rd_mid p t x
    have e3 : wrap64 ((p.length : Int) + 1) = ((p ++ [x]).length : Int) := nx_mid p t x (by rw [← h]; omega)
    have e4 : (p.length : Int) < (m.length : Int) := by rw [h', e]; exact lt_mid q u y
    have e5 : rd m (p.length : Int) = y := by rw [h', e]; exact rd_mid q u y
    have ih := co_same_l0 l m hl t (p ++ [x]) u (q ++ [y]) (by rw [h]; simp) (by rw [h']; simp) (by simp [e]) (by simpa using e')
    refine Ev.step (fun k => by simp only [spec_l1Same.l0, e2, e3, e5]; rfl) (Ev.tt e1 (Ev.tt (Int.natCast_nonneg _) (Ev.tt e1 (Ev.tt e4 ?_))))
    by_cases c : x = y
    · exact Ev.tt c (Ev.to ih (by simp [c]))
    · exact Ev.ff c (Ev.to (Ev.now _) (by simp [c]))
theorem co_same (l m : List Int) (hl : l.length ≤ 1000000) : Ev (fun k => spec_l1Same.f k l m) (decide (l = m)) := by
  simp only [spec_l1Same.f]
  by_cases c : (l.length : Int) = (m.length : Int)
  · exact Ev.tt c (co_same_l0 l m hl l [] m [] rfl rfl rfl (by omega))
  · exact Ev.ff c (Ev.to (Ev.now _) (by symm; exact decide_eq_false (fun e => c (by rw [e]))))

/-- what has been met, each once -/
def metO (L : List (List Int)) : List (List Int) := L.foldl (fun a z => if z ∈ a then a else a ++ [z]) []
theorem snoc_ind {α : Type} {P : List α → Prop} (h0 : P []) (h1 : ∀ l x, P l → P (l ++ [x])) : ∀ l, P l := by
  intro l
  have h : ∀ r : List α, P r.reverse := by
    intro r
    induction r with
    | nil => simpa using h0
    | cons x r ih => rw [List.reverse_cons]; exact h1 _ _ ih
  have := h l.reverse
  rwa [List.reverse_reverse] at this
theorem metO_snoc (L : List (List Int)) (z : List Int) : metO (L ++ [z]) = if z ∈ metO L then metO L else metO L ++ [z] := by
  unfold metO
  rw [List.foldl_append]
  rfl
theorem metO_mem (z : List Int) : ∀ (L : List (List Int)), z ∈ metO L ↔ z ∈ L := by
  intro L
  refine snoc_ind (P := fun L => z ∈ metO L ↔ z ∈ L) ?_ ?_ L
  · simp [metO]
  · intro L y ih
    rw [metO_snoc]
    by_cases c : y ∈ metO L
    · rw [if_pos c, ih, List.mem_append, List.mem_singleton]
      constructor
      · exact Or.inl
      · rintro (h | rfl)
        · exact h
        · exact ih.1 c
    · rw [if_neg c, List.mem_append, List.mem_append, ih]
theorem metO_len (L : List (List Int)) : (metO L).length ≤ L.length := by
  refine snoc_ind (P := fun L => (metO L).length ≤ L.length) ?_ ?_ L
  · simp [metO]
  · intro L y ih
    rw [metO_snoc]
    split <;> simp <;> omega
def txO (z : List Int) : ByteArray := ⟨(txtL z).toArray⟩
theorem txO_key (z : List Int) : (txO z).data.toList = txtL z := by simp [txO]
/-- the map's entries are the texts met -/
theorem metO_map (L : List (List Int)) : Go.Maps.Tidy (impl_CountOutputs_D (L.map txO)) ∧ Go.Maps.size (impl_CountOutputs_D (L.map txO)) = (metO L).length ∧ ∀ z : List Int, Go.Maps.has (impl_CountOutputs_D (L.map txO)) (.string (txtL z)) = decide (z ∈ L) := by
  refine snoc_ind (P := fun L => Go.Maps.Tidy (impl_CountOutputs_D (L.map txO)) ∧ Go.Maps.size (impl_CountOutputs_D (L.map txO)) = (metO L).length ∧ ∀ z : List Int, Go.Maps.has (impl_CountOutputs_D (L.map txO)) (.string (txtL z)) = decide (z ∈ L)) ?_ ?_ L
  · exact ⟨Go.Maps.tidy_empty, rfl, fun z => rfl⟩
  · intro L y ih
    obtain ⟨h1, h2, h3⟩ := ih
    have e : impl_CountOutputs_D ((L ++ [y]).map txO) = (impl_CountOutputs_D (L.map txO)).put (.string (txtL y)) (.lit (.bool true)) := by
      rw [List.map_append, List.map_singleton, impl_CountOutputs_D.put, txO_key]
    rw [e]
    refine ⟨h1.put (k := .string (txtL y)) trivial _, ?_, fun z => ?_⟩
    · rw [Go.Maps.size_put h1, h3, h2, metO_snoc]
      by_cases c : y ∈ L
      · rw [decide_eq_true c, if_pos rfl, if_pos ((metO_mem y L).2 c)]
      · rw [decide_eq_false c, if_neg (by decide), if_neg (fun h => c ((metO_mem y L).1 h)), List.length_append, List.length_singleton]
    · by_cases c : z = y
      · subst c
        rw [Go.Maps.has_put_same (k := .string (txtL z)) h1.isMap trivial]
        simp
      · have hne : (Lit.string (txtL z)) ≠ .string (txtL y) := fun e => c (txtL_inj (by injection e))
        rw [Go.Maps.has_put_other hne, h3]
        simp [c]
def outsO (l : List S79) (s : List Int) : List (List Int) := (ordO l.length l.length).map fun o => outM (takeO l o) s
def countM (l : List S79) (s : List Int) : Int × Bool := if (partsOk l && sig s) = true then (((metO (outsO l s)).length : Int), true) else (0, false)
theorem ordO_facts {l : List S79} (ok : partsOk l = true) : l.length ≤ 4 ∧ (ordO l.length l.length).length ≤ 24 ∧ ∀ o ∈ ordO l.length l.length, o.length = l.length ∧ ∀ k ∈ o, 0 ≤ k ∧ k < (l.length : Int) := by
  have h := (partsOk_iff.1 ok).1
  have h2 := ordO_all l.length (by omega) l.length (Nat.le_refl _)
  exact ⟨h.2, h2.1, h2.2.2⟩
theorem impl_Count_l0 (l : List S79) (s : List Int) (ok : partsOk l = true) (hs : okS s) : ∀ (t p : List (List Int)), ordO l.length l.length = p ++ t → Ev (fun k => impl_CountOutputs.l0 k l s ((p.map fun o => outM (takeO l o) s).map txO) (ordO l.length l.length) ((ordO l.length l.length).length : Int) (p.length : Int)) (((metO (outsO l s)).length : Int), true)
  | [], p, h => by
    have e : p = ordO l.length l.length := by rw [h, List.append_nil]
    have h2 := (metO_map (outsO l s)).2.1
    refine Ev.step (fun k => by simp only [impl_CountOutputs.l0]; rfl) (Ev.ff (by rw [h]; simp) (Ev.to (Ev.now _) ?_))
    rw [e]
    exact congrArg (fun n : Nat => ((n : Int), true)) h2
  | o :: t, p, h => by
    obtain ⟨g1, g2, g3⟩ := ordO_facts ok
    have e1 : (p.length : Int) < ((ordO l.length l.length).length : Int) := by rw [h]; exact lt_mid p t o
    have e2 : rd_L6 (ordO l.length l.length) (p.length : Int) = o := by rw [h]; exact co_rdm p t o
    have e3 : wrap64 ((p.length : Int) + 1) = ((p ++ [o]).length : Int) := nx_mid p t o (by rw [← h]; omega)
    obtain ⟨g4, g5⟩ := g3 o (by rw [h]; simp)
    have okT := takeO_ok ok g4 g5
    have hz := outM_ok (takeO l o) s (partsOk_iff.1 okT).2 hs
    have hp : p.length ≤ 24 := by
      have := congrArg List.length h
      rw [List.length_append] at this
      omega
    have hsz : (txO (outM (takeO l o) s)).size ≤ 9223372036854775807 := by
      have := txtL_len (outM (takeO l o) s) (by have := hz.1; omega) hz.2
      show (txtL (outM (takeO l o) s)).toArray.size ≤ _
      rw [List.size_toArray]
      omega
    have ih := impl_Count_l0 l s ok hs t (p ++ [o]) (by rw [h]; simp)
    rw [List.map_append, List.map_append] at ih
    refine Ev.step (fun k => by simp only [impl_CountOutputs.l0, e2, e3]; rfl) (Ev.tt e1 (Ev.tt (Int.natCast_nonneg _) (Ev.tt e1 ?_)))
    refine Ev.bind (impl_inOrder_ev l (by omega) o (by omega) g5) (Ev.bind (impl_output_ev _ s okT hs) (Ev.bind (impl_listText_ev _ (by have := hz.1; omega) hz.2) ?_))
    exact Ev.tt ⟨by rw [List.length_map, List.length_map]; omega, hsz⟩ ih
theorem impl_CountOutputs_ev (l : List S79) (s : List Int) (hl : l.length ≤ 10000000) (hs : s.length ≤ 10000000) : Ev (fun k => impl_CountOutputs.f k l s) (countM l s) := by
  have fail : Ev (fun k => impl_CountOutputs.j0 k l s true) (0, false) := by
    refine Ev.step (f := fun _ => some (0, false)) (fun k => ?_) (Ev.now _)
    simp [impl_CountOutputs.j0]
  simp only [impl_CountOutputs.f, countM]
  refine Ev.bind (impl_areParts_ev l hl) ?_
  by_cases c : partsOk l = true
  · refine Ev.tt c (Ev.bind (impl_isSignal_ev s (by omega)) ?_)
    by_cases d : sig s = true
    · rw [c, d]
      refine Ev.step (fun k => by simp only [impl_CountOutputs.j0]; rfl) (Ev.ff (by simp) ?_)
      exact Ev.bind (impl_orders_ev l.length (ordO_facts c).1) (impl_Count_l0 l s c (sig_okS d) _ [] rfl)
    · simp only [Bool.not_eq_true] at d
      rw [c, d]
      exact fail
  · refine Ev.ff c ?_
    simp only [Bool.not_eq_true] at c
    rw [c]
    exact fail
theorem spec_Count_l1 (l : List S79) (s : List Int) (S : List (List Int)) (hS : S.length ≤ 1000) (hz : ∀ z ∈ S, z.length ≤ 1000) (z : List Int) (os : List (List Int)) (ol i : Int) {R : Int × Bool}
    (hk : Ev (fun k => spec_CountOutputs.l0 k l s (if z ∈ S then S else S ++ [z]) os ol (wrap64 (i + 1))) R) : ∀ (t p : List (List Int)) (f : Bool), S = p ++ t → (f || decide (z ∈ t)) = decide (z ∈ S) → Ev (fun k => spec_CountOutputs.l1 k l s S z f os ol i S (S.length : Int) (p.length : Int)) R
  | [], p, f, h, hf' => by
    have hf : f = decide (z ∈ S) := by simpa using hf'
    refine Ev.step (fun k => by simp only [spec_CountOutputs.l1]; rfl) (Ev.ff (by rw [h]; simp) ?_)
    by_cases c : z ∈ S
    · rw [if_pos c] at hk
      exact Ev.tt (by rw [hf]; exact decide_eq_true c) hk
    · rw [if_neg c] at hk
      exact Ev.ff (by rw [hf]; simpa using c) (Ev.tt (by omega) hk)
  | y :: t, p, f, h, hf' => by
    have e1 : (p.length : Int) < (S.length : Int) := by rw [h]; exact lt_mid p t y
    have e2 : rd_L6 S (p.length : Int) = y := by rw [h]; exact co_rdm p t y
    have e3 : wrap64 ((p.length : Int) + 1) = ((p ++ [y]).length : Int) := nx_mid p t y (by rw [← h]; omega)
    have hy := hz y (by rw [h]; simp)
    refine Ev.step (fun k => by simp only [spec_CountOutputs.l1, e2, e3]; rfl) (Ev.tt e1 (Ev.tt (Int.natCast_nonneg _) (Ev.tt e1 ?_)))
    by_cases c : f = true
    · subst c
      exact Ev.tt rfl (spec_Count_l1 l s S hS hz z os ol i hk t (p ++ [y]) true (by rw [h]; simp) (by simpa using hf'))
    · refine Ev.ff c (Ev.bind (co_same y z (by omega)) (spec_Count_l1 l s S hS hz z os ol i hk t (p ++ [y]) _ (by rw [h]; simp) ?_))
      rw [← hf']
      simp only [Bool.not_eq_true] at c
      subst c
      by_cases q : y = z
      · simp [q]
      · simp [q, show ¬ z = y from fun e => q e.symm]
theorem spec_Count_l0 (l : List S79) (s : List Int) (ok : partsOk l = true) (hs : okS s) : ∀ (t p : List (List Int)), ordO l.length l.length = p ++ t → Ev (fun k => spec_CountOutputs.l0 k l s (metO (p.map fun o => outM (takeO l o) s)) (ordO l.length l.length) ((ordO l.length l.length).length : Int) (p.length : Int)) (((metO (outsO l s)).length : Int), true)
  | [], p, h => by
    have e : p = ordO l.length l.length := by rw [h, List.append_nil]
    refine Ev.step (fun k => by simp only [spec_CountOutputs.l0]; rfl) (Ev.ff (by rw [h]; simp) (Ev.to (Ev.now _) ?_))
    rw [e]
    rfl
  | o :: t, p, h => by
    obtain ⟨g1, g2, g3⟩ := ordO_facts ok
    have e1 : (p.length : Int) < ((ordO l.length l.length).length : Int) := by rw [h]; exact lt_mid p t o
    have e2 : rd_L6 (ordO l.length l.length) (p.length : Int) = o := by rw [h]; exact co_rdm p t o
    have e3 : wrap64 ((p.length : Int) + 1) = ((p ++ [o]).length : Int) := nx_mid p t o (by rw [← h]; omega)
    obtain ⟨g4, g5⟩ := g3 o (by rw [h]; simp)
    have okT := takeO_ok ok g4 g5
    have hp : p.length ≤ 24 := by
      have := congrArg List.length h
      rw [List.length_append] at this
      omega
    have ih := spec_Count_l0 l s ok hs t (p ++ [o]) (by rw [h]; simp)
    rw [List.map_append, List.map_singleton, metO_snoc, ← e3] at ih
    have hm : (metO (p.map fun o => outM (takeO l o) s)).length ≤ 24 := by
      have := metO_len (p.map fun o => outM (takeO l o) s)
      rw [List.length_map] at this
      omega
    have hz : ∀ z ∈ metO (p.map fun o => outM (takeO l o) s), z.length ≤ 1000 := fun z hz => by
      obtain ⟨o', ho', rfl⟩ := List.mem_map.1 ((metO_mem z _).1 hz)
      obtain ⟨g6, g7⟩ := g3 o' (by rw [h]; simp [ho'])
      have := (outM_ok (takeO l o') s (partsOk_iff.1 (takeO_ok ok g6 g7)).2 hs).1
      omega
    refine Ev.step (fun k => by simp only [spec_CountOutputs.l0, e2]; rfl) (Ev.tt e1 (Ev.tt (Int.natCast_nonneg _) (Ev.tt e1 ?_)))
    refine Ev.bind (spec_chTake_ev l (by omega) o (by omega) g5) (Ev.bind (spec_chRun_ev _ s okT hs) ?_)
    exact spec_Count_l1 l s _ (by omega) hz _ _ _ _ ih _ [] false rfl (Bool.false_or _)
theorem spec_CountOutputs_ev (l : List S79) (s : List Int) (hl : l.length ≤ 10000000) (hs : s.length ≤ 10000000) : Ev (fun k => spec_CountOutputs.f k l s) (countM l s) := by
  simp only [spec_CountOutputs.f, countM]
  refine Ev.bind (spec_chAsked_ev l s hl hs) ?_
  by_cases c : (partsOk l && sig s) = true
  · rw [if_pos c]
    have c' := c
    simp only [Bool.and_eq_true] at c'
    exact Ev.tt c (Ev.bind (spec_chOrders_ev l.length (ordO_facts c'.1).1) (spec_Count_l0 l s c'.1 (sig_okS c'.2) _ [] rfl))
  · rw [if_neg c]
    exact Ev.ff c (Ev.now _)

theorem FnExactCountOutputs : laws_FnExactCountOutputs.Pure := by
  intro l s h0 h1 h2 h3
  apply Ev.rounds
  simp only [laws_FnExactCountOutputs.f]
  by_cases c2 : (s.length : Int) > 1048576
  · exact Ev.tt c2 (Ev.now _)
  refine Ev.ff c2 (Ev.dbind (laws_szFirstS_eq l h0) ?_)
  by_cases c3 : 1048576 < l.length
  · exact Ev.tt (by rw [if_pos c3]; decide) (Ev.now _)
  refine Ev.ff (by rw [if_neg c3]; omega) ?_
  have hs2 : s.length ≤ 1048576 := by omega
  have hto := laws_toFirstS_ev l (by omega)
  have hml : (l.map toFi).length ≤ 1048576 := by rw [List.length_map]; omega
  have hs := spec_CountOutputs_ev (l.map toFi) s (by omega) (by omega)
  have hi := impl_CountOutputs_ev (l.map toFi) s (by omega) (by omega)
  have he := laws_eqFirstS_self (l.map toFi) (by omega)
  generalize countM (l.map toFi) s = r at *
  generalize l.map toFi = L at *
  obtain ⟨r0, r1⟩ := r
  repeat ((try dsimp only); first | exact Ev.now _ | refine Ev.bind hto ?_ | refine Ev.bind he ?_ | refine Ev.bind (laws_toIntS_ev s (by omega)) ?_ | refine Ev.bind hs ?_ | refine Ev.bind hi ?_ | refine Ev.bind (laws_eqIntS_self _ (by omega)) ?_ | refine Ev.tt rfl ?_ | refine Ev.ff (by first | omega | decide) ?_ | (refine Ev.step (fun k => by simp only [laws_FnExactCountOutputs.j0, bne_self_eq_false]; rfl) ?_))

end Go.Proofs.YtjplcongellcmaaDoor.Pure
