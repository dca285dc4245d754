/- Powers of all tones add up to those of folded signals, filters find the same powers, and whole turns have theirs. Conditions: none beyond those that the statement itself prints. -/
import Derived.Test.YtjplcongellcmaaDoorPFnTonesFoundx8
namespace Go.Proofs.YtjplcongellcmaaDoor.Pure
open Go.RowKit Go.Proofs.YtjplcongellcmaaDoor.PFnTonesFound Go.Proofs.YtjplcongellcmaaDoorW.PrintWords Go.Proofs.YtjplcongellcmaaDoorW.PrintLast Go.Proofs.YtjplcongellcmaaDoorW.PrintMore
set_option linter.unusedVariables false
set_option linter.unusedSimpArgs false

theorem w64 {n : Int} (h1 : -9223372036854775808 ≤ n) (h2 : n ≤ 9223372036854775807) : wrap64 n = n := by
  unfold wrap64
  omega
theorem Ev.to {α : Type} {g : Nat → Option α} {r r' : α} (h : Ev g r) (e : r = r') : Ev g r' := e ▸ h
theorem Ev.const {α : Type} {g : Option α} {r : α} (h : g = some r) : Ev (fun _ => g) r := ⟨0, fun _ _ => h⟩
theorem Ev.dbind {α β : Type} {g : Option α} {f : Nat → α → Option β} {a : α} {r : β} (h : g = some a) (k : Ev (fun n => f n a) r) : Ev (fun n => g.bind (f n)) r :=
  Ev.bind (g := fun _ => g) (Ev.const h) k
theorem Ev.tt {α : Type} {c : Prop} {_ : Decidable c} {g f : Nat → Option α} {r : α} (h : c) (k : Ev g r) : Ev (fun n => if c then g n else f n) r := by
  simpa only [if_pos h] using k
theorem Ev.ff {α : Type} {c : Prop} {_ : Decidable c} {g f : Nat → Option α} {r : α} (h : ¬ c) (k : Ev f r) : Ev (fun n => if c then g n else f n) r := by
  simpa only [if_neg h] using k
theorem rd_mid (p t : List Int) (x : Int) : rd (p ++ x :: t) (p.length : Int) = x := by
  simp [rd]
theorem lt_mid {α : Type} (p t : List α) (x : α) : (p.length : Int) < ((p ++ x :: t).length : Int) := by
  simp
  omega
theorem nx_mid {α : Type} (p t : List α) (x : α) (h : (p ++ x :: t).length ≤ 140737488351232) : wrap64 ((p.length : Int) + 1) = ((p ++ [x]).length : Int) := by
  simp at h ⊢
  exact w64 (by omega) (by omega)
theorem ap_mid {α : Type} (p t : List α) (x : α) : p ++ x :: t = (p ++ [x]) ++ t := by simp
theorem w64_nat (a b : Nat) (h : a + b ≤ 1000000000) : wrap64 ((a : Int) + (b : Int)) = ((a + b : Nat) : Int) := by
  rw [w64 (n := (a : Int) + (b : Int)) (by omega) (by omega)]
  omega
theorem w64_suc {α : Type} (q : List α) (x : α) (h : q.length ≤ 1000000000) : wrap64 ((q.length : Int) + 1) = ((q ++ [x]).length : Int) := by
  rw [w64 (n := (q.length : Int) + 1) (by omega) (by omega)]
  simp
theorem ar1 {a b c d : Nat} (h1 : a + 1 ≤ c) (h2 : b + 1 ≤ d) : ((a + b : Nat) : Int) < ((c + d - 1 : Nat) : Int) := by omega
theorem ar2 {a b c d : Nat} (h1 : a + 1 ≤ c) (h2 : b + 1 ≤ d) : a + b < c + d - 1 := by omega
theorem ar3 (a b : Nat) : ¬ (a ≤ a + b ∧ a + b - a < b) := by omega
theorem ar4 {v M : Int} (h : -M ≤ v ∧ v ≤ M) (hm : M ≤ 4000000000000000000) : wrap64 v = v := w64 (by omega) (by omega)
theorem ar5 {c v P M H : Int} (hc : -P ≤ c ∧ c ≤ P) (hv : -M ≤ v ∧ v ≤ M) (hp : P + M ≤ H) (hH : H ≤ 4000000000000000000) : wrap64 (c + v) = c + v := w64 (by omega) (by omega)
theorem ar6 {a b : Nat} {M : Int} (h : a + 1 ≤ b) (hM : 0 ≤ M) : (a : Int) * M + M ≤ (b : Int) * M := by
  have h1 : ((a : Int) + 1) * M ≤ (b : Int) * M := Int.mul_le_mul_of_nonneg_right (by omega) hM
  rw [Int.add_mul, Int.one_mul] at h1
  exact h1
theorem ar7 {a b c d : Nat} (h1 : a + 1 ≤ c) (h2 : b + 1 ≤ d) (h : c + d ≤ 100000000) : a + b ≤ 1000000000 := by omega
theorem ar8 {a c d : Nat} (h1 : a + 1 ≤ c) (h : c + d ≤ 100000000) : a ≤ 1000000000 := by omega
theorem tm (a b : Nat) : Int.tmod (a : Int) (b : Int) = ((a % b : Nat) : Int) := (Int.ofNat_tmod a b).symm
theorem td (a b : Nat) : Int.tdiv (a : Int) (b : Int) = ((a / b : Nat) : Int) := (Int.ofNat_tdiv a b).symm
theorem w64n {a : Nat} (h : a ≤ 1000000000) : wrap64 (a : Int) = (a : Int) := w64 (by omega) (by omega)

def backOf (n : Int) : Int × Bool := if n = 3 then (-1, true) else if n = 4 then (0, true) else if n = 6 then (1, true) else (0, false)
def tnF (c : Int) : List Int → Int → Int → Int × Int
  | [], y, z => (y, z)
  | x :: t, y, z => tnF c t (wrap64 ((wrap64 (x + (wrap64 (c * y)))) - z)) y
def sig (l : List Int) : Bool := decide (l.length ≤ 64) && l.all fun x => decide (-100000 ≤ x) && decide (x ≤ 100000)
def toneStates (l : List Int) (n : Int) : Int × Int × Bool := if (backOf n).2 = true then (if sig l = true then ((tnF (backOf n).1 l 0 0).1, (tnF (backOf n).1 l 0 0).2, true) else (0, 0, false)) else (0, 0, false)
theorem sig_len {l : List Int} (h : sig l = true) : l.length ≤ 64 := by
  simp [sig] at h
  exact h.1
theorem sig_mem {l : List Int} (h : sig l = true) : ∀ x ∈ l, -100000 ≤ x ∧ x ≤ 100000 := by
  simp [sig] at h
  exact h.2
def isBits (l : List Int) : Bool := decide (l.length ≤ 200) && l.all fun x => decide (x = 1 ∨ x = -1)
theorem isBits_len {l : List Int} (h : isBits l = true) : l.length ≤ 200 := by
  simp [isBits] at h
  exact h.1
theorem isBits_mem {l : List Int} (h : isBits l = true) : ∀ x ∈ l, x = 1 ∨ x = -1 := by
  simp [isBits] at h
  exact h.2
def toldM (l : List Int) : List Int × Bool := if sig l = true then (l, true) else ([], false)
theorem toldM_len (l : List Int) : (toldM l).1.length ≤ 64 := by
  unfold toldM
  split
  · exact sig_len ‹_›
  · simp
def bitM (x v : Int) : Int := if x ≥ v then 1 else -1
theorem bitM_cases (x v : Int) : bitM x v = 1 ∨ bitM x v = -1 := by
  unfold bitM
  split <;> simp
def tkS (st last : Int) (fixed : Bool) (bit : Int) : Int :=
  if fixed = true then st else if last = 0 then st else if bit = last then (if 2 * st ≤ 4096 then 2 * st else 4096) else (if 1 ≤ st / 2 then st / 2 else 1)
theorem tkS_bd {st last : Int} {fixed : Bool} {bit : Int} (h0 : 1 ≤ st) (h1 : st ≤ 4096) : 1 ≤ tkS st last fixed bit ∧ tkS st last fixed bit ≤ 4096 := by
  unfold tkS
  repeat' split
  all_goals omega
theorem mul_bit {st bit : Int} (hb : bit = 1 ∨ bit = -1) : st * bit = st ∨ st * bit = -st := by
  rcases hb with rfl | rfl
  · left; omega
  · right; omega
/-- bit, value and step behind each sample -/
def codeM (fixed : Bool) : List Int → Int → Int → Int → List (Int × Int × Int)
  | [], _, _, _ => []
  | x :: t, v, st, last =>
    let b := bitM x v
    let s := tkS st last fixed b
    (b, v + s * b, s) :: codeM fixed t (v + s * b) s b
theorem codeM_length (fixed : Bool) : ∀ (l : List Int) (v st last : Int), (codeM fixed l v st last).length = l.length
  | [], _, _, _ => rfl
  | x :: t, v, st, last => by simp [codeM, codeM_length fixed t]
def fixM (st : Int) : List Int → Int → List Int
  | [], _ => []
  | x :: t, v => bitM x v :: fixM st t (v + bitM x v * st)
theorem fixM_length (st : Int) : ∀ (l : List Int) (v : Int), (fixM st l v).length = l.length
  | [], _ => rfl
  | x :: t, v => by simp [fixM, fixM_length st t]
def fixedBits (l : List Int) (st : Int) : List Int × Bool := if sig l = true ∧ 1 ≤ st ∧ st ≤ 4096 then (fixM st l 0, true) else ([], false)
def decM (fixed : Bool) : List Int → Int → Int → Int → List (Int × Int)
  | [], _, _, _ => []
  | b :: t, v, st, last => (v + tkS st last fixed b * b, tkS st last fixed b) :: decM fixed t (v + tkS st last fixed b * b) (tkS st last fixed b) b
theorem decM_length (fixed : Bool) : ∀ (l : List Int) (v st last : Int), (decM fixed l v st last).length = l.length
  | [], _, _, _ => rfl
  | x :: t, v, st, last => by simp [decM, decM_length fixed t]
def gapM : List Int → List Int → List Int
  | x :: t, y :: u => (x - y) :: gapM t u
  | _, _ => []
theorem gapM_length : ∀ (l m : List Int), l.length = m.length → (gapM l m).length = l.length
  | [], m, _ => by cases m <;> simp [gapM]
  | x :: t, [], h => by simp at h
  | x :: t, y :: u, h => by
    simp at h
    simp [gapM, gapM_length t u h]
theorem codeM_val (fixed : Bool) : ∀ (l : List Int) (v st last : Int) (n : Int), 1 ≤ st → st ≤ 4096 → -4096 * n ≤ v → v ≤ 4096 * n → ∀ y ∈ (codeM fixed l v st last).map (·.2.1), -4096 * (n + l.length) ≤ y ∧ y ≤ 4096 * (n + l.length)
  | [], _, _, _, _, _, _, _, _, y, hy => by simp [codeM] at hy
  | x :: t, v, st, last, n, h0, h1, hv0, hv1, y, hy => by
    have hb := bitM_cases x v
    have hk := tkS_bd (last := last) (fixed := fixed) (bit := bitM x v) h0 h1
    have hm := mul_bit (st := tkS st last fixed (bitM x v)) hb
    simp only [codeM, List.map_cons, List.mem_cons] at hy
    rcases hy with rfl | hy
    · simp; omega
    · have := codeM_val fixed t _ _ _ (n + 1) hk.1 hk.2 (by omega) (by omega) y hy
      simp; omega
def stepOk (st : Int) : Bool := decide (1 ≤ st) && decide (st ≤ 4096)
theorem stepOk_iff {st : Int} : stepOk st = true ↔ 1 ≤ st ∧ st ≤ 4096 := by simp [stepOk]
def stepBits (l : List Int) (st : Int) : List Int × Bool := if sig l = true then (if stepOk st = true then ((codeM false l 0 st 0).map (·.1), true) else ([], false)) else ([], false)
def stepValues (l : List Int) (st : Int) : List Int × Bool := if isBits l = true then (if stepOk st = true then toldM ((decM false l 0 st 0).map (·.1)) else ([], false)) else ([], false)
def stepsOfBits (l : List Int) (st : Int) : List Int × Bool := if isBits l = true then (if stepOk st = true then toldM ((decM false l 0 st 0).map (·.2)) else ([], false)) else ([], false)
def fixedValues (l : List Int) (st : Int) : List Int × Bool := if isBits l = true then (if stepOk st = true then toldM ((decM true l 0 st 0).map (·.1)) else ([], false)) else ([], false)
def stepGaps (l : List Int) (st : Int) : List Int × Bool := if sig l = true then (if stepOk st = true then toldM (gapM l ((codeM false l 0 st 0).map (·.2.1))) else ([], false)) else ([], false)
def wts (l : List Int) : Bool := decide (1 ≤ l.length) && decide (l.length ≤ 9) && l.all fun x => decide (-1000 ≤ x) && decide (x ≤ 1000)
theorem wts_len {l : List Int} (h : wts l = true) : 1 ≤ l.length ∧ l.length ≤ 9 := by
  simp [wts] at h
  exact ⟨h.1.1, h.1.2⟩
theorem wts_mem {l : List Int} (h : wts l = true) : ∀ x ∈ l, -1000 ≤ x ∧ x ≤ 1000 := by
  simp [wts] at h
  exact h.2
def ratio (p q : Int) : Bool := (decide (1 ≤ p) && decide (p ≤ 8)) && (decide (1 ≤ q) && decide (q ≤ 8))
theorem ratio_iff {p q : Int} : ratio p q = true ↔ (1 ≤ p ∧ p ≤ 8) ∧ (1 ≤ q ∧ q ≤ 8) := by simp [ratio]
def rsOk (h l : List Int) (p q : Int) : Bool := wts h && ((sig l && ratio p q) && decide ((l.length : Int) * p ≤ 64))
def peakM : List Int → Nat → Nat
  | [], m => m
  | x :: t, m => peakM t (max m x.natAbs)

def cv : List Int → List Int → Nat → Int
  | [], _, _ => 0
  | w :: _, s, 0 => w * s.getD 0 0
  | w :: h, s, n + 1 => w * s.getD (n + 1) 0 + cv h s n
def Lf (f : Nat → Int) (N : Nat) : List Int := (List.range N).map f
theorem Lf_length (f : Nat → Int) (N : Nat) : (Lf f N).length = N := by simp [Lf]
theorem rd_Lf (f : Nat → Int) (N i : Nat) (h : i < N) : rd (Lf f N) (i : Int) = f i := by
  simp [rd, Lf, h]
theorem set_Lf (f : Nat → Int) (N i : Nat) (v : Int) : (Lf f N).set i v = Lf (fun n => if n = i then v else f n) N := by
  apply List.ext_getElem
  · simp [Lf]
  · intro n h1 h2
    simp [Lf, List.getElem_set]
    by_cases c : i = n
    · simp [c]
    · rw [if_neg c, if_neg (fun h => c h.symm)]
theorem Lf_congr {f g : Nat → Int} {N : Nat} (h : ∀ n, n < N → f n = g n) : Lf f N = Lf g N := by
  apply List.ext_getElem
  · simp [Lf]
  · intro n h1 h2
    simp [Lf] at h1 ⊢
    exact h n h1
theorem cv_snoc (s : List Int) (w : Int) : ∀ (p : List Int) (n : Nat), cv (p ++ [w]) s n = cv p s n + (if p.length ≤ n then w * s.getD (n - p.length) 0 else 0)
  | [], 0 => by simp [cv]
  | [], n + 1 => by simp [cv]
  | a :: p, 0 => by simp [cv]
  | a :: p, n + 1 => by
    simp only [List.cons_append, cv, cv_snoc s w p n, List.length_cons, Nat.add_le_add_iff_right, Nat.add_sub_add_right]
    omega
theorem getD_bd {s : List Int} {a M : Int} (hM : 0 ≤ M) (h : ∀ x ∈ s, -M ≤ a * x ∧ a * x ≤ M) (n : Nat) : -M ≤ a * s.getD n 0 ∧ a * s.getD n 0 ≤ M := by
  rw [List.getD_eq_getElem?_getD]
  by_cases c : n < s.length
  · rw [List.getElem?_eq_getElem c]
    exact h _ (List.getElem_mem c)
  · rw [List.getElem?_eq_none (by omega)]
    simp
    omega
theorem cv_bd {s : List Int} {M : Int} (hM : 0 ≤ M) : ∀ (h : List Int) (n : Nat), (∀ a ∈ h, ∀ x ∈ s, -M ≤ a * x ∧ a * x ≤ M) → -(h.length * M) ≤ cv h s n ∧ cv h s n ≤ h.length * M
  | [], n, hb => by simp [cv]
  | a :: h, 0, hb => by
    have h1 := getD_bd hM (hb a (by simp)) 0
    have h2 : 0 ≤ (h.length : Int) * M := Int.mul_nonneg (by omega) hM
    simp only [cv, List.length_cons, Int.natCast_add, Int.add_mul]
    omega
  | a :: h, n + 1, hb => by
    have h1 := getD_bd hM (hb a (by simp)) (n + 1)
    have h2 := cv_bd hM h n (fun b hbm => hb b (by simp [hbm]))
    simp only [cv, List.length_cons, Int.natCast_add, Int.add_mul]
    omega
def conv (h s : List Int) : List Int := if s = [] then [] else Lf (cv h s) (h.length + s.length - 1)
theorem conv_length (h s : List Int) (hs : s ≠ []) : (conv h s).length = h.length + s.length - 1 := by
  rw [conv, if_neg hs, Lf_length]
/-- what stands in the list when the weights p are done, and of the weight w the samples q -/
def cvi (p q s : List Int) (w : Int) (n : Nat) : Int := cv p s n + (if p.length ≤ n ∧ n - p.length < q.length then w * s.getD (n - p.length) 0 else 0)
theorem cvi_nil (p s : List Int) (w : Int) : cvi p [] s w = cv p s := by
  funext n
  simp [cvi]
theorem cvi_all (p s : List Int) (w : Int) (n : Nat) : cvi p s s w n = cv (p ++ [w]) s n := by
  rw [cv_snoc, cvi]
  by_cases c : p.length ≤ n
  · by_cases d : n - p.length < s.length
    · rw [if_pos ⟨c, d⟩, if_pos c]
    · rw [if_neg (fun h => d h.2), if_pos c, List.getD_eq_getElem?_getD, List.getElem?_eq_none (by omega)]
      simp
  · rw [if_neg (fun h => c h.1), if_neg c]
theorem getD_mid (q t : List Int) (x : Int) : (q ++ x :: t).getD q.length 0 = x := by simp
theorem cvi_step (p q t : List Int) (w x : Int) (n : Nat) : (if n = p.length + q.length then cvi p q (q ++ x :: t) w n + w * x else cvi p q (q ++ x :: t) w n) = cvi p (q ++ [x]) (q ++ x :: t) w n := by
  unfold cvi
  by_cases c : n = p.length + q.length
  · subst c
    have e : p.length + q.length - p.length = q.length := by omega
    rw [if_pos rfl, e, getD_mid, if_neg (by omega), if_pos ⟨by omega, by simp⟩]
    omega
  · rw [if_neg c]
    by_cases d : p.length ≤ n ∧ n - p.length < q.length
    · rw [if_pos d, if_pos ⟨d.1, by simp; omega⟩]
    · rw [if_neg d, if_neg (fun h => d ⟨h.1, by have := h.2; simp at this; omega⟩)]
theorem Lf_succ (f : Nat → Int) (n : Nat) : Lf f (n + 1) = Lf f n ++ [f n] := by simp [Lf, List.range_succ]
def dropN (len rate first : Nat) : Nat := (len - first + rate - 1) / rate
theorem dropN_lt {len rate first j : Nat} (hr : 1 ≤ rate) : j < dropN len rate first ↔ first + j * rate < len := by
  unfold dropN
  rw [Nat.lt_iff_add_one_le, Nat.le_div_iff_mul_le (by omega), Nat.add_mul]
  omega
def dropM (l : List Int) (rate first : Nat) : List Int := Lf (fun j => l.getD (first + j * rate) 0) (dropN l.length rate first)
theorem dropM_length (l : List Int) (rate first : Nat) : (dropM l rate first).length = dropN l.length rate first := Lf_length _ _
theorem dropN_le {len rate first : Nat} (hr : 1 ≤ rate) : dropN len rate first ≤ len := by
  apply Nat.le_of_not_lt
  intro h
  have := (dropN_lt hr).1 h
  have h2 : len * 1 ≤ len * rate := Nat.mul_le_mul_left len hr
  omega
def stuffM (p : Nat) : List Int → List Int
  | [] => []
  | x :: t => (x :: List.replicate (p - 1) 0) ++ stuffM p t
theorem stuffM_length (p : Nat) (hp : 1 ≤ p) : ∀ l : List Int, (stuffM p l).length = l.length * p
  | [] => by simp [stuffM]
  | x :: t => by
    simp only [stuffM, List.length_append, List.length_cons, List.length_replicate, stuffM_length p hp t, Nat.add_mul]
    omega
theorem stuffM_snoc (p : Nat) (x : Int) : ∀ l : List Int, stuffM p (l ++ [x]) = stuffM p l ++ (x :: List.replicate (p - 1) 0)
  | [] => by simp [stuffM]
  | y :: t => by simp [stuffM, stuffM_snoc p x t]
theorem rd_getD (l : List Int) (i : Nat) : rd l (i : Int) = l.getD i 0 := by simp [rd]
theorem stuffM_sig (p : Nat) : ∀ l : List Int, (∀ x ∈ l, -100000 ≤ x ∧ x ≤ 100000) → ∀ x ∈ stuffM p l, -100000 ≤ x ∧ x ≤ 100000
  | [], _, x, h => by simp [stuffM] at h
  | y :: t, hl, x, h => by
    simp only [stuffM, List.mem_append, List.mem_cons, List.mem_replicate] at h
    rcases h with (rfl | ⟨_, rfl⟩) | h
    · exact hl _ (by simp)
    · omega
    · exact stuffM_sig p t (fun z hz => hl z (by simp [hz])) x h
theorem sig_iff {l : List Int} : sig l = true ↔ l.length ≤ 64 ∧ ∀ x ∈ l, -100000 ≤ x ∧ x ≤ 100000 := by simp [sig]
theorem ediv_bd {x b : Int} (hb : 0 < b) (hx : -4611686018427387904 ≤ x ∧ x ≤ 4611686018427387904) : -4611686018427387905 ≤ x / b ∧ x / b ≤ 4611686018427387905 := by
  have h0 := Int.emod_nonneg x (show b ≠ 0 by omega)
  have h1 := Int.emod_lt_of_pos x hb
  have h2 := Int.emod_add_mul_ediv x b
  constructor
  · apply Int.not_lt.1
    intro h
    have : b * (x / b) ≤ 1 * (x / b) := Int.mul_le_mul_of_nonpos_right (by omega) (by omega)
    have h3 : b * (x / b) ≤ b * (-4611686018427387906) := Int.mul_le_mul_of_nonneg_left (by omega) (by omega)
    omega
  · apply Int.not_lt.1
    intro h
    have h3 : 1 * (x / b) ≤ b * (x / b) := Int.mul_le_mul_of_nonneg_right (by omega) (by omega)
    omega
def atM (s : List Int) (i : Int) : Int := if 0 ≤ i then s.getD i.toNat 0 else 0
theorem getD_all {l : List Int} {M : Int} (hM : 0 ≤ M) (h : ∀ x ∈ l, -M ≤ x ∧ x ≤ M) (n : Nat) : -M ≤ l.getD n 0 ∧ l.getD n 0 ≤ M := by
  rw [List.getD_eq_getElem?_getD]
  by_cases c : n < l.length
  · rw [List.getElem?_eq_getElem c]
    exact h _ (List.getElem_mem c)
  · rw [List.getElem?_eq_none (by omega)]
    simp
    omega

theorem spec_l1In_eq (a b c : Int) : spec_l1In.f a b c = some (decide (b ≤ a) && decide (a ≤ c)) := by
  unfold spec_l1In.f
  by_cases h : b ≤ a <;> simp [h]

theorem impl_in_eq (a b c : Int) : impl_in.f a b c = some (decide (b ≤ a) && decide (a ≤ c)) := by
  unfold impl_in.f
  by_cases h : b ≤ a <;> simp [h]

theorem spec_l1All_l0 (lo hi : Int) (l : List Int) (hl : l.length ≤ 140737488351232) : ∀ (t p : List Int), l = p ++ t → Ev (fun k => spec_l1All.l0 k lo hi l (l.length : Int) (p.length : Int)) (t.all fun x => decide (lo ≤ x) && decide (x ≤ hi))
  | [], p, h => by
    apply Ev.step (f := fun _ => some _)
    · intro k
      subst h
      simp [spec_l1All.l0]; rfl
    · exact Ev.now _
  | x :: t, p, h => by
    have e1 : (p.length : Int) < (l.length : Int) := by rw [h]; exact lt_mid p t x
    have e2 : rd l (p.length : Int) = x := by rw [h]; exact rd_mid p t x
    have e3 : wrap64 ((p.length : Int) + 1) = ((p ++ [x]).length : Int) := nx_mid p t x (h ▸ hl)
    by_cases c : (decide (lo ≤ x) && decide (x ≤ hi)) = true
    · refine Ev.to (Ev.step (fun k => ?_) (spec_l1All_l0 lo hi l hl t (p ++ [x]) (by simp [h]))) (by rw [List.all_cons, c, Bool.true_and])
      simp only [spec_l1All.l0, if_pos e1, if_pos (Int.natCast_nonneg _), e2, e3, spec_l1In_eq, Option.bind_some, if_pos c]
    · refine Ev.to (Ev.step (fun k => ?_) (Ev.now false)) (by rw [List.all_cons, Bool.eq_false_iff.mpr c, Bool.false_and])
      simp only [spec_l1All.l0, if_pos e1, if_pos (Int.natCast_nonneg _), e2, e3, spec_l1In_eq, Option.bind_some, if_neg c]
theorem spec_l1All_ev (l : List Int) (lo hi : Int) (hl : l.length ≤ 140737488351232) : Ev (fun k => spec_l1All.f k l lo hi) (l.all fun x => decide (lo ≤ x) && decide (x ≤ hi)) := by
  simpa [spec_l1All.f] using spec_l1All_l0 lo hi l hl l [] rfl

theorem spec_wdSignal_ev (l : List Int) (hl : l.length ≤ 140737488351232) : Ev (fun k => spec_wdSignal.f k l) (sig l) := by
  simp only [spec_wdSignal.f]
  by_cases c : (l.length : Int) ≤ 64
  · refine Ev.tt c (Ev.bind (spec_l1All_ev l (-100000) 100000 hl) (Ev.to (Ev.now _) ?_))
    simp [sig]; omega
  · refine Ev.ff c (Ev.to (Ev.now _) ?_)
    simp [sig]; omega

theorem impl_isSignal_c1_eq (x : Int) : impl_isSignal_c1.f x = some (!(decide (-100000 ≤ x) && decide (x ≤ 100000))) := by
  unfold impl_isSignal_c1.f
  rw [impl_in_eq]
  rfl
theorem indexSignal_l0 (l : List Int) (hl : l.length ≤ 140737488351232) : ∀ (t p : List Int), l = p ++ t → ∃ r, Ev (fun k => slices_IndexFunc_int_int_impl_isSignal_c1.l0 k l (l.length : Int) (p.length : Int)) r ∧ (decide (r ≥ 0) = !(t.all fun x => decide (-100000 ≤ x) && decide (x ≤ 100000)))
  | [], p, h => by
    refine ⟨-1, Ev.step (f := fun _ => some (-1)) ?_ (Ev.now _), by simp⟩
    intro k
    subst h
    simp [slices_IndexFunc_int_int_impl_isSignal_c1.l0]
  | x :: t, p, h => by
    have e1 : (p.length : Int) < (l.length : Int) := by rw [h]; exact lt_mid p t x
    have e2 : rd l (p.length : Int) = x := by rw [h]; exact rd_mid p t x
    have e3 : wrap64 ((p.length : Int) + 1) = ((p ++ [x]).length : Int) := nx_mid p t x (h ▸ hl)
    by_cases c : (decide (-100000 ≤ x) && decide (x ≤ 100000)) = true
    · obtain ⟨r, h1, h2⟩ := indexSignal_l0 l hl t (p ++ [x]) (by simp [h])
      refine ⟨r, Ev.step (fun k => ?_) h1, by rw [h2, List.all_cons, c, Bool.true_and]⟩
      simp only [slices_IndexFunc_int_int_impl_isSignal_c1.l0, if_pos e1, if_pos (Int.natCast_nonneg _), e2, e3, impl_isSignal_c1_eq, c, Option.bind_some, Bool.not_true]
      rfl
    · have c := Bool.eq_false_iff.mpr c
      refine ⟨(p.length : Int), Ev.step (fun k => ?_) (Ev.now _), by rw [List.all_cons, c]; simp⟩
      simp only [slices_IndexFunc_int_int_impl_isSignal_c1.l0, if_pos e1, if_pos (Int.natCast_nonneg _), e2, e3, impl_isSignal_c1_eq, c, Option.bind_some, Bool.not_false]
      rfl
theorem impl_isSignal_ev (l : List Int) (hl : l.length ≤ 140737488351232) : Ev (fun k => impl_isSignal.f k l) (sig l) := by
  simp only [impl_isSignal.f]
  by_cases c : (l.length : Int) ≤ 64
  · obtain ⟨r, h1, h2⟩ := indexSignal_l0 l hl l [] rfl
    refine Ev.tt c (Ev.bind (a := decide (r ≥ 0)) ?_ (Ev.to (Ev.now _) ?_))
    · simp only [slices_ContainsFunc_int_int_impl_isSignal_c1.f, slices_IndexFunc_int_int_impl_isSignal_c1.f]
      exact Ev.bind h1 (Ev.now _)
    · rw [h2]; simp [sig]; omega
  · refine Ev.ff c (Ev.to (Ev.now _) ?_)
    simp [sig]; omega

theorem impl_told_ev (l : List Int) (hl : l.length ≤ 140737488351232) : Ev (fun k => impl_told.f k l) (toldM l) := by
  simp only [impl_told.f, toldM]
  refine Ev.bind (impl_isSignal_ev l hl) ?_
  by_cases c : sig l = true
  · exact Ev.tt c (Ev.to (Ev.now _) (by rw [if_pos c]))
  · exact Ev.ff c (Ev.to (Ev.now _) (by rw [if_neg c]))

theorem spec_tnStates_l0 (c : Int) (l : List Int) (hl : l.length ≤ 140737488351232) : ∀ (t p : List Int) (y z : Int), l = p ++ t → Ev (fun k => spec_tnStates.l0 k c y z l (l.length : Int) (p.length : Int)) (tnF c t y z)
  | [], p, y, z, h => by
    apply Ev.step (f := fun _ => some _)
    · intro k
      subst h
      simp [spec_tnStates.l0, tnF]; rfl
    · exact Ev.now _
  | x :: t, p, y, z, h => by
    have e1 : (p.length : Int) < (l.length : Int) := by rw [h]; exact lt_mid p t x
    have e2 : rd l (p.length : Int) = x := by rw [h]; exact rd_mid p t x
    have e3 : wrap64 ((p.length : Int) + 1) = ((p ++ [x]).length : Int) := nx_mid p t x (h ▸ hl)
    refine Ev.step (fun k => ?_) (spec_tnStates_l0 c l hl t (p ++ [x]) _ _ (by simp [h]))
    simp only [spec_tnStates.l0, if_pos e1, if_pos (Int.natCast_nonneg _), e2, e3]
theorem spec_tnStates_ev (l : List Int) (c : Int) (hl : l.length ≤ 140737488351232) : Ev (fun k => spec_tnStates.f k l c) (tnF c l 0 0) := by
  simpa [spec_tnStates.f] using spec_tnStates_l0 c l hl l [] 0 0 rfl

theorem spec_tnBack_eq (n : Int) : spec_tnBack.f n = some (backOf n) := by
  unfold spec_tnBack.f backOf
  repeat' split
  all_goals rfl

theorem impl_toneFactor_eq (n : Int) : impl_toneFactor.f n = some (backOf n) := by
  unfold impl_toneFactor.f backOf
  repeat' split
  all_goals rfl

theorem spec_ToneStates_ev (l : List Int) (n : Int) (hl : l.length ≤ 140737488351232) : Ev (fun k => spec_ToneStates.f k l n) (toneStates l n) := by
  simp only [spec_ToneStates.f, toneStates]
  refine Ev.dbind (spec_tnBack_eq n) ?_
  by_cases c : (backOf n).2 = true
  · rw [if_pos c]
    refine Ev.tt c (Ev.bind (spec_wdSignal_ev l hl) ?_)
    by_cases d : sig l = true
    · rw [if_pos d]
      exact Ev.tt d (Ev.bind (spec_tnStates_ev l _ hl) (Ev.now _))
    · rw [if_neg d]
      exact Ev.ff d (Ev.now _)
  · rw [if_neg c]
    exact Ev.ff c (Ev.now _)

theorem impl_ToneStates_l0 (c : Int) (l : List Int) (hl : l.length ≤ 140737488351232) : ∀ (t p : List Int) (y z : Int), l = p ++ t → Ev (fun k => impl_ToneStates.l0 k c y z l (l.length : Int) (p.length : Int)) ((tnF c t y z).1, (tnF c t y z).2, true)
  | [], p, y, z, h => by
    apply Ev.step (f := fun _ => some _)
    · intro k
      subst h
      simp [impl_ToneStates.l0, tnF]; rfl
    · exact Ev.now _
  | x :: t, p, y, z, h => by
    have e1 : (p.length : Int) < (l.length : Int) := by rw [h]; exact lt_mid p t x
    have e2 : rd l (p.length : Int) = x := by rw [h]; exact rd_mid p t x
    have e3 : wrap64 ((p.length : Int) + 1) = ((p ++ [x]).length : Int) := nx_mid p t x (h ▸ hl)
    refine Ev.step (fun k => ?_) (impl_ToneStates_l0 c l hl t (p ++ [x]) _ _ (by simp [h]))
    simp only [impl_ToneStates.l0, if_pos e1, if_pos (Int.natCast_nonneg _), e2, e3]
theorem impl_ToneStates_ev (l : List Int) (n : Int) (hl : l.length ≤ 140737488351232) : Ev (fun k => impl_ToneStates.f k l n) (toneStates l n) := by
  simp only [impl_ToneStates.f, toneStates]
  refine Ev.dbind (impl_toneFactor_eq n) ?_
  by_cases c : (backOf n).2 = true
  · rw [if_pos c]
    refine Ev.tt c (Ev.bind (impl_isSignal_ev l hl) ?_)
    by_cases d : sig l = true
    · rw [if_pos d]
      refine Ev.step (fun k => by simp only [impl_ToneStates.j0, d, Bool.not_true]; rfl) (impl_ToneStates_l0 _ l hl l [] 0 0 rfl)
    · rw [if_neg d]
      refine Ev.step (fun k => by simp only [impl_ToneStates.j0, Bool.eq_false_iff.mpr d, Bool.not_false]; rfl) (Ev.now _)
  · rw [if_neg c]
    refine Ev.ff c (Ev.step (fun k => by simp only [impl_ToneStates.j0]; rfl) (Ev.now _))

def tonePow (c : Int) (p : Int × Int) : Int := wrap64 ((wrap64 ((wrap64 (p.1 * p.1)) + (wrap64 (p.2 * p.2)))) - (wrap64 ((wrap64 (c * p.1)) * p.2)))
def tonePower (l : List Int) (n : Int) : Int × Bool := if (backOf n).2 = true then (if sig l = true then (tonePow (backOf n).1 (tnF (backOf n).1 l 0 0), true) else (0, false)) else (0, false)
theorem spec_TonePower_ev (l : List Int) (n : Int) (hl : l.length ≤ 140737488351232) : Ev (fun k => spec_TonePower.f k l n) (tonePower l n) := by
  simp only [spec_TonePower.f, tonePower]
  refine Ev.dbind (spec_tnBack_eq n) ?_
  by_cases c : (backOf n).2 = true
  · rw [if_pos c]
    refine Ev.tt c (Ev.bind (spec_wdSignal_ev l hl) ?_)
    by_cases d : sig l = true
    · rw [if_pos d]
      exact Ev.tt d (Ev.bind (spec_tnStates_ev l _ hl) (Ev.now _))
    · rw [if_neg d]
      exact Ev.ff d (Ev.now _)
  · rw [if_neg c]
    exact Ev.ff c (Ev.now _)

theorem impl_TonePower_ev (l : List Int) (n : Int) (hl : l.length ≤ 140737488351232) : Ev (fun k => impl_TonePower.f k l n) (tonePower l n) := by
  simp only [impl_TonePower.f]
  refine Ev.bind (impl_ToneStates_ev l n hl) (Ev.dbind (impl_toneFactor_eq n) (Ev.to (Ev.now _) ?_))
  unfold toneStates tonePower
  by_cases c : (backOf n).2 = true
  · simp only [if_pos c]
    by_cases d : sig l = true
    · simp only [if_pos d, tonePow]
    · simp only [if_neg d]
      simp [wrap64]
  · simp only [if_neg c]
    simp [wrap64]
theorem TonePower_agree (l : List Int) (n : Int) (hl : l.length ≤ 1048576) : ∃ r, Ev (fun k => spec_TonePower.f k l n) r ∧ Ev (fun k => impl_TonePower.f k l n) r ∧ True :=
  ⟨_, spec_TonePower_ev l n (by omega), impl_TonePower_ev l n (by omega), trivial⟩

/-- What a cursor gives: a value with P, and at most c steps further. -/
def Dr {α : Type} (P : α → Prop) (c : Int) (a : Int) (g : Option (α × Int × Int)) : Prop := ∃ v a' sd, g = some (v, a', sd) ∧ a ≤ a' ∧ a' ≤ a + c ∧ P v
theorem u64_bd (n : Int) : 0 ≤ IntKind.u64.wrap n ∧ IntKind.u64.wrap n < 18446744073709551616 := by
  simp only [IntKind.wrap, IntKind.bits, IntKind.signed]
  simp
  omega
theorem u64_and255 (x : Int) (h0 : 0 ≤ x) (h1 : x < 18446744073709551616) : Go.bits .and .u64 x 255 = x % 256 :=
  bits_mask .u64 64 (by decide) (fun n h0 h1 => by
    simp only [IntKind.wrap, IntKind.bits, IntKind.signed]
    simp
    omega) 8 (by decide) x h0 h1
def Bytes (l : List Int) : Prop := l.length ≤ 1048576 ∧ ∀ x ∈ l, 0 ≤ x ∧ x ≤ 255
theorem next_ok {l : List Int} (hl : Bytes l) (a sd : Int) (h0 : 0 ≤ a) (h1 : a ≤ 1000000000000000) : Dr (fun v => 0 ≤ v ∧ v ≤ 255) 1 a (spec_l1Cur_next.f l a sd) := by
  have hw : wrap64 (a + 1) = a + 1 := w64 (by omega) (by omega)
  have hm : ∀ y : Int, 0 ≤ wrap64 (Go.bits .and .u64 (IntKind.u64.wrap y / 1099511627776) 255) ∧ wrap64 (Go.bits .and .u64 (IntKind.u64.wrap y / 1099511627776) 255) ≤ 255 := by
    intro y
    have hy := u64_bd y
    rw [u64_and255 _ (by omega) (by omega), w64 (n := IntKind.u64.wrap y / 1099511627776 % 256) (by omega) (by omega)]
    omega
  unfold spec_l1Cur_next.f
  by_cases c : a < (l.length : Int)
  · have hr : 0 ≤ rd l a ∧ rd l a ≤ 255 := by
      obtain ⟨n, rfl⟩ : ∃ n : Nat, a = (n : Int) := ⟨a.toNat, by omega⟩
      have hn : n < l.length := by omega
      rw [rd_getD, List.getD_eq_getElem?_getD, List.getElem?_eq_getElem hn]
      exact hl.2 _ (List.getElem_mem hn)
    rw [if_pos c, if_pos h0, hw, if_pos (by omega), w64 (n := rd l a) (by omega) (by omega)]
    exact ⟨_, _, _, rfl, by omega, by omega, hr⟩
  · rw [if_neg c, hw]
    by_cases d : a + 1 ≤ (l.length : Int)
    · omega
    · rw [if_neg d]
      exact ⟨_, _, _, rfl, by omega, by omega, hm _⟩

theorem pick_ok {l : List Int} (hl : Bytes l) (a sd n : Int) (h0 : 0 ≤ a) (h1 : a ≤ 100000000000000) (hn : n ≤ 1000000) : Dr (fun v => 0 ≤ v ∧ (v < n ∨ v = 0)) 2 a (spec_l1Cur_pick.f l a sd n) := by
  unfold spec_l1Cur_pick.f
  by_cases c : n ≤ 1
  · rw [if_pos c]
    exact ⟨_, _, _, rfl, by omega, by omega, by omega, .inr rfl⟩
  · rw [if_neg c]
    obtain ⟨v, a', sd', e, ha, hb, hv⟩ := next_ok hl a sd h0 (by omega)
    rw [e]
    simp only [Option.bind_some]
    have hn0 : ¬ n = 0 := by omega
    by_cases d : n > 200
    · rw [if_pos d]
      obtain ⟨v2, a2, sd2, e2, ha2, hb2, hv2⟩ := next_ok hl a' sd' (by omega) (by omega)
      rw [e2]
      simp only [Option.bind_some]
      rw [if_neg hn0, w64 (n := v * 256) (by omega) (by omega), w64 (n := v * 256 + v2) (by omega) (by omega), Int.tmod_eq_emod_of_nonneg (by omega)]
      have := Int.emod_nonneg (v * 256 + v2) hn0
      have := Int.emod_lt_of_pos (v * 256 + v2) (show 0 < n by omega)
      exact ⟨_, _, _, rfl, by omega, by omega, by omega, .inl (by omega)⟩
    · rw [if_neg d, if_neg hn0, Int.tmod_eq_emod_of_nonneg (by omega)]
      have := Int.emod_nonneg v hn0
      have := Int.emod_lt_of_pos v (show 0 < n by omega)
      exact ⟨_, _, _, rfl, by omega, by omega, by omega, .inl (by omega)⟩

theorem among_ok {l : List Int} (hl : Bytes l) (a sd : Int) (m : List Int) (h0 : 0 ≤ a) (h1 : a ≤ 100000000000000) (hm : 1 ≤ m.length) (hm2 : m.length ≤ 1000) : Dr (fun v => v ∈ m) 2 a (spec_l1Cur_among.f l a sd m) := by
  unfold spec_l1Cur_among.f
  obtain ⟨v, a', sd', e, ha, hb, hv, hv2⟩ := pick_ok hl a sd (m.length : Int) h0 h1 (by omega)
  rw [e]
  simp only [Option.bind_some]
  rw [if_pos hv, if_pos (by omega)]
  refine ⟨_, _, _, rfl, ha, hb, ?_⟩
  obtain ⟨n, rfl⟩ : ∃ n : Nat, v = (n : Int) := ⟨v.toNat, by omega⟩
  have hn : n < m.length := by omega
  rw [rd_getD, List.getD_eq_getElem?_getD, List.getElem?_eq_getElem hn]
  exact List.getElem_mem hn

theorem one_ok {l : List Int} (hl : Bytes l) (a sd n : Int) (h0 : 0 ≤ a) (h1 : a ≤ 100000000000000) (hn : n ≤ 1000000) : Dr (fun _ => True) 2 a (spec_l1Cur_one.f l a sd n) := by
  unfold spec_l1Cur_one.f
  obtain ⟨v, a', sd', e, ha, hb, hv, hv2⟩ := pick_ok hl a sd n h0 h1 hn
  rw [e]
  simp only [Option.bind_some]
  exact ⟨_, _, _, rfl, ha, hb, trivial⟩

theorem laws_big_eq (l m : List Int) (hl : l.length ≤ 140737488355328) (hm : m.length ≤ 140737488355328) : laws_big.f l m = some (decide (1048576 < l.length + m.length)) := by
  unfold laws_big.f
  by_cases c : (l.length : Int) > 1048576
  · rw [if_pos c]
    simp; omega
  · rw [if_neg c, w64 (n := 1048576 - (l.length : Int)) (by omega) (by omega)]
    simp; omega
theorem bytes_of {l : List Int} (h : l.length ≤ 1048576) (hx : ∀ x ∈ l, (Lit.int .u8 x).wf = true) : Bytes l := by
  refine ⟨h, fun x hxl => ?_⟩
  have := hx x hxl
  simp [Lit.wf, IntKind.min, IntKind.max, IntKind.signed, IntKind.bits] at this
  omega

/-- A number shifted: down, to the nearest one, towards 0. -/
def shM (x b mode : Int) : Int := if mode = 1 ∧ b ≤ 2 * (x % b) ∧ 0 < x % b then x / b + 1 else if mode = 2 ∧ x < 0 ∧ 0 < x % b then x / b + 1 else x / b
theorem div_uniq {x b q r : Int} (h : x = q * b + r) (h0 : 0 ≤ r) (h1 : r < b) : x / b = q := by
  have hb : 0 < b := by omega
  exact ((Int.ediv_emod_unique hb).2 ⟨by rw [h, Int.mul_comm]; omega, h0, h1⟩).1
theorem pow2_pos (s : Nat) : (0 : Int) < 2 ^ s := Int.pow_pos (by decide)
theorem pow2_le {s : Nat} (h : s ≤ 20) : (2 : Int) ^ s ≤ 1048576 := by
  have h1 : (2 : Nat) ^ s ≤ 2 ^ 20 := Nat.pow_le_pow_right (by decide) h
  have h3 : (2 : Int) ^ s = (((2 : Nat) ^ s : Nat) : Int) := by simp
  rw [h3]
  have h2 : (2 : Nat) ^ 20 = 1048576 := by decide
  omega
theorem shl_one {s : Nat} (h : s ≤ 20) : shl .i64 1 (s : Int) = 2 ^ s := by
  unfold shl
  have h1 : min ((s : Int)).toNat IntKind.i64.bits = s := by
    simp [IntKind.bits]; omega
  rw [h1, Int.one_mul, IntKind.wrap_i64]
  have := pow2_pos s
  have := pow2_le h
  omega
theorem shl_mul {s : Nat} (h : s ≤ 20) (y : Int) (h1 : -9223372036854775808 ≤ y * 2 ^ s) (h2 : y * 2 ^ s ≤ 9223372036854775807) : shl .i64 y (s : Int) = y * 2 ^ s := by
  unfold shl
  have e : min ((s : Int)).toNat IntKind.i64.bits = s := by
    simp [IntKind.bits]; omega
  rw [e, IntKind.wrap_i64]
  omega
theorem shr_div {s : Nat} (h : s ≤ 20) (y : Int) : shr .i64 y (s : Int) = y / 2 ^ s := by
  unfold shr
  have e : min ((s : Int)).toNat IntKind.i64.bits = s := by
    simp [IntKind.bits]; omega
  rw [e]
theorem mod_eq (x b : Int) : x = (x / b) * b + x % b := by
  have := Int.emod_add_mul_ediv x b
  rw [Int.mul_comm] at this
  omega

def numOk (x : Int) : Bool := decide (-1000000000000 ≤ x) && decide (x ≤ 1000000000000)
def modeOk (s mode : Int) : Bool := (decide (0 ≤ s) && decide (s ≤ 20)) && (decide (0 ≤ mode) && decide (mode ≤ 2))
theorem numOk_iff {x : Int} : numOk x = true ↔ -1000000000000 ≤ x ∧ x ≤ 1000000000000 := by simp [numOk]
theorem modeOk_iff {s m : Int} : modeOk s m = true ↔ (0 ≤ s ∧ s ≤ 20) ∧ (0 ≤ m ∧ m ≤ 2) := by simp [modeOk]

theorem signal_l0 {l : List Int} (hl : Bytes l) (sz : Int) (hs : 1 ≤ sz ∧ sz ≤ 100000) : ∀ (n : Nat) (q : List Int) (a sd : Int), q.length + n ≤ 100000 → 0 ≤ a → a + 10 * n ≤ 100000000000 → ∃ s a' sd', Ev (fun k => spec_l1Cur_signal.l0 k sz q (n : Int) l a sd) (s, a', sd') ∧ s.length ≤ 100001 ∧ a ≤ a' ∧ a' ≤ a + 10 * n + 10
  | 0, q, a, sd, hq, h0, h1 => by
    obtain ⟨u, a1, sd1, e1, ha1, hb1, -⟩ := pick_ok hl a sd 16 h0 (by omega) (by omega)
    by_cases c : u = 0
    · obtain ⟨v, a2, sd2, e2, ha2, hb2, -⟩ := among_ok hl a1 sd1 [100000, (-100000), 100001, 4611686018427387904] (by omega) (by omega) (by simp) (by simp)
      refine ⟨q ++ [v], a2, sd2, Ev.step (f := fun _ => some (q ++ [v], a2, sd2)) (fun k => ?_) (Ev.now _), by simp; omega, by omega, by omega⟩
      simp only [spec_l1Cur_signal.l0, e1, e2, Option.bind_some, if_pos c]
      rw [if_neg (by omega), if_pos (by omega)]
    · by_cases d : u = 1
      · obtain ⟨v, a2, sd2, e2, ha2, hb2, hv, hv2⟩ := pick_ok hl a1 sd1 2 (by omega) (by omega) (by omega)
        have e3 : wrap64 (64 + v) = 64 + v := w64 (by omega) (by omega)
        refine ⟨List.replicate (64 + v).toNat 0, a2, sd2, Ev.step (f := fun _ => some (List.replicate (64 + v).toNat 0, a2, sd2)) (fun k => ?_) (Ev.now _), by simp; omega, by omega, by omega⟩
        simp only [spec_l1Cur_signal.l0, e1, e2, Option.bind_some, if_neg c, if_pos d, e3]
        rw [if_neg (by omega), if_pos (by omega), if_pos (by omega)]
      · refine ⟨q, a1, sd1, Ev.step (f := fun _ => some (q, a1, sd1)) (fun k => ?_) (Ev.now _), by omega, by omega, by omega⟩
        simp only [spec_l1Cur_signal.l0, e1, Option.bind_some, if_neg c, if_neg d]
        rw [if_neg (by omega)]
  | n + 1, q, a, sd, hq, h0, h1 => by
    obtain ⟨u, a1, sd1, e1, ha1, hb1, -⟩ := one_ok hl a sd 4 h0 (by omega) (by omega)
    have e3 : wrap64 (((n + 1 : Nat) : Int) - 1) = (n : Int) := by
      rw [w64 (n := ((n + 1 : Nat) : Int) - 1) (by omega) (by omega)]
      omega
    have hn : ((n + 1 : Nat) : Int) > 0 := by omega
    have hql : q.length < 17592186044416 := by omega
    by_cases c : u = true
    · obtain ⟨s, a', sd', h, hs1, ha, hb⟩ := signal_l0 hl sz hs n (q ++ [0]) a1 sd1 (by simp; omega) (by omega) (by omega)
      refine ⟨s, a', sd', Ev.step (fun k => ?_) h, hs1, by omega, by omega⟩
      simp only [spec_l1Cur_signal.l0, e1, Option.bind_some, if_pos c, if_pos hn, if_pos hql, e3]
    · have e4 : wrap64 (wrap64 (2 * sz) + 1) = 2 * sz + 1 := by
        rw [w64 (n := 2 * sz) (by omega) (by omega), w64 (n := 2 * sz + 1) (by omega) (by omega)]
      obtain ⟨v, a2, sd2, e2, ha2, hb2, -⟩ := pick_ok hl a1 sd1 (2 * sz + 1) (by omega) (by omega) (by omega)
      obtain ⟨s, a', sd', h, hs1, ha, hb⟩ := signal_l0 hl sz hs n (q ++ [wrap64 (v - sz)]) a2 sd2 (by simp; omega) (by omega) (by omega)
      refine ⟨s, a', sd', Ev.step (fun k => ?_) h, hs1, by omega, by omega⟩
      simp only [spec_l1Cur_signal.l0, e1, Option.bind_some, if_neg c, if_pos hn, e4, e2, if_pos hql, e3]
theorem signal_ok {l : List Int} (hl : Bytes l) (a sd most sz : Int) (h0 : 0 ≤ a) (h1 : a ≤ 1000000000) (hm : 0 ≤ most ∧ most ≤ 10000) (hs : 1 ≤ sz ∧ sz ≤ 100000) : ∃ s a' sd', Ev (fun k => spec_l1Cur_signal.f k l a sd most sz) (s, a', sd') ∧ s.length ≤ 100001 ∧ a ≤ a' ∧ a' ≤ a + 1000000 := by
  obtain ⟨u, a1, sd1, e1, ha1, hb1, hu, hu2⟩ := pick_ok hl a sd (most + 1) h0 (by omega) (by omega)
  obtain ⟨n, rfl⟩ : ∃ n : Nat, u = (n : Int) := ⟨u.toNat, by omega⟩
  obtain ⟨s, a', sd', h, hs1, ha, hb⟩ := signal_l0 hl sz hs n [] a1 sd1 (by simp; omega) (by omega) (by omega)
  refine ⟨s, a', sd', ?_, hs1, by omega, by omega⟩
  simp only [spec_l1Cur_signal.f]
  rw [w64 (n := most + 1) (by omega) (by omega)]
  exact Ev.dbind e1 h

def trn (p i : Int) : Int × Int := ((rd_T66 (turnsL p) i).f0, (rd_T66 (turnsL p) i).f1)
theorem turns_len {p : Int} (hp : p = 4 ∨ p = 6) : ((turnsL p).length : Int) = p := by
  rcases hp with rfl | rfl <;> rfl
theorem six_of {i : Int} (h0 : 0 ≤ i) (h1 : i < 6) : i = 0 ∨ i = 1 ∨ i = 2 ∨ i = 3 ∨ i = 4 ∨ i = 5 := by omega
theorem four_of {i : Int} (h0 : 0 ≤ i) (h1 : i < 4) : i = 0 ∨ i = 1 ∨ i = 2 ∨ i = 3 := by omega
theorem trn_bd {p i : Int} (hp : p = 4 ∨ p = 6) (h0 : 0 ≤ i) (h1 : i < p) : (-1 ≤ (trn p i).1 ∧ (trn p i).1 ≤ 1) ∧ (-1 ≤ (trn p i).2 ∧ (trn p i).2 ≤ 1) := by
  rcases hp with rfl | rfl
  · rcases four_of h0 h1 with rfl | rfl | rfl | rfl <;> decide
  · rcases six_of h0 h1 with rfl | rfl | rfl | rfl | rfl | rfl <;> decide
theorem kn_bd {k : Int} {n : Nat} (hk : 0 ≤ k ∧ k ≤ 5) (hn : n ≤ 64) : 0 ≤ k * (n : Int) ∧ k * (n : Int) ≤ 320 := by
  refine ⟨Int.mul_nonneg hk.1 (by omega), ?_⟩
  have h : k * (n : Int) ≤ 5 * (n : Int) := Int.mul_le_mul_of_nonneg_right hk.2 (by omega)
  omega
def tnIx (p k : Int) (n : Nat) : Int := (-(k * (n : Int))) % p
theorem tnIx_bd {p : Int} (hp : p = 4 ∨ p = 6) (k : Int) (n : Nat) : 0 ≤ tnIx p k n ∧ tnIx p k n < p := by
  unfold tnIx
  rcases hp with rfl | rfl <;> exact ⟨Int.emod_nonneg _ (by decide), Int.emod_lt_of_pos _ (by decide)⟩
def tnM (p k : Int) : List Int → Nat → Int → Int → Int × Int
  | [], _, a, b => (a, b)
  | x :: t, n, a, b => tnM p k t (n + 1) (wrap64 (a + wrap64 (x * (trn p (tnIx p k n)).1))) (wrap64 (b + wrap64 (x * (trn p (tnIx p k n)).2)))

theorem tmod_p {p K : Int} (hp : p = 4 ∨ p = 6) (hK : 0 ≤ K ∧ K ≤ 320) : Int.tmod (wrap64 (Int.tmod (-K) p + p)) p = (-K) % p := by
  rw [Int.neg_tmod, Int.tmod_eq_emod_of_nonneg hK.1]
  rcases hp with rfl | rfl
  · rw [w64 (n := -(K % 4) + 4) (by omega) (by omega), Int.tmod_eq_emod_of_nonneg (by omega)]
    omega
  · rw [w64 (n := -(K % 6) + 6) (by omega) (by omega), Int.tmod_eq_emod_of_nonneg (by omega)]
    omega
theorem mod_ix {p k : Int} {n : Nat} (hp : p = 4 ∨ p = 6) (hk : 0 ≤ k ∧ k ≤ 5) (hn : n ≤ 64) : impl_mod.f (wrap64 ((wrap64 (-k)) * (n : Int))) p = some (tnIx p k n) := by
  have hK := kn_bd hk hn
  rw [w64 (n := -k) (by omega) (by omega), Int.neg_mul]
  unfold tnIx
  generalize k * (n : Int) = K at *
  rw [w64 (n := -K) (by omega) (by omega)]
  unfold impl_mod.f
  rw [if_neg (by omega), tmod_p hp hK]
theorem impl_toneOf_l0 {p k : Int} (hp : p = 4 ∨ p = 6) (hk : 0 ≤ k ∧ k ≤ 5) (l : List Int) (hl : l.length ≤ 64) : ∀ (t q : List Int) (a b : Int), l = q ++ t →
    Ev (fun m => impl_toneOf.l0 m p k (turnsL p) l (l.length : Int) (q.length : Int) a b) (tnM p k t q.length a b)
  | [], q, a, b, h => by
    apply Ev.step (f := fun _ => some (a, b))
    · intro m
      subst h
      simp [impl_toneOf.l0]
    · exact Ev.now _
  | x :: t, q, a, b, h => by
    have e1 : (q.length : Int) < (l.length : Int) := by rw [h]; exact lt_mid q t x
    have e2 : rd l (q.length : Int) = x := by rw [h]; exact rd_mid q t x
    have e3 : wrap64 ((q.length : Int) + 1) = ((q ++ [x]).length : Int) := nx_mid q t x (by rw [← h]; omega)
    have e4 := mod_ix (n := q.length) hp hk (by omega)
    have e5 := tnIx_bd hp k q.length
    have e6 : tnIx p k q.length < ((turnsL p).length : Int) := by rw [turns_len hp]; exact e5.2
    have ih := impl_toneOf_l0 hp hk l hl t (q ++ [x]) (wrap64 (a + wrap64 (x * (trn p (tnIx p k q.length)).1))) (wrap64 (b + wrap64 (x * (trn p (tnIx p k q.length)).2))) (by simp [h])
    have e7 : (q ++ [x]).length = q.length + 1 := by simp
    rw [e7] at ih e3
    refine Ev.step (fun m => by simp only [impl_toneOf.l0]; rfl) ?_
    rw [e2, e3]
    exact Ev.tt e1 (Ev.tt (Int.natCast_nonneg _) (Ev.tt e1 (Ev.dbind e4 (Ev.tt e5.1 (Ev.tt e6 ih)))))
theorem impl_toneOf_ev {p k : Int} (hp : p = 4 ∨ p = 6) (hk : 0 ≤ k ∧ k ≤ 5) (l : List Int) (hl : l.length ≤ 64) : Ev (fun m => impl_toneOf.f m l p k) (tnM p k l 0 0 0) := by
  simp only [impl_toneOf.f]
  exact Ev.dbind rfl (impl_toneOf_l0 hp hk l hl l [] 0 0 rfl)

theorem spec_tnTurn_eq {p m : Int} (hp : p = 4 ∨ p = 6) (hm : 0 ≤ m) : spec_tnTurn.f p m = some (trn p (m % p)) := by
  unfold spec_tnTurn.f
  rcases hp with rfl | rfl
  · rw [if_pos rfl, Int.tmod_eq_emod_of_nonneg hm]
    rcases four_of (Int.emod_nonneg m (by decide)) (Int.emod_lt_of_pos m (by decide)) with h | h | h | h <;> rw [h] <;> rfl
  · rw [if_neg (by decide), Int.tmod_eq_emod_of_nonneg hm]
    rcases six_of (Int.emod_nonneg m (by decide)) (Int.emod_lt_of_pos m (by decide)) with h | h | h | h | h | h <;> rw [h] <;> rfl

theorem spec_turn_ix {p k : Int} {n : Nat} (hp : p = 4 ∨ p = 6) (hk : 0 ≤ k ∧ k ≤ 5) (hkp : k ≤ p) (hn : n ≤ 64) : spec_tnTurn.f p (wrap64 ((wrap64 (p - k)) * (n : Int))) = some (trn p (tnIx p k n)) := by
  have hq : 0 ≤ p - k ∧ p - k ≤ 6 := by omega
  have h0 : 0 ≤ (p - k) * (n : Int) := Int.mul_nonneg hq.1 (by omega)
  have h1 : (p - k) * (n : Int) ≤ 6 * (n : Int) := Int.mul_le_mul_of_nonneg_right hq.2 (by omega)
  rw [w64 (n := p - k) (by omega) (by omega), w64 (n := (p - k) * (n : Int)) (by omega) (by omega), spec_tnTurn_eq hp h0]
  congr 2
  unfold tnIx
  rw [Int.sub_mul, show p * (n : Int) - k * n = -(k * n) + p * n by omega, Int.add_mul_emod_self_left]
theorem spec_tnTone_l0 {p k : Int} (hp : p = 4 ∨ p = 6) (hk : 0 ≤ k ∧ k ≤ 5) (hkp : k ≤ p) (l : List Int) (hl : l.length ≤ 64) : ∀ (t q : List Int) (a b : Int), l = q ++ t →
    Ev (fun m => spec_tnTone.l0 m p k l (l.length : Int) (q.length : Int) a b) (tnM p k t q.length a b)
  | [], q, a, b, h => by
    apply Ev.step (f := fun _ => some (a, b))
    · intro m
      subst h
      simp [spec_tnTone.l0]
    · exact Ev.now _
  | x :: t, q, a, b, h => by
    have e1 : (q.length : Int) < (l.length : Int) := by rw [h]; exact lt_mid q t x
    have e2 : rd l (q.length : Int) = x := by rw [h]; exact rd_mid q t x
    have e3 : wrap64 ((q.length : Int) + 1) = ((q ++ [x]).length : Int) := nx_mid q t x (by rw [← h]; omega)
    have e4 := spec_turn_ix (n := q.length) hp hk hkp (by omega)
    have ih := spec_tnTone_l0 hp hk hkp l hl t (q ++ [x]) (wrap64 (a + wrap64 (x * (trn p (tnIx p k q.length)).1))) (wrap64 (b + wrap64 (x * (trn p (tnIx p k q.length)).2))) (by simp [h])
    have e7 : (q ++ [x]).length = q.length + 1 := by simp
    rw [e7] at ih e3
    refine Ev.step (fun m => by simp only [spec_tnTone.l0]; rfl) ?_
    rw [e2, e3]
    exact Ev.tt e1 (Ev.tt (Int.natCast_nonneg _) (Ev.tt e1 (Ev.dbind e4 ih)))
theorem spec_tnTone_ev {p k : Int} (hp : p = 4 ∨ p = 6) (hk : 0 ≤ k ∧ k ≤ 5) (hkp : k ≤ p) (l : List Int) (hl : l.length ≤ 64) : Ev (fun m => spec_tnTone.f m l p k) (tnM p k l 0 0 0) := by
  simp only [spec_tnTone.f]
  exact spec_tnTone_l0 hp hk hkp l hl l [] 0 0 rfl

def toneTM (p : Int) (l : List Int) (k : Int) : Int × Int × Bool := if (sig l && (decide (0 ≤ k) && decide (k ≤ p - 1))) = true then ((tnM p k l 0 0 0).1, (tnM p k l 0 0 0).2, true) else (0, 0, false)
theorem impl_toneTold_ev {p : Int} (hp : p = 4 ∨ p = 6) (l : List Int) (k : Int) (hl : l.length ≤ 10000000) : Ev (fun m => impl_toneTold.f m l p k) (toneTM p l k) := by
  simp only [impl_toneTold.f, impl_in_eq, Option.bind_some]
  rw [w64 (n := p - 1) (by omega) (by omega)]
  refine Ev.bind (impl_isSignal_ev l (by omega)) ?_
  by_cases c : sig l = true
  · refine Ev.tt c ?_
    by_cases d : (decide (0 ≤ k) && decide (k ≤ p - 1)) = true
    · have hk : 0 ≤ k ∧ k ≤ p - 1 := by simpa only [Bool.and_eq_true, decide_eq_true_eq] using d
      refine Ev.tt d (Ev.bind (impl_toneOf_ev hp (by omega) l (sig_len c)) (Ev.to (Ev.now _) ?_))
      rw [toneTM, if_pos (by rw [c, d]; rfl)]
    · refine Ev.ff d (Ev.to (Ev.now _) ?_)
      rw [toneTM, if_neg (by rw [Bool.eq_false_iff.mpr d, Bool.and_false]; decide)]
  · refine Ev.ff c (Ev.to (Ev.now _) ?_)
    rw [toneTM, if_neg (by rw [Bool.eq_false_iff.mpr c, Bool.false_and]; decide)]

theorem spec_FourTone_ev (l : List Int) (k : Int) (hl : l.length ≤ 10000000) : Ev (fun m => spec_FourTone.f m l k) (toneTM 4 l k) := by
  simp only [spec_FourTone.f, spec_l1In_eq, Option.bind_some]
  refine Ev.bind (spec_wdSignal_ev l (by omega)) ?_
  by_cases c : sig l = true
  · refine Ev.tt c ?_
    by_cases d : (decide (0 ≤ k) && decide (k ≤ 3)) = true
    · have hk : 0 ≤ k ∧ k ≤ 3 := by simpa only [Bool.and_eq_true, decide_eq_true_eq] using d
      refine Ev.tt d (Ev.bind (spec_tnTone_ev (.inl rfl) (by omega) (by omega) l (sig_len c)) (Ev.to (Ev.now _) ?_))
      rw [toneTM, if_pos (by rw [c, show (4 : Int) - 1 = 3 from rfl, d]; rfl)]
    · refine Ev.ff d (Ev.to (Ev.now _) ?_)
      rw [toneTM, if_neg (by rw [show (4 : Int) - 1 = 3 from rfl, Bool.eq_false_iff.mpr d, Bool.and_false]; decide)]
  · refine Ev.ff c (Ev.to (Ev.now _) ?_)
    rw [toneTM, if_neg (by rw [Bool.eq_false_iff.mpr c, Bool.false_and]; decide)]

theorem spec_SixTone_ev (l : List Int) (k : Int) (hl : l.length ≤ 10000000) : Ev (fun m => spec_SixTone.f m l k) (toneTM 6 l k) := by
  simp only [spec_SixTone.f, spec_l1In_eq, Option.bind_some]
  refine Ev.bind (spec_wdSignal_ev l (by omega)) ?_
  by_cases c : sig l = true
  · refine Ev.tt c ?_
    by_cases d : (decide (0 ≤ k) && decide (k ≤ 5)) = true
    · have hk : 0 ≤ k ∧ k ≤ 5 := by simpa only [Bool.and_eq_true, decide_eq_true_eq] using d
      refine Ev.tt d (Ev.bind (spec_tnTone_ev (.inr rfl) (by omega) (by omega) l (sig_len c)) (Ev.to (Ev.now _) ?_))
      rw [toneTM, if_pos (by rw [c, show (6 : Int) - 1 = 5 from rfl, d]; rfl)]
    · refine Ev.ff d (Ev.to (Ev.now _) ?_)
      rw [toneTM, if_neg (by rw [show (6 : Int) - 1 = 5 from rfl, Bool.eq_false_iff.mpr d, Bool.and_false]; decide)]
  · refine Ev.ff c (Ev.to (Ev.now _) ?_)
    rw [toneTM, if_neg (by rw [Bool.eq_false_iff.mpr c, Bool.false_and]; decide)]

theorem impl_FourTone_ev (l : List Int) (k : Int) (hl : l.length ≤ 10000000) : Ev (fun m => impl_FourTone.f m l k) (toneTM 4 l k) := by
  simp only [impl_FourTone.f]
  exact Ev.bind (impl_toneTold_ev (.inl rfl) l k hl) (Ev.now _)

theorem impl_SixTone_ev (l : List Int) (k : Int) (hl : l.length ≤ 10000000) : Ev (fun m => impl_SixTone.f m l k) (toneTM 6 l k) := by
  simp only [impl_SixTone.f]
  exact Ev.bind (impl_toneTold_ev (.inr rfl) l k hl) (Ev.now _)

def powM (p : Int) (z : Int × Int) : Int := if p = 6 then wrap64 (wrap64 (wrap64 (z.1 * z.1) + wrap64 (z.2 * z.2)) + wrap64 (z.1 * z.2)) else wrap64 (wrap64 (z.1 * z.1) + wrap64 (z.2 * z.2))
def powL (p : Int) (l : List Int) : Nat → Nat → List Int
  | _, 0 => []
  | j, r + 1 => powM p (tnM p (j : Int) l 0 0 0) :: powL p l (j + 1) r
theorem powL_length (p : Int) (l : List Int) : ∀ (r j : Nat), (powL p l j r).length = r
  | 0, _ => rfl
  | r + 1, j => by simp [powL, powL_length p l r]
theorem impl_powers_l0 {p : Int} (hp : p = 4 ∨ p = 6) (l : List Int) (hl : l.length ≤ 64) : ∀ (r j : Nat) (q : List Int), (j : Int) + (r : Int) = p → q.length = j →
    Ev (fun m => impl_powers.l0 m l p q p (j : Int)) (q ++ powL p l j r, true)
  | 0, j, q, h, hq => by
    refine Ev.to (Ev.step (f := fun _ => some (q, true)) (fun m => ?_) (Ev.now _)) (by simp [powL])
    simp only [impl_powers.l0]
    rw [if_neg (by omega)]
  | r + 1, j, q, h, hq => by
    have e3 : wrap64 ((j : Int) + 1) = ((j + 1 : Nat) : Int) := by rw [w64 (n := (j : Int) + 1) (by omega) (by omega)]; omega
    have hp1 : impl_tone_power.f (tnM p (j : Int) l 0 0 0).1 (tnM p (j : Int) l 0 0 0).2 p = some (powM p (tnM p (j : Int) l 0 0 0)) := by
      unfold impl_tone_power.f powM
      split <;> rfl
    have ih := impl_powers_l0 hp l hl r (j + 1) (q ++ [powM p (tnM p (j : Int) l 0 0 0)]) (by omega) (by simp [hq])
    refine Ev.to (Ev.step (fun m => by simp only [impl_powers.l0]; rfl) ?_) (show ((q ++ [powM p (tnM p (j : Int) l 0 0 0)]) ++ powL p l (j + 1) r, true) = _ by simp [powL])
    rw [e3]
    exact Ev.tt (by omega) (Ev.bind (impl_toneOf_ev hp (by omega) l hl) (Ev.dbind hp1 (Ev.tt (by omega) ih)))
def powsM (p : Int) (l : List Int) : List Int × Bool := if sig l = true then (powL p l 0 p.toNat, true) else ([], false)
theorem powsM_len {p : Int} (hp : p = 4 ∨ p = 6) (l : List Int) : (powsM p l).1.length ≤ 1048576 := by
  unfold powsM
  split
  · simp only [powL_length]; omega
  · simp
theorem impl_powers_ev {p : Int} (hp : p = 4 ∨ p = 6) (l : List Int) (hl : l.length ≤ 10000000) : Ev (fun m => impl_powers.f m l p) (powsM p l) := by
  simp only [impl_powers.f]
  refine Ev.bind (impl_isSignal_ev l (by omega)) ?_
  by_cases c : sig l = true
  · refine Ev.tt c (Ev.to (impl_powers_l0 hp l (sig_len c) p.toNat 0 [] (by omega) rfl) (by rw [powsM, if_pos c]; simp))
  · exact Ev.ff c (Ev.to (Ev.now _) (by rw [powsM, if_neg c]))

theorem pow_same (a b c : Int) : wrap64 (wrap64 (wrap64 a + wrap64 c) + wrap64 b) = wrap64 (wrap64 (wrap64 a + wrap64 b) + wrap64 c) := by
  unfold wrap64
  omega
theorem spec_tnPower_eq {p : Int} (hp : p = 4 ∨ p = 6) (z : Int × Int) : spec_tnPower.f z.1 z.2 p = some (powM p z) := by
  unfold spec_tnPower.f powM
  rcases hp with rfl | rfl
  · rw [if_pos rfl, if_neg (by decide)]
  · rw [if_neg (by decide), if_pos rfl, pow_same]
theorem spec_tnPowers_l0 {p : Int} (hp : p = 4 ∨ p = 6) (l : List Int) (hl : l.length ≤ 64) : ∀ (r j : Nat) (q : List Int), (j : Int) + (r : Int) = p → q.length = j →
    Ev (fun m => spec_tnPowers.l0 m l p q (j : Int)) (q ++ powL p l j r)
  | 0, j, q, h, hq => by
    refine Ev.to (Ev.step (f := fun _ => some q) (fun m => ?_) (Ev.now _)) (by simp [powL])
    simp only [spec_tnPowers.l0]
    rw [if_neg (by omega)]
  | r + 1, j, q, h, hq => by
    have e3 : wrap64 ((j : Int) + 1) = ((j + 1 : Nat) : Int) := by rw [w64 (n := (j : Int) + 1) (by omega) (by omega)]; omega
    have hp1 := spec_tnPower_eq hp (tnM p (j : Int) l 0 0 0)
    have ih := spec_tnPowers_l0 hp l hl r (j + 1) (q ++ [powM p (tnM p (j : Int) l 0 0 0)]) (by omega) (by simp [hq])
    refine Ev.to (Ev.step (fun m => by simp only [spec_tnPowers.l0]; rfl) ?_) (show (q ++ [powM p (tnM p (j : Int) l 0 0 0)]) ++ powL p l (j + 1) r = _ by simp [powL])
    rw [e3]
    exact Ev.tt (by omega) (Ev.bind (spec_tnTone_ev hp (by omega) (by omega) l hl) (Ev.dbind hp1 (Ev.tt (by omega) ih)))
theorem spec_tnPowers_ev {p : Int} (hp : p = 4 ∨ p = 6) (l : List Int) (hl : l.length ≤ 64) : Ev (fun m => spec_tnPowers.f m l p) (powL p l 0 p.toNat) := by
  simp only [spec_tnPowers.f]
  exact Ev.to (spec_tnPowers_l0 hp l hl p.toNat 0 [] (by omega) rfl) (by simp)

theorem FourPowers_agree (l : List Int) (hl : l.length ≤ 1048576) : ∃ r, Ev (fun m => spec_FourPowers.f m l) r ∧ Ev (fun m => impl_FourPowers.f m l) r ∧ r.1.length ≤ 1048576 := by
  refine ⟨powsM 4 l, ?_, ?_, powsM_len (.inl rfl) l⟩
  · simp only [spec_FourPowers.f]
    refine Ev.bind (spec_wdSignal_ev l (by omega)) ?_
    by_cases c : sig l = true
    · exact Ev.tt c (Ev.bind (spec_tnPowers_ev (.inl rfl) l (sig_len c)) (Ev.to (Ev.now _) (by rw [powsM, if_pos c])))
    · exact Ev.ff c (Ev.to (Ev.now _) (by rw [powsM, if_neg c]))
  · simp only [impl_FourPowers.f]
    exact Ev.bind (impl_powers_ev (.inl rfl) l (by omega)) (Ev.now _)

theorem SixPowers_agree (l : List Int) (hl : l.length ≤ 1048576) : ∃ r, Ev (fun m => spec_SixPowers.f m l) r ∧ Ev (fun m => impl_SixPowers.f m l) r ∧ r.1.length ≤ 1048576 := by
  refine ⟨powsM 6 l, ?_, ?_, powsM_len (.inr rfl) l⟩
  · simp only [spec_SixPowers.f]
    refine Ev.bind (spec_wdSignal_ev l (by omega)) ?_
    by_cases c : sig l = true
    · exact Ev.tt c (Ev.bind (spec_tnPowers_ev (.inr rfl) l (sig_len c)) (Ev.to (Ev.now _) (by rw [powsM, if_pos c])))
    · exact Ev.ff c (Ev.to (Ev.now _) (by rw [powsM, if_neg c]))
  · simp only [impl_SixPowers.f]
    exact Ev.bind (impl_powers_ev (.inr rfl) l (by omega)) (Ev.now _)

theorem isParts_eq (p : Int) : (if p = 4 then (some true) else (some (p == 6)) : Option Bool) = some (decide (p = 4 ∨ p = 6)) := by
  by_cases c : p = 4
  · rw [if_pos c, decide_eq_true (.inl c)]
  · rw [if_neg c]
    by_cases d : p = 6
    · rw [decide_eq_true (.inr d), d]
      rfl
    · rw [decide_eq_false (fun h => h.elim c d), beq_eq_false_iff_ne.mpr d]

def partV (p k z : Int) (m : Nat) : Int := if p = 4 then wrap64 (z * (trn p (k * (m : Int) % p)).1) else wrap64 (z * wrap64 (wrap64 (2 * (trn p (k * (m : Int) % p)).1) + (trn p (k * (m : Int) % p)).2))
def partL (p k z : Int) : Nat → Nat → List Int
  | _, 0 => []
  | j, r + 1 => partV p k z j :: partL p k z (j + 1) r
theorem partL_length (p k z : Int) : ∀ (r j : Nat), (partL p k z j r).length = r
  | 0, _ => rfl
  | r + 1, j => by simp [partL, partL_length p k z r]
theorem partV_bd {p z : Int} (hp : p = 4 ∨ p = 6) (hz : 0 ≤ z ∧ z ≤ 1000) (k : Int) (m : Nat) : -100000 ≤ partV p k z m ∧ partV p k z m ≤ 100000 := by
  have hi : 0 ≤ k * (m : Int) % p ∧ k * (m : Int) % p < p := by
    rcases hp with rfl | rfl <;> exact ⟨Int.emod_nonneg _ (by decide), Int.emod_lt_of_pos _ (by decide)⟩
  obtain ⟨⟨h1, h2⟩, h3, h4⟩ := trn_bd hp hi.1 hi.2
  unfold partV
  generalize (trn p (k * (m : Int) % p)).1 = a at *
  generalize (trn p (k * (m : Int) % p)).2 = b at *
  have key : ∀ c : Int, -3 ≤ c → c ≤ 3 → -100000 ≤ wrap64 (z * c) ∧ wrap64 (z * c) ≤ 100000 := by
    intro c c0 c1
    have hc : c = -3 ∨ c = -2 ∨ c = -1 ∨ c = 0 ∨ c = 1 ∨ c = 2 ∨ c = 3 := by omega
    have hb : -3000 ≤ z * c ∧ z * c ≤ 3000 := by
      rcases hc with rfl | rfl | rfl | rfl | rfl | rfl | rfl <;> omega
    rw [w64 (n := z * c) (by omega) (by omega)]
    omega
  split
  · exact key a (by omega) (by omega)
  · rw [w64 (n := 2 * a) (by omega) (by omega), w64 (n := 2 * a + b) (by omega) (by omega)]
    exact key _ (by omega) (by omega)
theorem partL_in {p z : Int} (hp : p = 4 ∨ p = 6) (hz : 0 ≤ z ∧ z ≤ 1000) (k : Int) : ∀ (r j : Nat), ∀ x ∈ partL p k z j r, -100000 ≤ x ∧ x ≤ 100000
  | 0, j, x, h => by simp [partL] at h
  | r + 1, j, x, h => by
    simp only [partL, List.mem_cons] at h
    rcases h with rfl | h
    · exact partV_bd hp hz k j
    · exact partL_in hp hz k r (j + 1) x h
def partOk (p k z n : Int) : Bool := ((decide (p = 4 ∨ p = 6) && (decide (0 ≤ k) && decide (k ≤ p - 1))) && (decide (0 ≤ z) && decide (z ≤ 1000))) && (decide (0 ≤ n) && decide (n ≤ 64))
def partM (p k z n : Int) : List Int × Bool := if partOk p k z n = true then (partL p k z 0 n.toNat, true) else ([], false)
theorem partM_len (p k z n : Int) : (partM p k z n).1.length ≤ 1048576 := by
  unfold partM
  split
  · rename_i h
    simp only [partOk, Bool.and_eq_true, decide_eq_true_eq] at h
    simp only [partL_length]
    omega
  · simp
theorem impl_ToneOfPart_l0 {p k : Int} (z : Int) (hp : p = 4 ∨ p = 6) (hk : 0 ≤ k ∧ k ≤ 5) (hz : 0 ≤ z ∧ z ≤ 1000) (n : Nat) (hn : n ≤ 64) : ∀ (r j : Nat) (q : List Int), j + r = n → q = partL p k z 0 j ∨ q.length = j →
    q.length = j → (∀ x ∈ q, -100000 ≤ x ∧ x ≤ 100000) → Ev (fun m => impl_ToneOfPart.l0 m p k z q (turnsL p) (n : Int) (j : Int)) (q ++ partL p k z j r, true)
  | 0, j, q, h, _, hq, hx => by
    have hs : sig q = true := by
      simp only [sig, Bool.and_eq_true, decide_eq_true_eq, List.all_eq_true]
      exact ⟨by omega, hx⟩
    refine Ev.to (Ev.step (fun m => by simp only [impl_ToneOfPart.l0]; rfl) ?_) (show (q, true) = _ by simp [partL])
    refine Ev.ff (by omega) (Ev.bind (impl_told_ev q (by omega)) (Ev.to (Ev.now _) ?_))
    rw [toldM, if_pos hs]
  | r + 1, j, q, h, _, hq, hx => by
    have e3 : wrap64 ((j : Int) + 1) = ((j + 1 : Nat) : Int) := by rw [w64 (n := (j : Int) + 1) (by omega) (by omega)]; omega
    have hK := kn_bd (n := j) hk (by omega)
    have e4 : Int.tmod (wrap64 (k * (j : Int))) p = k * (j : Int) % p := by
      rw [w64 (n := k * (j : Int)) (by omega) (by omega), Int.tmod_eq_emod_of_nonneg hK.1]
    have e5 : 0 ≤ k * (j : Int) % p ∧ k * (j : Int) % p < ((turnsL p).length : Int) := by
      rw [turns_len hp]
      rcases hp with rfl | rfl <;> exact ⟨Int.emod_nonneg _ (by decide), Int.emod_lt_of_pos _ (by decide)⟩
    have ih := impl_ToneOfPart_l0 z hp hk hz n hn r (j + 1) (q ++ [partV p k z j]) (by omega) (.inr (by simp [hq])) (by simp [hq]) (fun x h => by
      simp only [List.mem_append, List.mem_singleton] at h
      rcases h with h | rfl
      · exact hx x h
      · exact partV_bd hp hz k j)
    refine Ev.to (Ev.step (fun m => by simp only [impl_ToneOfPart.l0]; rfl) ?_) (show ((q ++ [partV p k z j]) ++ partL p k z (j + 1) r, true) = _ by simp [partL])
    rw [e3, e4]
    refine Ev.tt (by omega) (Ev.ff (by omega) (Ev.tt e5.1 (Ev.tt e5.2 ?_)))
    by_cases c : p = 4
    · refine Ev.tt c (Ev.tt (by omega) ?_)
      have e : wrap64 (z * (rd_T66 (turnsL p) (k * (j : Int) % p)).f0) = partV p k z j := by
        rw [partV, if_pos c]
        rfl
      rw [e]
      exact ih
    · refine Ev.ff c (Ev.tt (by omega) ?_)
      have e : wrap64 (z * wrap64 (wrap64 (2 * (rd_T66 (turnsL p) (k * (j : Int) % p)).f0) + (rd_T66 (turnsL p) (k * (j : Int) % p)).f1)) = partV p k z j := by
        rw [partV, if_neg c]
        rfl
      rw [e]
      exact ih
theorem spec_ToneOfPart_l0 {p k : Int} (z : Int) (hp : p = 4 ∨ p = 6) (hk : 0 ≤ k ∧ k ≤ 5) (n : Nat) (hn : n ≤ 64) : ∀ (r j : Nat) (q : List Int), j + r = n → q.length = j →
    Ev (fun m => spec_ToneOfPart.l0 m p k z (n : Int) q (j : Int)) (q ++ partL p k z j r, true)
  | 0, j, q, h, hq => by
    refine Ev.to (Ev.step (fun m => by simp only [spec_ToneOfPart.l0]; rfl) ?_) (show (q, true) = _ by simp [partL])
    exact Ev.ff (by omega) (Ev.now _)
  | r + 1, j, q, h, hq => by
    have e3 : wrap64 ((j : Int) + 1) = ((j + 1 : Nat) : Int) := by rw [w64 (n := (j : Int) + 1) (by omega) (by omega)]; omega
    have hK := kn_bd (n := j) hk (by omega)
    have e4 : spec_tnTurn.f p (wrap64 (k * (j : Int))) = some (trn p (k * (j : Int) % p)) := by
      rw [w64 (n := k * (j : Int)) (by omega) (by omega)]
      exact spec_tnTurn_eq hp hK.1
    have ih := spec_ToneOfPart_l0 z hp hk n hn r (j + 1) (q ++ [partV p k z j]) (by omega) (by simp [hq])
    refine Ev.to (Ev.step (fun m => by simp only [spec_ToneOfPart.l0]; rfl) ?_) (show ((q ++ [partV p k z j]) ++ partL p k z (j + 1) r, true) = _ by simp [partL])
    rw [e3]
    refine Ev.tt (by omega) (Ev.dbind e4 ?_)
    by_cases c : p = 4
    · refine Ev.tt c (Ev.tt (by omega) ?_)
      have e : wrap64 (z * (trn p (k * (j : Int) % p)).1) = partV p k z j := by
        rw [partV, if_pos c]
      rw [e]
      exact ih
    · refine Ev.ff c (Ev.tt (by omega) ?_)
      have e : wrap64 (z * wrap64 (wrap64 (2 * (trn p (k * (j : Int) % p)).1) + (trn p (k * (j : Int) % p)).2)) = partV p k z j := by
        rw [partV, if_neg c]
      rw [e]
      exact ih
theorem impl_ToneOfPart_ev (p k z n : Int) (hw : -9223372036854775808 ≤ p - 1) (hp2 : p ≤ 9223372036854775807) : Ev (fun m => impl_ToneOfPart.f m p k z n) (partM p k z n) := by
  simp only [impl_ToneOfPart.f, impl_isParts.f, isParts_eq, impl_in_eq, Option.bind_some]
  rw [w64 (n := p - 1) hw (by omega)]
  have fail : partOk p k z n ≠ true → Ev (fun m => impl_ToneOfPart.j0 m p k z n true) (partM p k z n) := by
    intro h
    refine Ev.step (fun m => by simp only [impl_ToneOfPart.j0]; rfl) ?_
    exact Ev.tt (by trivial) (Ev.to (Ev.now _) (by rw [partM, if_neg h]))
  by_cases c1 : decide (p = 4 ∨ p = 6) = true
  · refine Ev.tt c1 ?_
    by_cases c2 : (decide (0 ≤ k) && decide (k ≤ p - 1)) = true
    · refine Ev.tt c2 ?_
      by_cases c3 : (decide (0 ≤ z) && decide (z ≤ 1000)) = true
      · refine Ev.tt c3 ?_
        by_cases c4 : (decide (0 ≤ n) && decide (n ≤ 64)) = true
        · have ok : partOk p k z n = true := by rw [partOk, c1, c2, c3, c4]; rfl
          have hp : p = 4 ∨ p = 6 := of_decide_eq_true c1
          have hk : 0 ≤ k ∧ k ≤ p - 1 := by simpa only [Bool.and_eq_true, decide_eq_true_eq] using c2
          have hz : 0 ≤ z ∧ z ≤ 1000 := by simpa only [Bool.and_eq_true, decide_eq_true_eq] using c3
          have hn : 0 ≤ n ∧ n ≤ 64 := by simpa only [Bool.and_eq_true, decide_eq_true_eq] using c4
          obtain ⟨N, rfl⟩ : ∃ N : Nat, n = (N : Int) := ⟨n.toNat, by omega⟩
          rw [c4]
          refine Ev.step (fun m => by simp only [impl_ToneOfPart.j0]; rfl) ?_
          refine Ev.ff (by decide) (Ev.dbind rfl ?_)
          have h := impl_ToneOfPart_l0 (k := k) z hp (by omega) hz N (by omega) N 0 [] (by omega) (.inr rfl) rfl (fun x h => by simp at h)
          exact Ev.to h (by simp [partM, ok])
        · rw [Bool.eq_false_iff.mpr c4]
          exact fail (by rw [partOk, Bool.eq_false_iff.mpr c4, Bool.and_false]; decide)
      · exact Ev.ff c3 (fail (by rw [partOk, Bool.eq_false_iff.mpr c3, Bool.and_false, Bool.false_and]; decide))
    · exact Ev.ff c2 (fail (by rw [partOk, Bool.eq_false_iff.mpr c2, Bool.and_false, Bool.false_and, Bool.false_and]; decide))
  · exact Ev.ff c1 (fail (by rw [partOk, Bool.eq_false_iff.mpr c1, Bool.false_and, Bool.false_and, Bool.false_and]; decide))
theorem spec_ToneOfPart_ev (p k z n : Int) (hw : -9223372036854775808 ≤ p - 1) (hp2 : p ≤ 9223372036854775807) : Ev (fun m => spec_ToneOfPart.f m p k z n) (partM p k z n) := by
  simp only [spec_ToneOfPart.f, spec_tnParts.f, isParts_eq, spec_l1In_eq, Option.bind_some]
  rw [w64 (n := p - 1) hw (by omega)]
  have fail : partOk p k z n ≠ true → Ev (fun m => spec_ToneOfPart.j0 m p k z n true) (partM p k z n) := by
    intro h
    refine Ev.step (fun m => by simp only [spec_ToneOfPart.j0]; rfl) ?_
    exact Ev.tt (by trivial) (Ev.to (Ev.now _) (by rw [partM, if_neg h]))
  by_cases c1 : decide (p = 4 ∨ p = 6) = true
  · refine Ev.tt c1 ?_
    by_cases c2 : (decide (0 ≤ k) && decide (k ≤ p - 1)) = true
    · refine Ev.tt c2 ?_
      by_cases c3 : (decide (0 ≤ z) && decide (z ≤ 1000)) = true
      · refine Ev.tt c3 ?_
        by_cases c4 : (decide (0 ≤ n) && decide (n ≤ 64)) = true
        · have ok : partOk p k z n = true := by rw [partOk, c1, c2, c3, c4]; rfl
          have hp : p = 4 ∨ p = 6 := of_decide_eq_true c1
          have hk : 0 ≤ k ∧ k ≤ p - 1 := by simpa only [Bool.and_eq_true, decide_eq_true_eq] using c2
          have hn : 0 ≤ n ∧ n ≤ 64 := by simpa only [Bool.and_eq_true, decide_eq_true_eq] using c4
          obtain ⟨N, rfl⟩ : ∃ N : Nat, n = (N : Int) := ⟨n.toNat, by omega⟩
          rw [c4]
          refine Ev.step (fun m => by simp only [spec_ToneOfPart.j0]; rfl) ?_
          refine Ev.ff (by decide) ?_
          have h := spec_ToneOfPart_l0 (k := k) z hp (by omega) N (by omega) N 0 [] (by omega) rfl
          exact Ev.to h (by simp [partM, ok])
        · rw [Bool.eq_false_iff.mpr c4]
          exact fail (by rw [partOk, Bool.eq_false_iff.mpr c4, Bool.and_false]; decide)
      · exact Ev.ff c3 (fail (by rw [partOk, Bool.eq_false_iff.mpr c3, Bool.and_false, Bool.false_and]; decide))
    · exact Ev.ff c2 (fail (by rw [partOk, Bool.eq_false_iff.mpr c2, Bool.and_false, Bool.false_and, Bool.false_and]; decide))
  · exact Ev.ff c1 (fail (by rw [partOk, Bool.eq_false_iff.mpr c1, Bool.false_and, Bool.false_and, Bool.false_and]; decide))

def isBest (l : List Int) (b : Nat) : Prop := b < l.length ∧ (∀ i : Nat, i < l.length → rd l (i : Int) ≤ rd l (b : Int)) ∧ ∀ i : Nat, i < b → rd l (i : Int) < rd l (b : Int)
theorem isBest_one {l : List Int} {b c : Nat} (h : isBest l b) (h' : isBest l c) : b = c := by
  rcases Nat.lt_trichotomy b c with h1 | h1 | h1
  · have h2 := h'.2.2 b h1
    have h3 := h.2.1 c h'.1
    omega
  · exact h1
  · have h2 := h.2.2 c h1
    have h3 := h'.2.1 b h.1
    omega
theorem max_l0 (l : List Int) (hl : l.length ≤ 1000) : ∀ (r n : Nat) (m : Int), n + r = l.length → (∀ i : Nat, i < n → rd l (i : Int) ≤ m) → (∃ j : Nat, j < l.length ∧ rd l (j : Int) = m) →
    ∃ M, Ev (fun k => slices_Max_int_int.l0 k l m (n : Int)) M ∧ (∀ i : Nat, i < l.length → rd l (i : Int) ≤ M) ∧ ∃ j : Nat, j < l.length ∧ rd l (j : Int) = M
  | 0, n, m, h, h1, h2 => by
    refine ⟨m, Ev.step (f := fun _ => some m) (fun k => ?_) (Ev.now _), fun i hi => h1 i (by omega), h2⟩
    simp only [slices_Max_int_int.l0]
    rw [if_neg (by omega)]
  | r + 1, n, m, h, h1, h2 => by
    have e3 : wrap64 ((n : Int) + 1) = ((n + 1 : Nat) : Int) := by rw [w64 (n := (n : Int) + 1) (by omega) (by omega)]; omega
    have hm : m ≤ mx m (rd l (n : Int)) ∧ rd l (n : Int) ≤ mx m (rd l (n : Int)) ∧ (mx m (rd l (n : Int)) = m ∨ mx m (rd l (n : Int)) = rd l (n : Int)) := by
      unfold mx
      split <;> omega
    obtain ⟨M, hE, hM⟩ := max_l0 l hl r (n + 1) (mx m (rd l (n : Int))) (by omega) (fun i hi => by
      by_cases c : i = n
      · rw [c]; exact hm.2.1
      · have := h1 i (by omega)
        omega) (by
      rcases hm.2.2 with e | e
      · rw [e]; exact h2
      · exact ⟨n, by omega, e.symm⟩)
    refine ⟨M, Ev.step (fun k => ?_) hE, hM⟩
    simp only [slices_Max_int_int.l0]
    rw [if_pos (by omega), if_pos (Int.natCast_nonneg _), e3]
theorem index_l0 (l : List Int) (hl : l.length ≤ 1000) (M : Int) (hM : ∃ j : Nat, j < l.length ∧ rd l (j : Int) = M) : ∀ (r n : Nat), n + r = l.length → (∀ i : Nat, i < n → rd l (i : Int) ≠ M) →
    ∃ b : Nat, b < l.length ∧ rd l (b : Int) = M ∧ (∀ i : Nat, i < b → rd l (i : Int) ≠ M) ∧ Ev (fun k => slices_Index_int_int.l0 k l M (l.length : Int) (n : Int)) (b : Int)
  | 0, n, h, h1 => by
    obtain ⟨j, j1, j2⟩ := hM
    exact absurd j2 (h1 j (by omega))
  | r + 1, n, h, h1 => by
    have e3 : wrap64 ((n : Int) + 1) = ((n + 1 : Nat) : Int) := by rw [w64 (n := (n : Int) + 1) (by omega) (by omega)]; omega
    by_cases c : M = rd l (n : Int)
    · refine ⟨n, by omega, c.symm, h1, Ev.step (f := fun _ => some (n : Int)) (fun k => ?_) (Ev.now _)⟩
      simp only [slices_Index_int_int.l0]
      rw [if_pos (by omega), if_pos (Int.natCast_nonneg _), if_pos (by omega), if_pos c]
    · obtain ⟨b, b1, b2, b3, b4⟩ := index_l0 l hl M hM r (n + 1) (by omega) (fun i hi => by
        by_cases d : i = n
        · rw [d]; exact fun e => c e.symm
        · exact h1 i (by omega))
      refine ⟨b, b1, b2, b3, Ev.step (fun k => ?_) b4⟩
      simp only [slices_Index_int_int.l0]
      rw [if_pos (by omega), if_pos (Int.natCast_nonneg _), if_pos (by omega), if_neg c, e3]
theorem best_l0 (l : List Int) (hl : l.length ≤ 1000) : ∀ (r n b : Nat), n + r = l.length → b < l.length → (∀ i : Nat, i < n → rd l (i : Int) ≤ rd l (b : Int)) → (∀ i : Nat, i < b → rd l (i : Int) < rd l (b : Int)) →
    ∃ c, isBest l c ∧ Ev (fun k => spec_StrongestPart.l0 k l (b : Int) l (l.length : Int) (n : Int)) ((c : Int), true)
  | 0, n, b, h, hb, h1, h2 => by
    refine ⟨b, ⟨hb, fun i hi => h1 i (by omega), h2⟩, Ev.step (f := fun _ => some ((b : Int), true)) (fun k => ?_) (Ev.now _)⟩
    simp only [spec_StrongestPart.l0]
    rw [if_neg (by omega)]
  | r + 1, n, b, h, hb, h1, h2 => by
    have e3 : wrap64 ((n : Int) + 1) = ((n + 1 : Nat) : Int) := by rw [w64 (n := (n : Int) + 1) (by omega) (by omega)]; omega
    by_cases c : rd l (n : Int) > rd l (b : Int)
    · obtain ⟨d, d1, d2⟩ := best_l0 l hl r (n + 1) n (by omega) (by omega) (fun i hi => by
        by_cases e : i = n
        · rw [e]; exact Int.le_refl _
        · have := h1 i (by omega)
          omega) (fun i hi => by
        have := h1 i hi
        omega)
      refine ⟨d, d1, Ev.step (fun k => ?_) d2⟩
      simp only [spec_StrongestPart.l0]
      rw [if_pos (by omega), if_pos (Int.natCast_nonneg _), if_pos (by omega), if_pos (Int.natCast_nonneg _), if_pos (by omega), if_pos c, e3]
    · obtain ⟨d, d1, d2⟩ := best_l0 l hl r (n + 1) b (by omega) hb (fun i hi => by
        by_cases e : i = n
        · rw [e]; omega
        · exact h1 i (by omega)) h2
      refine ⟨d, d1, Ev.step (fun k => ?_) d2⟩
      simp only [spec_StrongestPart.l0]
      rw [if_pos (by omega), if_pos (Int.natCast_nonneg _), if_pos (by omega), if_pos (Int.natCast_nonneg _), if_pos (by omega), if_neg c, e3]
theorem StrongestPart_agree (l : List Int) (p : Int) (hl : l.length ≤ 1048576) : ∃ r, Ev (fun m => spec_StrongestPart.f m l p) r ∧ Ev (fun m => impl_StrongestPart.f m l p) r := by
  by_cases cp : decide (p = 4 ∨ p = 6) = true
  · have hp : p = 4 ∨ p = 6 := of_decide_eq_true cp
    by_cases c : sig l = true
    · have hlen : (powL p l 0 p.toNat).length = p.toNat := powL_length p l p.toNat 0
      have hp2 := impl_powers_ev hp l (by omega)
      rw [powsM, if_pos c] at hp2
      have hs2 := spec_tnPowers_ev hp l (sig_len c)
      generalize powL p l 0 p.toNat = L at *
      obtain ⟨b, hb, hE⟩ := best_l0 L (by omega) L.length 0 0 (by omega) (by omega) (fun i hi => by omega) (fun i hi => by omega)
      obtain ⟨M, hM, hM1, hM2⟩ := max_l0 L (by omega) (L.length - 1) 1 (rd L 0) (by omega) (fun i hi => by
        have : i = 0 := by omega
        rw [this]; exact Int.le_refl _) ⟨0, by omega, rfl⟩
      obtain ⟨b', b1, b2, b3, b4⟩ := index_l0 L (by omega) M hM2 L.length 0 (by omega) (fun i hi => by omega)
      have hb' : isBest L b' := ⟨b1, fun i hi => by rw [b2]; exact hM1 i hi, fun i hi => by
        have h1 := hM1 i (by omega)
        have h2 := b3 i hi
        rw [b2]
        omega⟩
      have e := isBest_one hb hb'
      subst e
      refine ⟨((b : Int), true), ?_, ?_⟩
      · simp only [spec_StrongestPart.f, spec_tnParts.f, isParts_eq, Option.bind_some]
        refine Ev.bind (spec_wdSignal_ev l (by omega)) (Ev.tt c ?_)
        rw [cp]
        refine Ev.step (fun k => by simp only [spec_StrongestPart.j0]; rfl) ?_
        exact Ev.ff (by decide) (Ev.bind hs2 hE)
      · simp only [impl_StrongestPart.f, impl_isParts.f, isParts_eq, Option.bind_some]
        refine Ev.tt cp (Ev.bind hp2 (Ev.tt rfl (Ev.bind (a := M) ?_ (Ev.bind (a := (b : Int)) ?_ (Ev.now _)))))
        · simp only [slices_Max_int_int.f]
          exact Ev.ff (by omega) (Ev.tt (by omega) hM)
        · simp only [slices_Index_int_int.f]
          exact b4
    · refine ⟨(0, false), ?_, ?_⟩
      · simp only [spec_StrongestPart.f, spec_tnParts.f, isParts_eq, Option.bind_some]
        refine Ev.bind (spec_wdSignal_ev l (by omega)) (Ev.ff c ?_)
        refine Ev.step (fun k => by simp only [spec_StrongestPart.j0]; rfl) ?_
        exact Ev.tt (by trivial) (Ev.now _)
      · simp only [impl_StrongestPart.f, impl_isParts.f, isParts_eq, Option.bind_some]
        have hp2 := impl_powers_ev hp l (by omega)
        rw [powsM, if_neg c] at hp2
        exact Ev.tt cp (Ev.bind hp2 (Ev.ff (by decide) (Ev.now _)))
  · refine ⟨(0, false), ?_, ?_⟩
    · simp only [spec_StrongestPart.f, spec_tnParts.f, isParts_eq, Option.bind_some]
      refine Ev.bind (spec_wdSignal_ev l (by omega)) ?_
      by_cases c : sig l = true
      · refine Ev.tt c ?_
        rw [Bool.eq_false_iff.mpr cp]
        refine Ev.step (fun k => by simp only [spec_StrongestPart.j0]; rfl) ?_
        exact Ev.tt (by decide) (Ev.now _)
      · refine Ev.ff c ?_
        refine Ev.step (fun k => by simp only [spec_StrongestPart.j0]; rfl) ?_
        exact Ev.tt (by trivial) (Ev.now _)
    · simp only [impl_StrongestPart.f, impl_isParts.f, isParts_eq, Option.bind_some]
      exact Ev.ff cp (Ev.now _)

theorem laws_uSame_l0 (l : List Int) (hl : l.length ≤ 140737488351232) : ∀ (t p : List Int), l = p ++ t → Ev (fun k => laws_uSame.l0 k l l (l.length : Int) (p.length : Int)) true
  | [], p, h => by
    refine Ev.step (f := fun _ => some true) (fun k => ?_) (Ev.now _)
    subst h
    simp [laws_uSame.l0]
  | x :: t, p, h => by
    have e1 : (p.length : Int) < (l.length : Int) := by rw [h]; exact lt_mid p t x
    have e3 : wrap64 ((p.length : Int) + 1) = ((p ++ [x]).length : Int) := nx_mid p t x (h ▸ hl)
    refine Ev.step (fun k => ?_) (laws_uSame_l0 l hl t (p ++ [x]) (by simp [h]))
    simp only [laws_uSame.l0, if_pos e1, if_pos (Int.natCast_nonneg _), e3]
    rw [if_pos trivial]
theorem laws_uSame_ev (l : List Int) (hl : l.length ≤ 140737488351232) : Ev (fun k => laws_uSame.f k l l) true := by
  simp only [laws_uSame.f]
  exact Ev.tt trivial (laws_uSame_l0 l hl l [] rfl)

def fs (p j : Nat) : List Int → Nat → Int
  | [], _ => 0
  | x :: t, n => (if n % p = j then x else 0) + fs p j t (n + 1)
theorem fs_bd (p j : Nat) : ∀ (l : List Int) (n : Nat), (∀ x ∈ l, -100000 ≤ x ∧ x ≤ 100000) → -(100000 * l.length) ≤ fs p j l n ∧ fs p j l n ≤ 100000 * l.length
  | [], _, _ => by simp [fs]
  | x :: t, n, h => by
    have ih := fs_bd p j t (n + 1) (fun y hy => h y (by simp [hy]))
    have hx := h x (by simp)
    simp only [fs, List.length_cons]
    split <;> omega
theorem mulb {x y : Int} (hx : -40000000 ≤ x ∧ x ≤ 40000000) (hy : -40000000 ≤ y ∧ y ≤ 40000000) : -1600000000000000 ≤ x * y ∧ x * y ≤ 1600000000000000 := by
  have h : (x * y).natAbs ≤ 40000000 * 40000000 := by
    rw [Int.natAbs_mul]
    exact Nat.mul_le_mul (by omega) (by omega)
  omega
theorem sqn (x : Int) : 0 ≤ x * x := by
  rcases Int.le_total 0 x with h | h
  · exact Int.mul_nonneg h h
  · exact Int.mul_nonneg_of_nonpos_of_nonpos h h
theorem nrm_nn (a b : Int) : 0 ≤ a * a + b * b + a * b := by
  have h1 := sqn (2 * b + a)
  have h2 := sqn a
  have h3 : 4 * (a * a + b * b + a * b) = (2 * b + a) * (2 * b + a) + 3 * (a * a) := by grind
  omega
theorem tri_of {c : Int} (h : -1 ≤ c ∧ c ≤ 1) (x : Int) : x * c = -x ∨ x * c = 0 ∨ x * c = x := by
  have : c = -1 ∨ c = 0 ∨ c = 1 := by omega
  rcases this with rfl | rfl | rfl
  · left; omega
  · right; left; omega
  · right; right; omega
theorem nat_split (p n : Nat) : (n : Int) = ((n % p : Nat) : Int) + (p : Int) * ((n / p : Nat) : Int) := by
  rw [← Int.natCast_mul, ← Int.natCast_add, Nat.add_comm, Nat.div_add_mod]
theorem tnIx_mod {p : Nat} (hp : p = 4 ∨ p = 6) (k : Int) (n : Nat) : tnIx (p : Int) k n = tnIx (p : Int) k (n % p) := by
  unfold tnIx
  have h := nat_split p n
  have e : k * (n : Int) = k * ((n % p : Nat) : Int) + (p : Int) * (k * ((n / p : Nat) : Int)) := by
    conv => lhs; rw [h]
    rw [Int.mul_add]
    grind
  rw [e]
  generalize k * ((n % p : Nat) : Int) = u
  generalize k * ((n / p : Nat) : Int) = v
  rcases hp with rfl | rfl <;> omega
theorem tn4 (k : Int) : ∀ (l : List Int) (n : Nat) (a b : Int), (∀ x ∈ l, -100000 ≤ x ∧ x ≤ 100000) → n + l.length ≤ 64 → -(100000 * n) ≤ a ∧ a ≤ 100000 * n → -(100000 * n) ≤ b ∧ b ≤ 100000 * n →
    tnM 4 k l n a b = (a + ((trn 4 (tnIx 4 k 0)).1 * fs 4 0 l n + (trn 4 (tnIx 4 k 1)).1 * fs 4 1 l n + (trn 4 (tnIx 4 k 2)).1 * fs 4 2 l n + (trn 4 (tnIx 4 k 3)).1 * fs 4 3 l n), b + ((trn 4 (tnIx 4 k 0)).2 * fs 4 0 l n + (trn 4 (tnIx 4 k 1)).2 * fs 4 1 l n + (trn 4 (tnIx 4 k 2)).2 * fs 4 2 l n + (trn 4 (tnIx 4 k 3)).2 * fs 4 3 l n))
  | [], n, a, b, _, _, _, _ => by simp [tnM, fs]
  | x :: t, n, a, b, hs, hn, ha, hb => by
    have hx := hs x (by simp)
    have hn' : n + t.length + 1 ≤ 64 := by simp at hn; omega
    have hi := tnIx_bd (p := 4) (.inl rfl) k n
    obtain ⟨hc, hd⟩ := trn_bd (p := 4) (.inl rfl) hi.1 hi.2
    have h1 := tri_of hc x
    have h2 := tri_of hd x
    have e1 : wrap64 (x * (trn 4 (tnIx 4 k n)).1) = x * (trn 4 (tnIx 4 k n)).1 := w64 (by omega) (by omega)
    have e2 : wrap64 (x * (trn 4 (tnIx 4 k n)).2) = x * (trn 4 (tnIx 4 k n)).2 := w64 (by omega) (by omega)
    have e3 : wrap64 (a + x * (trn 4 (tnIx 4 k n)).1) = a + x * (trn 4 (tnIx 4 k n)).1 := w64 (by omega) (by omega)
    have e4 : wrap64 (b + x * (trn 4 (tnIx 4 k n)).2) = b + x * (trn 4 (tnIx 4 k n)).2 := w64 (by omega) (by omega)
    have ih := tn4 k t (n + 1) (a + x * (trn 4 (tnIx 4 k n)).1) (b + x * (trn 4 (tnIx 4 k n)).2) (fun y hy => hs y (by simp [hy])) (by omega) (by omega) (by omega)
    rw [tnM, e1, e2, e3, e4, ih]
    have em : tnIx 4 k n = tnIx 4 k (n % 4) := tnIx_mod (p := 4) (.inl rfl) k n
    rw [em]
    have hr : n % 4 < 4 := Nat.mod_lt _ (by decide)
    simp only [fs]
    have hr' : n % 4 = 0 ∨ n % 4 = 1 ∨ n % 4 = 2 ∨ n % 4 = 3 := by omega
    clear ih e1 e2 e3 e4 h1 h2 hc hd hi em ha hb hn hn' hx hr
    rcases hr' with e | e | e | e <;> simp only [e] <;> refine Prod.ext ?_ ?_ <;> simp <;> grind
theorem c4_0_0 : trn 4 (tnIx 4 0 0) = (1, 0) := rfl
theorem c4_0_1 : trn 4 (tnIx 4 0 1) = (1, 0) := rfl
theorem c4_0_2 : trn 4 (tnIx 4 0 2) = (1, 0) := rfl
theorem c4_0_3 : trn 4 (tnIx 4 0 3) = (1, 0) := rfl
theorem t4_0 {s : List Int} (hs : sig s = true) : tnM 4 0 s 0 0 0 = (fs 4 0 s 0 + fs 4 1 s 0 + fs 4 2 s 0 + fs 4 3 s 0, 0) := by
  have hl := sig_len hs
  rw [tn4 0 s 0 0 0 (sig_mem hs) (by omega) (by omega) (by omega)]
  simp only [c4_0_0, c4_0_1, c4_0_2, c4_0_3]
  refine Prod.ext ?_ ?_ <;> simp <;> omega
theorem c4_1_0 : trn 4 (tnIx 4 1 0) = (1, 0) := rfl
theorem c4_1_1 : trn 4 (tnIx 4 1 1) = (0, -1) := rfl
theorem c4_1_2 : trn 4 (tnIx 4 1 2) = (-1, 0) := rfl
theorem c4_1_3 : trn 4 (tnIx 4 1 3) = (0, 1) := rfl
theorem t4_1 {s : List Int} (hs : sig s = true) : tnM 4 1 s 0 0 0 = (fs 4 0 s 0 - fs 4 2 s 0, -fs 4 1 s 0 + fs 4 3 s 0) := by
  have hl := sig_len hs
  rw [tn4 1 s 0 0 0 (sig_mem hs) (by omega) (by omega) (by omega)]
  simp only [c4_1_0, c4_1_1, c4_1_2, c4_1_3]
  refine Prod.ext ?_ ?_ <;> simp <;> omega
theorem c4_2_0 : trn 4 (tnIx 4 2 0) = (1, 0) := rfl
theorem c4_2_1 : trn 4 (tnIx 4 2 1) = (-1, 0) := rfl
theorem c4_2_2 : trn 4 (tnIx 4 2 2) = (1, 0) := rfl
theorem c4_2_3 : trn 4 (tnIx 4 2 3) = (-1, 0) := rfl
theorem t4_2 {s : List Int} (hs : sig s = true) : tnM 4 2 s 0 0 0 = (fs 4 0 s 0 - fs 4 1 s 0 + fs 4 2 s 0 - fs 4 3 s 0, 0) := by
  have hl := sig_len hs
  rw [tn4 2 s 0 0 0 (sig_mem hs) (by omega) (by omega) (by omega)]
  simp only [c4_2_0, c4_2_1, c4_2_2, c4_2_3]
  refine Prod.ext ?_ ?_ <;> simp <;> omega
theorem c4_3_0 : trn 4 (tnIx 4 3 0) = (1, 0) := rfl
theorem c4_3_1 : trn 4 (tnIx 4 3 1) = (0, 1) := rfl
theorem c4_3_2 : trn 4 (tnIx 4 3 2) = (-1, 0) := rfl
theorem c4_3_3 : trn 4 (tnIx 4 3 3) = (0, -1) := rfl
theorem t4_3 {s : List Int} (hs : sig s = true) : tnM 4 3 s 0 0 0 = (fs 4 0 s 0 - fs 4 2 s 0, fs 4 1 s 0 - fs 4 3 s 0) := by
  have hl := sig_len hs
  rw [tn4 3 s 0 0 0 (sig_mem hs) (by omega) (by omega) (by omega)]
  simp only [c4_3_0, c4_3_1, c4_3_2, c4_3_3]
  refine Prod.ext ?_ ?_ <;> simp <;> omega
theorem lin4_bd {s : List Int} (hs : sig s = true) : (-6400000 ≤ fs 4 0 s 0 ∧ fs 4 0 s 0 ≤ 6400000) ∧ (-6400000 ≤ fs 4 1 s 0 ∧ fs 4 1 s 0 ≤ 6400000) ∧ (-6400000 ≤ fs 4 2 s 0 ∧ fs 4 2 s 0 ≤ 6400000) ∧ (-6400000 ≤ fs 4 3 s 0 ∧ fs 4 3 s 0 ≤ 6400000) := by
  have hl := sig_len hs
  have h := fun j => fs_bd 4 j s 0 (sig_mem hs)
  have h0 := h 0; have h1 := h 1; have h2 := h 2; have h3 := h 3
  clear h
  omega
theorem tn6 (k : Int) : ∀ (l : List Int) (n : Nat) (a b : Int), (∀ x ∈ l, -100000 ≤ x ∧ x ≤ 100000) → n + l.length ≤ 64 → -(100000 * n) ≤ a ∧ a ≤ 100000 * n → -(100000 * n) ≤ b ∧ b ≤ 100000 * n →
    tnM 6 k l n a b = (a + ((trn 6 (tnIx 6 k 0)).1 * fs 6 0 l n + (trn 6 (tnIx 6 k 1)).1 * fs 6 1 l n + (trn 6 (tnIx 6 k 2)).1 * fs 6 2 l n + (trn 6 (tnIx 6 k 3)).1 * fs 6 3 l n + (trn 6 (tnIx 6 k 4)).1 * fs 6 4 l n + (trn 6 (tnIx 6 k 5)).1 * fs 6 5 l n), b + ((trn 6 (tnIx 6 k 0)).2 * fs 6 0 l n + (trn 6 (tnIx 6 k 1)).2 * fs 6 1 l n + (trn 6 (tnIx 6 k 2)).2 * fs 6 2 l n + (trn 6 (tnIx 6 k 3)).2 * fs 6 3 l n + (trn 6 (tnIx 6 k 4)).2 * fs 6 4 l n + (trn 6 (tnIx 6 k 5)).2 * fs 6 5 l n))
  | [], n, a, b, _, _, _, _ => by simp [tnM, fs]
  | x :: t, n, a, b, hs, hn, ha, hb => by
    have hx := hs x (by simp)
    have hn' : n + t.length + 1 ≤ 64 := by simp at hn; omega
    have hi := tnIx_bd (p := 6) (.inr rfl) k n
    obtain ⟨hc, hd⟩ := trn_bd (p := 6) (.inr rfl) hi.1 hi.2
    have h1 := tri_of hc x
    have h2 := tri_of hd x
    have e1 : wrap64 (x * (trn 6 (tnIx 6 k n)).1) = x * (trn 6 (tnIx 6 k n)).1 := w64 (by omega) (by omega)
    have e2 : wrap64 (x * (trn 6 (tnIx 6 k n)).2) = x * (trn 6 (tnIx 6 k n)).2 := w64 (by omega) (by omega)
    have e3 : wrap64 (a + x * (trn 6 (tnIx 6 k n)).1) = a + x * (trn 6 (tnIx 6 k n)).1 := w64 (by omega) (by omega)
    have e4 : wrap64 (b + x * (trn 6 (tnIx 6 k n)).2) = b + x * (trn 6 (tnIx 6 k n)).2 := w64 (by omega) (by omega)
    have ih := tn6 k t (n + 1) (a + x * (trn 6 (tnIx 6 k n)).1) (b + x * (trn 6 (tnIx 6 k n)).2) (fun y hy => hs y (by simp [hy])) (by omega) (by omega) (by omega)
    rw [tnM, e1, e2, e3, e4, ih]
    have em : tnIx 6 k n = tnIx 6 k (n % 6) := tnIx_mod (p := 6) (.inr rfl) k n
    rw [em]
    have hr : n % 6 < 6 := Nat.mod_lt _ (by decide)
    simp only [fs]
    have hr' : n % 6 = 0 ∨ n % 6 = 1 ∨ n % 6 = 2 ∨ n % 6 = 3 ∨ n % 6 = 4 ∨ n % 6 = 5 := by omega
    clear ih e1 e2 e3 e4 h1 h2 hc hd hi em ha hb hn hn' hx hr
    rcases hr' with e | e | e | e | e | e <;> simp only [e] <;> refine Prod.ext ?_ ?_ <;> simp <;> grind
theorem c6_0_0 : trn 6 (tnIx 6 0 0) = (1, 0) := rfl
theorem c6_0_1 : trn 6 (tnIx 6 0 1) = (1, 0) := rfl
theorem c6_0_2 : trn 6 (tnIx 6 0 2) = (1, 0) := rfl
theorem c6_0_3 : trn 6 (tnIx 6 0 3) = (1, 0) := rfl
theorem c6_0_4 : trn 6 (tnIx 6 0 4) = (1, 0) := rfl
theorem c6_0_5 : trn 6 (tnIx 6 0 5) = (1, 0) := rfl
theorem t6_0 {s : List Int} (hs : sig s = true) : tnM 6 0 s 0 0 0 = (fs 6 0 s 0 + fs 6 1 s 0 + fs 6 2 s 0 + fs 6 3 s 0 + fs 6 4 s 0 + fs 6 5 s 0, 0) := by
  have hl := sig_len hs
  rw [tn6 0 s 0 0 0 (sig_mem hs) (by omega) (by omega) (by omega)]
  simp only [c6_0_0, c6_0_1, c6_0_2, c6_0_3, c6_0_4, c6_0_5]
  refine Prod.ext ?_ ?_ <;> simp <;> omega
theorem c6_1_0 : trn 6 (tnIx 6 1 0) = (1, 0) := rfl
theorem c6_1_1 : trn 6 (tnIx 6 1 1) = (1, -1) := rfl
theorem c6_1_2 : trn 6 (tnIx 6 1 2) = (0, -1) := rfl
theorem c6_1_3 : trn 6 (tnIx 6 1 3) = (-1, 0) := rfl
theorem c6_1_4 : trn 6 (tnIx 6 1 4) = (-1, 1) := rfl
theorem c6_1_5 : trn 6 (tnIx 6 1 5) = (0, 1) := rfl
theorem t6_1 {s : List Int} (hs : sig s = true) : tnM 6 1 s 0 0 0 = (fs 6 0 s 0 + fs 6 1 s 0 - fs 6 3 s 0 - fs 6 4 s 0, -fs 6 1 s 0 - fs 6 2 s 0 + fs 6 4 s 0 + fs 6 5 s 0) := by
  have hl := sig_len hs
  rw [tn6 1 s 0 0 0 (sig_mem hs) (by omega) (by omega) (by omega)]
  simp only [c6_1_0, c6_1_1, c6_1_2, c6_1_3, c6_1_4, c6_1_5]
  refine Prod.ext ?_ ?_ <;> simp <;> omega
theorem c6_2_0 : trn 6 (tnIx 6 2 0) = (1, 0) := rfl
theorem c6_2_1 : trn 6 (tnIx 6 2 1) = (0, -1) := rfl
theorem c6_2_2 : trn 6 (tnIx 6 2 2) = (-1, 1) := rfl
theorem c6_2_3 : trn 6 (tnIx 6 2 3) = (1, 0) := rfl
theorem c6_2_4 : trn 6 (tnIx 6 2 4) = (0, -1) := rfl
theorem c6_2_5 : trn 6 (tnIx 6 2 5) = (-1, 1) := rfl
theorem t6_2 {s : List Int} (hs : sig s = true) : tnM 6 2 s 0 0 0 = (fs 6 0 s 0 - fs 6 2 s 0 + fs 6 3 s 0 - fs 6 5 s 0, -fs 6 1 s 0 + fs 6 2 s 0 - fs 6 4 s 0 + fs 6 5 s 0) := by
  have hl := sig_len hs
  rw [tn6 2 s 0 0 0 (sig_mem hs) (by omega) (by omega) (by omega)]
  simp only [c6_2_0, c6_2_1, c6_2_2, c6_2_3, c6_2_4, c6_2_5]
  refine Prod.ext ?_ ?_ <;> simp <;> omega
theorem c6_3_0 : trn 6 (tnIx 6 3 0) = (1, 0) := rfl
theorem c6_3_1 : trn 6 (tnIx 6 3 1) = (-1, 0) := rfl
theorem c6_3_2 : trn 6 (tnIx 6 3 2) = (1, 0) := rfl
theorem c6_3_3 : trn 6 (tnIx 6 3 3) = (-1, 0) := rfl
theorem c6_3_4 : trn 6 (tnIx 6 3 4) = (1, 0) := rfl
theorem c6_3_5 : trn 6 (tnIx 6 3 5) = (-1, 0) := rfl
theorem t6_3 {s : List Int} (hs : sig s = true) : tnM 6 3 s 0 0 0 = (fs 6 0 s 0 - fs 6 1 s 0 + fs 6 2 s 0 - fs 6 3 s 0 + fs 6 4 s 0 - fs 6 5 s 0, 0) := by
  have hl := sig_len hs
  rw [tn6 3 s 0 0 0 (sig_mem hs) (by omega) (by omega) (by omega)]
  simp only [c6_3_0, c6_3_1, c6_3_2, c6_3_3, c6_3_4, c6_3_5]
  refine Prod.ext ?_ ?_ <;> simp <;> omega
theorem c6_4_0 : trn 6 (tnIx 6 4 0) = (1, 0) := rfl
theorem c6_4_1 : trn 6 (tnIx 6 4 1) = (-1, 1) := rfl
theorem c6_4_2 : trn 6 (tnIx 6 4 2) = (0, -1) := rfl
theorem c6_4_3 : trn 6 (tnIx 6 4 3) = (1, 0) := rfl
theorem c6_4_4 : trn 6 (tnIx 6 4 4) = (-1, 1) := rfl
theorem c6_4_5 : trn 6 (tnIx 6 4 5) = (0, -1) := rfl
theorem t6_4 {s : List Int} (hs : sig s = true) : tnM 6 4 s 0 0 0 = (fs 6 0 s 0 - fs 6 1 s 0 + fs 6 3 s 0 - fs 6 4 s 0, fs 6 1 s 0 - fs 6 2 s 0 + fs 6 4 s 0 - fs 6 5 s 0) := by
  have hl := sig_len hs
  rw [tn6 4 s 0 0 0 (sig_mem hs) (by omega) (by omega) (by omega)]
  simp only [c6_4_0, c6_4_1, c6_4_2, c6_4_3, c6_4_4, c6_4_5]
  refine Prod.ext ?_ ?_ <;> simp <;> omega
theorem c6_5_0 : trn 6 (tnIx 6 5 0) = (1, 0) := rfl
theorem c6_5_1 : trn 6 (tnIx 6 5 1) = (0, 1) := rfl
theorem c6_5_2 : trn 6 (tnIx 6 5 2) = (-1, 1) := rfl
theorem c6_5_3 : trn 6 (tnIx 6 5 3) = (-1, 0) := rfl
theorem c6_5_4 : trn 6 (tnIx 6 5 4) = (0, -1) := rfl
theorem c6_5_5 : trn 6 (tnIx 6 5 5) = (1, -1) := rfl
theorem t6_5 {s : List Int} (hs : sig s = true) : tnM 6 5 s 0 0 0 = (fs 6 0 s 0 - fs 6 2 s 0 - fs 6 3 s 0 + fs 6 5 s 0, fs 6 1 s 0 + fs 6 2 s 0 - fs 6 4 s 0 - fs 6 5 s 0) := by
  have hl := sig_len hs
  rw [tn6 5 s 0 0 0 (sig_mem hs) (by omega) (by omega) (by omega)]
  simp only [c6_5_0, c6_5_1, c6_5_2, c6_5_3, c6_5_4, c6_5_5]
  refine Prod.ext ?_ ?_ <;> simp <;> omega
theorem lin6_bd {s : List Int} (hs : sig s = true) : (-6400000 ≤ fs 6 0 s 0 ∧ fs 6 0 s 0 ≤ 6400000) ∧ (-6400000 ≤ fs 6 1 s 0 ∧ fs 6 1 s 0 ≤ 6400000) ∧ (-6400000 ≤ fs 6 2 s 0 ∧ fs 6 2 s 0 ≤ 6400000) ∧ (-6400000 ≤ fs 6 3 s 0 ∧ fs 6 3 s 0 ≤ 6400000) ∧ (-6400000 ≤ fs 6 4 s 0 ∧ fs 6 4 s 0 ≤ 6400000) ∧ (-6400000 ≤ fs 6 5 s 0 ∧ fs 6 5 s 0 ≤ 6400000) := by
  have hl := sig_len hs
  have h := fun j => fs_bd 6 j s 0 (sig_mem hs)
  have h0 := h 0; have h1 := h 1; have h2 := h 2; have h3 := h 3; have h4 := h 4; have h5 := h 5
  clear h
  omega
theorem tn_bd {p : Int} (hp : p = 4 ∨ p = 6) (k : Int) : ∀ (l : List Int) (n : Nat) (a b : Int), (∀ x ∈ l, -100000 ≤ x ∧ x ≤ 100000) → n + l.length ≤ 64 → -(100000 * n) ≤ a ∧ a ≤ 100000 * n → -(100000 * n) ≤ b ∧ b ≤ 100000 * n →
    (-6400000 ≤ (tnM p k l n a b).1 ∧ (tnM p k l n a b).1 ≤ 6400000) ∧ (-6400000 ≤ (tnM p k l n a b).2 ∧ (tnM p k l n a b).2 ≤ 6400000)
  | [], n, a, b, _, hn, ha, hb => by
    simp only [tnM]
    simp at hn
    omega
  | x :: t, n, a, b, hs, hn, ha, hb => by
    have hx := hs x (by simp)
    have hn' : n + t.length + 1 ≤ 64 := by simp at hn; omega
    have hi := tnIx_bd hp k n
    obtain ⟨hc, hd⟩ := trn_bd hp hi.1 hi.2
    have h1 := tri_of hc x
    have h2 := tri_of hd x
    rw [tnM, w64 (n := x * (trn p (tnIx p k n)).1) (by omega) (by omega), w64 (n := x * (trn p (tnIx p k n)).2) (by omega) (by omega), w64 (n := a + x * (trn p (tnIx p k n)).1) (by omega) (by omega), w64 (n := b + x * (trn p (tnIx p k n)).2) (by omega) (by omega)]
    exact tn_bd hp k t (n + 1) _ _ (fun y hy => hs y (by simp [hy])) (by omega) (by omega) (by omega)
theorem pow4_nw {A B : Int} (hA : -40000000 ≤ A ∧ A ≤ 40000000) (hB : -40000000 ≤ B ∧ B ≤ 40000000) : powM 4 (A, B) = A * A + B * B := by
  have h1 := mulb hA hA
  have h2 := mulb hB hB
  rw [powM, if_neg (by decide), w64 (n := A * A) (by omega) (by omega), w64 (n := B * B) (by omega) (by omega), w64 (n := A * A + B * B) (by omega) (by omega)]
theorem pow6_nw {A B : Int} (hA : -40000000 ≤ A ∧ A ≤ 40000000) (hB : -40000000 ≤ B ∧ B ≤ 40000000) : powM 6 (A, B) = A * A + B * B + A * B := by
  have h1 := mulb hA hA
  have h2 := mulb hB hB
  have h3 := mulb hA hB
  rw [powM, if_pos rfl]
  simp only
  rw [w64 (n := A * A) (by omega) (by omega), w64 (n := B * B) (by omega) (by omega), w64 (n := A * B) (by omega) (by omega), w64 (n := A * A + B * B) (by omega) (by omega), w64 (n := A * A + B * B + A * B) (by omega) (by omega)]
theorem rdP (p : Int) (s : List Int) : ∀ (r j i : Nat), i < r → rd (powL p s j r) (i : Int) = powM p (tnM p ((j + i : Nat) : Int) s 0 0 0)
  | 0, _, _, h => by omega
  | r + 1, j, 0, _ => by simp [powL, rd]
  | r + 1, j, i + 1, h => by
    have := rdP p s r (j + 1) i (by omega)
    rw [rd_getD] at this ⊢
    simp only [powL, List.getD_cons_succ]
    rw [this]
    congr 3
    omega
def pre (L : List Int) : Nat → Int
  | 0 => 0
  | k + 1 => pre L k + rd L (k : Int)
def sqs (L : List Int) : Nat → Int
  | 0 => 0
  | k + 1 => sqs L k + rd L (k : Int) * rd L (k : Int)
structure Good (p : Nat) (s P : List Int) : Prop where
  len : P.length = p
  bd : ∀ k, k < p → 0 ≤ rd P (k : Int) ∧ rd P (k : Int) ≤ 10000000000000000
  sym : ∀ k, k < p → rd P (k : Int) = rd P (((p - k) % p : Nat) : Int)
  sum : ∀ Fl : List Int, (∀ j, j < p → rd Fl (j : Int) = fs p j s 0) → pre P p = (p : Int) * sqs Fl p
theorem pw4 {s : List Int} (hs : sig s = true) : rd (powL 4 s 0 4) 0 = powM 4 (tnM 4 0 s 0 0 0) ∧ rd (powL 4 s 0 4) 1 = powM 4 (tnM 4 1 s 0 0 0) ∧ rd (powL 4 s 0 4) 2 = powM 4 (tnM 4 2 s 0 0 0) ∧ rd (powL 4 s 0 4) 3 = powM 4 (tnM 4 3 s 0 0 0) := by
  have h := fun i hi => rdP 4 s 4 0 i hi
  exact ⟨h 0 (by decide), h 1 (by decide), h 2 (by decide), h 3 (by decide)⟩
theorem good4 {s : List Int} (hs : sig s = true) : Good 4 s (powL 4 s 0 4) := by
  have hb := lin4_bd hs
  obtain ⟨h0, h1, h2, h3⟩ := pw4 hs
  rw [t4_0 hs] at h0
  rw [t4_1 hs] at h1
  rw [t4_2 hs] at h2
  rw [t4_3 hs] at h3
  obtain ⟨b0, b1, b2, b3⟩ := hb
  rw [pow4_nw (by omega) (by omega)] at h0
  rw [pow4_nw (by omega) (by omega)] at h1
  rw [pow4_nw (by omega) (by omega)] at h2
  rw [pow4_nw (by omega) (by omega)] at h3
  generalize hP : powL 4 s 0 4 = P at *
  have hl : P.length = 4 := by rw [← hP]; exact powL_length 4 s 4 0
  generalize hf0 : fs 4 0 s 0 = f0 at *
  generalize hf1 : fs 4 1 s 0 = f1 at *
  generalize hf2 : fs 4 2 s 0 = f2 at *
  generalize hf3 : fs 4 3 s 0 = f3 at *
  refine ⟨hl, ?_, ?_, ?_⟩
  · intro k hk
    have hk' : k = 0 ∨ k = 1 ∨ k = 2 ∨ k = 3 := by omega
    rcases hk' with rfl | rfl | rfl | rfl
    · rw [show ((0 : Nat) : Int) = 0 from rfl, h0]
      have n1 := sqn (f0 + f1 + f2 + f3); have n2 := sqn (0); have m1 := mulb (x := f0 + f1 + f2 + f3) (y := f0 + f1 + f2 + f3) (by omega) (by omega); have m2 := mulb (x := 0) (y := 0) (by omega) (by omega)
      omega
    · rw [show ((1 : Nat) : Int) = 1 from rfl, h1]
      have n1 := sqn (f0 - f2); have n2 := sqn (-f1 + f3); have m1 := mulb (x := f0 - f2) (y := f0 - f2) (by omega) (by omega); have m2 := mulb (x := -f1 + f3) (y := -f1 + f3) (by omega) (by omega)
      omega
    · rw [show ((2 : Nat) : Int) = 2 from rfl, h2]
      have n1 := sqn (f0 - f1 + f2 - f3); have n2 := sqn (0); have m1 := mulb (x := f0 - f1 + f2 - f3) (y := f0 - f1 + f2 - f3) (by omega) (by omega); have m2 := mulb (x := 0) (y := 0) (by omega) (by omega)
      omega
    · rw [show ((3 : Nat) : Int) = 3 from rfl, h3]
      have n1 := sqn (f0 - f2); have n2 := sqn (f1 - f3); have m1 := mulb (x := f0 - f2) (y := f0 - f2) (by omega) (by omega); have m2 := mulb (x := f1 - f3) (y := f1 - f3) (by omega) (by omega)
      omega
  · intro k hk
    have hk' : k = 0 ∨ k = 1 ∨ k = 2 ∨ k = 3 := by omega
    rcases hk' with rfl | rfl | rfl | rfl
    · show rd P 0 = rd P 0
      rw [h0]
    · show rd P 1 = rd P 3
      rw [h1, h3]
      grind
    · show rd P 2 = rd P 2
      rw [h2]
    · show rd P 3 = rd P 1
      rw [h3, h1]
      grind
  · intro Fl hF
    have g0 : rd Fl 0 = f0 := (hF 0 (by decide)).trans hf0; have g1 : rd Fl 1 = f1 := (hF 1 (by decide)).trans hf1; have g2 : rd Fl 2 = f2 := (hF 2 (by decide)).trans hf2; have g3 : rd Fl 3 = f3 := (hF 3 (by decide)).trans hf3
    simp only [pre, sqs]
    show ((((0 + rd P 0) + rd P 1) + rd P 2) + rd P 3) = 4 * (((((0 + rd Fl 0 * rd Fl 0) + rd Fl 1 * rd Fl 1) + rd Fl 2 * rd Fl 2) + rd Fl 3 * rd Fl 3))
    rw [h0, h1, h2, h3, g0, g1, g2, g3]
    grind
theorem pw6 {s : List Int} (hs : sig s = true) : rd (powL 6 s 0 6) 0 = powM 6 (tnM 6 0 s 0 0 0) ∧ rd (powL 6 s 0 6) 1 = powM 6 (tnM 6 1 s 0 0 0) ∧ rd (powL 6 s 0 6) 2 = powM 6 (tnM 6 2 s 0 0 0) ∧ rd (powL 6 s 0 6) 3 = powM 6 (tnM 6 3 s 0 0 0) ∧ rd (powL 6 s 0 6) 4 = powM 6 (tnM 6 4 s 0 0 0) ∧ rd (powL 6 s 0 6) 5 = powM 6 (tnM 6 5 s 0 0 0) := by
  have h := fun i hi => rdP 6 s 6 0 i hi
  exact ⟨h 0 (by decide), h 1 (by decide), h 2 (by decide), h 3 (by decide), h 4 (by decide), h 5 (by decide)⟩
theorem good6 {s : List Int} (hs : sig s = true) : Good 6 s (powL 6 s 0 6) := by
  have hb := lin6_bd hs
  obtain ⟨h0, h1, h2, h3, h4, h5⟩ := pw6 hs
  rw [t6_0 hs] at h0
  rw [t6_1 hs] at h1
  rw [t6_2 hs] at h2
  rw [t6_3 hs] at h3
  rw [t6_4 hs] at h4
  rw [t6_5 hs] at h5
  obtain ⟨b0, b1, b2, b3, b4, b5⟩ := hb
  rw [pow6_nw (by omega) (by omega)] at h0
  rw [pow6_nw (by omega) (by omega)] at h1
  rw [pow6_nw (by omega) (by omega)] at h2
  rw [pow6_nw (by omega) (by omega)] at h3
  rw [pow6_nw (by omega) (by omega)] at h4
  rw [pow6_nw (by omega) (by omega)] at h5
  generalize hP : powL 6 s 0 6 = P at *
  have hl : P.length = 6 := by rw [← hP]; exact powL_length 6 s 6 0
  generalize hf0 : fs 6 0 s 0 = f0 at *
  generalize hf1 : fs 6 1 s 0 = f1 at *
  generalize hf2 : fs 6 2 s 0 = f2 at *
  generalize hf3 : fs 6 3 s 0 = f3 at *
  generalize hf4 : fs 6 4 s 0 = f4 at *
  generalize hf5 : fs 6 5 s 0 = f5 at *
  refine ⟨hl, ?_, ?_, ?_⟩
  · intro k hk
    have hk' : k = 0 ∨ k = 1 ∨ k = 2 ∨ k = 3 ∨ k = 4 ∨ k = 5 := by omega
    rcases hk' with rfl | rfl | rfl | rfl | rfl | rfl
    · rw [show ((0 : Nat) : Int) = 0 from rfl, h0]
      have n1 := nrm_nn (f0 + f1 + f2 + f3 + f4 + f5) (0); have m1 := mulb (x := f0 + f1 + f2 + f3 + f4 + f5) (y := f0 + f1 + f2 + f3 + f4 + f5) (by omega) (by omega); have m2 := mulb (x := 0) (y := 0) (by omega) (by omega); have m3 := mulb (x := f0 + f1 + f2 + f3 + f4 + f5) (y := 0) (by omega) (by omega)
      omega
    · rw [show ((1 : Nat) : Int) = 1 from rfl, h1]
      have n1 := nrm_nn (f0 + f1 - f3 - f4) (-f1 - f2 + f4 + f5); have m1 := mulb (x := f0 + f1 - f3 - f4) (y := f0 + f1 - f3 - f4) (by omega) (by omega); have m2 := mulb (x := -f1 - f2 + f4 + f5) (y := -f1 - f2 + f4 + f5) (by omega) (by omega); have m3 := mulb (x := f0 + f1 - f3 - f4) (y := -f1 - f2 + f4 + f5) (by omega) (by omega)
      omega
    · rw [show ((2 : Nat) : Int) = 2 from rfl, h2]
      have n1 := nrm_nn (f0 - f2 + f3 - f5) (-f1 + f2 - f4 + f5); have m1 := mulb (x := f0 - f2 + f3 - f5) (y := f0 - f2 + f3 - f5) (by omega) (by omega); have m2 := mulb (x := -f1 + f2 - f4 + f5) (y := -f1 + f2 - f4 + f5) (by omega) (by omega); have m3 := mulb (x := f0 - f2 + f3 - f5) (y := -f1 + f2 - f4 + f5) (by omega) (by omega)
      omega
    · rw [show ((3 : Nat) : Int) = 3 from rfl, h3]
      have n1 := nrm_nn (f0 - f1 + f2 - f3 + f4 - f5) (0); have m1 := mulb (x := f0 - f1 + f2 - f3 + f4 - f5) (y := f0 - f1 + f2 - f3 + f4 - f5) (by omega) (by omega); have m2 := mulb (x := 0) (y := 0) (by omega) (by omega); have m3 := mulb (x := f0 - f1 + f2 - f3 + f4 - f5) (y := 0) (by omega) (by omega)
      omega
    · rw [show ((4 : Nat) : Int) = 4 from rfl, h4]
      have n1 := nrm_nn (f0 - f1 + f3 - f4) (f1 - f2 + f4 - f5); have m1 := mulb (x := f0 - f1 + f3 - f4) (y := f0 - f1 + f3 - f4) (by omega) (by omega); have m2 := mulb (x := f1 - f2 + f4 - f5) (y := f1 - f2 + f4 - f5) (by omega) (by omega); have m3 := mulb (x := f0 - f1 + f3 - f4) (y := f1 - f2 + f4 - f5) (by omega) (by omega)
      omega
    · rw [show ((5 : Nat) : Int) = 5 from rfl, h5]
      have n1 := nrm_nn (f0 - f2 - f3 + f5) (f1 + f2 - f4 - f5); have m1 := mulb (x := f0 - f2 - f3 + f5) (y := f0 - f2 - f3 + f5) (by omega) (by omega); have m2 := mulb (x := f1 + f2 - f4 - f5) (y := f1 + f2 - f4 - f5) (by omega) (by omega); have m3 := mulb (x := f0 - f2 - f3 + f5) (y := f1 + f2 - f4 - f5) (by omega) (by omega)
      omega
  · intro k hk
    have hk' : k = 0 ∨ k = 1 ∨ k = 2 ∨ k = 3 ∨ k = 4 ∨ k = 5 := by omega
    rcases hk' with rfl | rfl | rfl | rfl | rfl | rfl
    · show rd P 0 = rd P 0
      rw [h0]
    · show rd P 1 = rd P 5
      rw [h1, h5]
      grind
    · show rd P 2 = rd P 4
      rw [h2, h4]
      grind
    · show rd P 3 = rd P 3
      rw [h3]
    · show rd P 4 = rd P 2
      rw [h4, h2]
      grind
    · show rd P 5 = rd P 1
      rw [h5, h1]
      grind
  · intro Fl hF
    have g0 : rd Fl 0 = f0 := (hF 0 (by decide)).trans hf0; have g1 : rd Fl 1 = f1 := (hF 1 (by decide)).trans hf1; have g2 : rd Fl 2 = f2 := (hF 2 (by decide)).trans hf2; have g3 : rd Fl 3 = f3 := (hF 3 (by decide)).trans hf3; have g4 : rd Fl 4 = f4 := (hF 4 (by decide)).trans hf4; have g5 : rd Fl 5 = f5 := (hF 5 (by decide)).trans hf5
    simp only [pre, sqs]
    show ((((((0 + rd P 0) + rd P 1) + rd P 2) + rd P 3) + rd P 4) + rd P 5) = 6 * (((((((0 + rd Fl 0 * rd Fl 0) + rd Fl 1 * rd Fl 1) + rd Fl 2 * rd Fl 2) + rd Fl 3 * rd Fl 3) + rd Fl 4 * rd Fl 4) + rd Fl 5 * rd Fl 5))
    rw [h0, h1, h2, h3, h4, h5, g0, g1, g2, g3, g4, g5]
    grind
theorem tnF_c0 : ∀ (l : List Int) (n : Nat) (y z a b : Int), (∀ x ∈ l, -100000 ≤ x ∧ x ≤ 100000) → n + l.length ≤ 64 → -(100000 * n) ≤ a ∧ a ≤ 100000 * n → -(100000 * n) ≤ b ∧ b ≤ 100000 * n →
    (n % 4 = 1 ∧ y = a ∧ z = b) ∨ (n % 4 = 2 ∧ y = -b ∧ z = a) ∨ (n % 4 = 3 ∧ y = -a ∧ z = -b) ∨ (n % 4 = 0 ∧ y = b ∧ z = -a) →
    tonePow 0 (tnF 0 l y z) = powM 4 (tnM 4 1 l n a b)
  | [], n, y, z, a, b, _, hn, ha, hb, hr => by
    simp at hn
    simp only [tnF, tnM]
    rw [pow4_nw (by omega) (by omega)]
    have hy : -40000000 ≤ y ∧ y ≤ 40000000 := by omega
    have hz : -40000000 ≤ z ∧ z ≤ 40000000 := by omega
    have h1 := mulb hy hy
    have h2 := mulb hz hz
    unfold tonePow
    simp only [Int.zero_mul]
    rw [w64 (n := y * y) (by omega) (by omega), w64 (n := z * z) (by omega) (by omega), w64 (n := y * y + z * z) (by omega) (by omega), w64 (n := 0) (by omega) (by omega), Int.zero_mul, w64 (n := 0) (by omega) (by omega), Int.sub_zero, w64 (n := y * y + z * z) (by omega) (by omega)]
    rcases hr with ⟨-, rfl, rfl⟩ | ⟨-, rfl, rfl⟩ | ⟨-, rfl, rfl⟩ | ⟨-, rfl, rfl⟩ <;> grind
  | x :: t, n, y, z, a, b, hs, hn, ha, hb, hr => by
    have hx := hs x (by simp)
    have hn' : n + t.length + 1 ≤ 64 := by simp at hn; omega
    have em : tnIx 4 1 n = tnIx 4 1 (n % 4) := tnIx_mod (p := 4) (.inl rfl) 1 n
    simp only [tnF, tnM, Int.zero_mul]
    rw [em, w64 (n := 0) (by omega) (by omega), Int.add_zero, w64 (n := x) (by omega) (by omega), w64 (n := x - z) (by omega) (by omega)]
    rcases hr with ⟨e, h1, h2⟩ | ⟨e, h1, h2⟩ | ⟨e, h1, h2⟩ | ⟨e, h1, h2⟩ <;> rw [e] <;> simp only [c4_1_0, c4_1_1, c4_1_2, c4_1_3, Int.mul_one, Int.mul_zero, Int.mul_neg]
    · rw [w64 (n := 0) (by omega) (by omega), w64 (n := -x) (by omega) (by omega), Int.add_zero, w64 (n := a) (by omega) (by omega), w64 (n := b + -x) (by omega) (by omega)]
      exact tnF_c0 t (n + 1) _ _ _ _ (fun y hy => hs y (by simp [hy])) (by omega) (by omega) (by omega) (by omega)
    · rw [w64 (n := 0) (by omega) (by omega), w64 (n := -x) (by omega) (by omega), Int.add_zero, w64 (n := b) (by omega) (by omega), w64 (n := a + -x) (by omega) (by omega)]
      exact tnF_c0 t (n + 1) _ _ _ _ (fun y hy => hs y (by simp [hy])) (by omega) (by omega) (by omega) (by omega)
    · rw [w64 (n := 0) (by omega) (by omega), w64 (n := x) (by omega) (by omega), Int.add_zero, w64 (n := a) (by omega) (by omega), w64 (n := b + x) (by omega) (by omega)]
      exact tnF_c0 t (n + 1) _ _ _ _ (fun y hy => hs y (by simp [hy])) (by omega) (by omega) (by omega) (by omega)
    · rw [w64 (n := 0) (by omega) (by omega), w64 (n := x) (by omega) (by omega), Int.add_zero, w64 (n := b) (by omega) (by omega), w64 (n := a + x) (by omega) (by omega)]
      exact tnF_c0 t (n + 1) _ _ _ _ (fun y hy => hs y (by simp [hy])) (by omega) (by omega) (by omega) (by omega)
theorem tnF_c1 : ∀ (l : List Int) (n : Nat) (y z a b : Int), (∀ x ∈ l, -100000 ≤ x ∧ x ≤ 100000) → n + l.length ≤ 64 → -(100000 * n) ≤ a ∧ a ≤ 100000 * n → -(100000 * n) ≤ b ∧ b ≤ 100000 * n →
    (n % 6 = 1 ∧ y - z = a ∧ z = b) ∨ (n % 6 = 2 ∧ y - z = -b ∧ z = a + b) ∨ (n % 6 = 3 ∧ y - z = -a - b ∧ z = a) ∨ (n % 6 = 4 ∧ y - z = -a ∧ z = -b) ∨ (n % 6 = 5 ∧ y - z = b ∧ z = -a - b) ∨ (n % 6 = 0 ∧ y - z = a + b ∧ z = -a) →
    tonePow (1) (tnF (1) l y z) = powM 6 (tnM 6 1 l n a b)
  | [], n, y, z, a, b, _, hn, ha, hb, hr => by
    simp at hn
    simp only [tnF, tnM]
    rw [pow6_nw (by omega) (by omega)]
    have hy : -40000000 ≤ y ∧ y ≤ 40000000 := by omega
    have hz : -40000000 ≤ z ∧ z ≤ 40000000 := by omega
    have h1 := mulb hy hy
    have h2 := mulb hz hz
    have h3 := mulb hy hz
    unfold tonePow
    simp only [Int.one_mul, Int.neg_mul]
    rw [w64 (n := y * y) (by omega) (by omega), w64 (n := z * z) (by omega) (by omega), w64 (n := y * y + z * z) (by omega) (by omega), w64 (n := y) (by omega) (by omega)]
    rw [w64 (n := y * z) (by omega) (by omega), w64 (n := y * y + z * z - y * z) (by omega) (by omega)]
    rcases hr with ⟨-, h4, h5⟩ | ⟨-, h4, h5⟩ | ⟨-, h4, h5⟩ | ⟨-, h4, h5⟩ | ⟨-, h4, h5⟩ | ⟨-, h4, h5⟩
    · obtain rfl : y = a + z := by omega
      subst h5
      grind
    · obtain rfl : y = -b + z := by omega
      subst h5
      grind
    · obtain rfl : y = -a - b + z := by omega
      subst h5
      grind
    · obtain rfl : y = -a + z := by omega
      subst h5
      grind
    · obtain rfl : y = b + z := by omega
      subst h5
      grind
    · obtain rfl : y = a + b + z := by omega
      subst h5
      grind
  | x :: t, n, y, z, a, b, hs, hn, ha, hb, hr => by
    have hx := hs x (by simp)
    have hn' : n + t.length + 1 ≤ 64 := by simp at hn; omega
    have hs' : ∀ y ∈ t, -100000 ≤ y ∧ y ≤ 100000 := fun y hy => hs y (by simp [hy])
    have em : tnIx 6 1 n = tnIx 6 1 (n % 6) := tnIx_mod (p := 6) (.inr rfl) 1 n
    have hy : -40000000 ≤ y ∧ y ≤ 40000000 := by clear em; omega
    have hz : -40000000 ≤ z ∧ z ≤ 40000000 := by clear em; omega
    have ha6 : -6400000 ≤ a ∧ a ≤ 6400000 := by clear em hr; omega
    have hb6 : -6400000 ≤ b ∧ b ≤ 6400000 := by clear em hr; omega
    have A1 : -(100000 * ((n + 1 : Nat) : Int)) ≤ a + x ∧ a + x ≤ 100000 * ((n + 1 : Nat) : Int) := by clear em hr; omega
    have A2 : -(100000 * ((n + 1 : Nat) : Int)) ≤ a + -x ∧ a + -x ≤ 100000 * ((n + 1 : Nat) : Int) := by clear em hr; omega
    have A0 : -(100000 * ((n + 1 : Nat) : Int)) ≤ a + 0 ∧ a + 0 ≤ 100000 * ((n + 1 : Nat) : Int) := by clear em hr; omega
    have B1 : -(100000 * ((n + 1 : Nat) : Int)) ≤ b + x ∧ b + x ≤ 100000 * ((n + 1 : Nat) : Int) := by clear em hr; omega
    have B2 : -(100000 * ((n + 1 : Nat) : Int)) ≤ b + -x ∧ b + -x ≤ 100000 * ((n + 1 : Nat) : Int) := by clear em hr; omega
    have B0 : -(100000 * ((n + 1 : Nat) : Int)) ≤ b + 0 ∧ b + 0 ≤ 100000 * ((n + 1 : Nat) : Int) := by clear em hr; omega
    have w1 : wrap64 x = x := w64 (by omega) (by omega)
    have w2 : wrap64 (-x) = -x := w64 (by omega) (by omega)
    have w3 : wrap64 0 = 0 := w64 (by omega) (by omega)
    have wa1 : wrap64 (a + x) = a + x := w64 (by omega) (by omega)
    have wa2 : wrap64 (a + -x) = a + -x := w64 (by omega) (by omega)
    have wa0 : wrap64 (a + 0) = a + 0 := w64 (by omega) (by omega)
    have wb1 : wrap64 (b + x) = b + x := w64 (by omega) (by omega)
    have wb2 : wrap64 (b + -x) = b + -x := w64 (by omega) (by omega)
    have wb0 : wrap64 (b + 0) = b + 0 := w64 (by omega) (by omega)
    have wy : wrap64 y = y := w64 (by omega) (by omega)
    have wxy : wrap64 (x + y) = x + y := w64 (by omega) (by omega)
    have wz : wrap64 (x + y - z) = x + y - z := w64 (by omega) (by omega)
    have hn1 : n + 1 + t.length ≤ 64 := by omega
    simp only [tnF, tnM, Int.one_mul, Int.neg_mul]
    rw [em, wy, wxy, wz]
    clear em wy wxy wz hs hn hx
    rcases hr with ⟨e, h1, h2⟩ | ⟨e, h1, h2⟩ | ⟨e, h1, h2⟩ | ⟨e, h1, h2⟩ | ⟨e, h1, h2⟩ | ⟨e, h1, h2⟩ <;> rw [e] <;> simp only [c6_1_0, c6_1_1, c6_1_2, c6_1_3, c6_1_4, c6_1_5, Int.mul_one, Int.mul_zero, Int.mul_neg]
    · rw [w1, w2, wa1, wb2]
      clear wa0 wa1 wa2 wb0 wb1 wb2 w1 w2 w3
      exact tnF_c1 t (n + 1) _ _ _ _ hs' hn1 A1 B2 (by clear A0 A1 A2 B0 B1 B2 ha hb ha6 hb6 hy hz hs' hn1 hn'; exact (.inr (.inl ⟨by clear h1 h2; omega, by clear e; omega, by clear e; omega⟩)))
    · rw [w3, w2, wa0, wb2]
      clear wa0 wa1 wa2 wb0 wb1 wb2 w1 w2 w3
      exact tnF_c1 t (n + 1) _ _ _ _ hs' hn1 A0 B2 (by clear A0 A1 A2 B0 B1 B2 ha hb ha6 hb6 hy hz hs' hn1 hn'; exact (.inr (.inr (.inl ⟨by clear h1 h2; omega, by clear e; omega, by clear e; omega⟩))))
    · rw [w2, w3, wa2, wb0]
      clear wa0 wa1 wa2 wb0 wb1 wb2 w1 w2 w3
      exact tnF_c1 t (n + 1) _ _ _ _ hs' hn1 A2 B0 (by clear A0 A1 A2 B0 B1 B2 ha hb ha6 hb6 hy hz hs' hn1 hn'; exact (.inr (.inr (.inr (.inl ⟨by clear h1 h2; omega, by clear e; omega, by clear e; omega⟩)))))
    · rw [w2, w1, wa2, wb1]
      clear wa0 wa1 wa2 wb0 wb1 wb2 w1 w2 w3
      exact tnF_c1 t (n + 1) _ _ _ _ hs' hn1 A2 B1 (by clear A0 A1 A2 B0 B1 B2 ha hb ha6 hb6 hy hz hs' hn1 hn'; exact (.inr (.inr (.inr (.inr (.inl ⟨by clear h1 h2; omega, by clear e; omega, by clear e; omega⟩))))))
    · rw [w3, w1, wa0, wb1]
      clear wa0 wa1 wa2 wb0 wb1 wb2 w1 w2 w3
      exact tnF_c1 t (n + 1) _ _ _ _ hs' hn1 A0 B1 (by clear A0 A1 A2 B0 B1 B2 ha hb ha6 hb6 hy hz hs' hn1 hn'; exact (.inr (.inr (.inr (.inr (.inr ⟨by clear h1 h2; omega, by clear e; omega, by clear e; omega⟩))))))
    · rw [w1, w3, wa1, wb0]
      clear wa0 wa1 wa2 wb0 wb1 wb2 w1 w2 w3
      exact tnF_c1 t (n + 1) _ _ _ _ hs' hn1 A1 B0 (by clear A0 A1 A2 B0 B1 B2 ha hb ha6 hb6 hy hz hs' hn1 hn'; exact (.inl ⟨by clear h1 h2; omega, by clear e; omega, by clear e; omega⟩))
theorem tnF_c3 : ∀ (l : List Int) (n : Nat) (y z a b : Int), (∀ x ∈ l, -100000 ≤ x ∧ x ≤ 100000) → n + l.length ≤ 64 → -(100000 * n) ≤ a ∧ a ≤ 100000 * n → -(100000 * n) ≤ b ∧ b ≤ 100000 * n →
    (n % 3 = 1 ∧ y = a ∧ z = b) ∨ (n % 3 = 2 ∧ y = -a - b ∧ z = a) ∨ (n % 3 = 0 ∧ y = b ∧ z = -a - b) →
    tonePow (-1) (tnF (-1) l y z) = powM 6 (tnM 6 2 l n a b)
  | [], n, y, z, a, b, _, hn, ha, hb, hr => by
    simp at hn
    simp only [tnF, tnM]
    rw [pow6_nw (by omega) (by omega)]
    have hy : -40000000 ≤ y ∧ y ≤ 40000000 := by omega
    have hz : -40000000 ≤ z ∧ z ≤ 40000000 := by omega
    have h1 := mulb hy hy
    have h2 := mulb hz hz
    have h3 := mulb hy hz
    unfold tonePow
    simp only [Int.one_mul, Int.neg_mul]
    rw [w64 (n := y * y) (by omega) (by omega), w64 (n := z * z) (by omega) (by omega), w64 (n := y * y + z * z) (by omega) (by omega), w64 (n := -y) (by omega) (by omega)]
    rw [Int.neg_mul, w64 (n := -(y * z)) (by omega) (by omega), w64 (n := y * y + z * z - -(y * z)) (by omega) (by omega)]
    rcases hr with ⟨-, h4, h5⟩ | ⟨-, h4, h5⟩ | ⟨-, h4, h5⟩
    · subst h4 h5
      grind
    · subst h4 h5
      grind
    · subst h4 h5
      grind
  | x :: t, n, y, z, a, b, hs, hn, ha, hb, hr => by
    have hx := hs x (by simp)
    have hn' : n + t.length + 1 ≤ 64 := by simp at hn; omega
    have em : tnIx 6 2 n = tnIx 6 2 (n % 6) := tnIx_mod (p := 6) (.inr rfl) 2 n
    have hy : -40000000 ≤ y ∧ y ≤ 40000000 := by omega
    have hz : -40000000 ≤ z ∧ z ≤ 40000000 := by omega
    simp only [tnF, tnM, Int.one_mul, Int.neg_mul]
    rw [em, w64 (n := -y) (by omega) (by omega), w64 (n := x + -y) (by omega) (by omega), w64 (n := x + -y - z) (by omega) (by omega)]
    have h6 : n % 6 = 0 ∨ n % 6 = 1 ∨ n % 6 = 2 ∨ n % 6 = 3 ∨ n % 6 = 4 ∨ n % 6 = 5 := by omega
    rcases h6 with e | e | e | e | e | e <;> rw [e] <;> simp only [c6_2_0, c6_2_1, c6_2_2, c6_2_3, c6_2_4, c6_2_5, Int.mul_one, Int.mul_zero, Int.mul_neg]
    · rw [w64 (n := x) (by omega) (by omega), w64 (n := 0) (by omega) (by omega), w64 (n := a + x) (by omega) (by omega), w64 (n := b + 0) (by omega) (by omega)]
      exact tnF_c3 t (n + 1) _ _ _ _ (fun y hy => hs y (by simp [hy])) (by omega) (by omega) (by omega) (by omega)
    · rw [w64 (n := 0) (by omega) (by omega), w64 (n := -x) (by omega) (by omega), w64 (n := a + 0) (by omega) (by omega), w64 (n := b + -x) (by omega) (by omega)]
      exact tnF_c3 t (n + 1) _ _ _ _ (fun y hy => hs y (by simp [hy])) (by omega) (by omega) (by omega) (by omega)
    · rw [w64 (n := -x) (by omega) (by omega), w64 (n := x) (by omega) (by omega), w64 (n := a + -x) (by omega) (by omega), w64 (n := b + x) (by omega) (by omega)]
      exact tnF_c3 t (n + 1) _ _ _ _ (fun y hy => hs y (by simp [hy])) (by omega) (by omega) (by omega) (by omega)
    · rw [w64 (n := x) (by omega) (by omega), w64 (n := 0) (by omega) (by omega), w64 (n := a + x) (by omega) (by omega), w64 (n := b + 0) (by omega) (by omega)]
      exact tnF_c3 t (n + 1) _ _ _ _ (fun y hy => hs y (by simp [hy])) (by omega) (by omega) (by omega) (by omega)
    · rw [w64 (n := 0) (by omega) (by omega), w64 (n := -x) (by omega) (by omega), w64 (n := a + 0) (by omega) (by omega), w64 (n := b + -x) (by omega) (by omega)]
      exact tnF_c3 t (n + 1) _ _ _ _ (fun y hy => hs y (by simp [hy])) (by omega) (by omega) (by omega) (by omega)
    · rw [w64 (n := -x) (by omega) (by omega), w64 (n := x) (by omega) (by omega), w64 (n := a + -x) (by omega) (by omega), w64 (n := b + x) (by omega) (by omega)]
      exact tnF_c3 t (n + 1) _ _ _ _ (fun y hy => hs y (by simp [hy])) (by omega) (by omega) (by omega) (by omega)
theorem partV4 {z : Int} (hz : 0 ≤ z ∧ z ≤ 1000) (m : Nat) : partV 4 1 z m = if m % 4 = 0 then z else if m % 4 = 2 then -z else 0 := by
  have e : (1 : Int) * (m : Int) % 4 = ((m % 4 : Nat) : Int) := by omega
  unfold partV
  rw [if_pos rfl, e]
  have h : m % 4 = 0 ∨ m % 4 = 1 ∨ m % 4 = 2 ∨ m % 4 = 3 := by omega
  rcases h with h | h | h | h <;> rw [h]
  · rw [show trn 4 ((0 : Nat) : Int) = (1, 0) from rfl, Int.mul_one, w64 (n := z) (by omega) (by omega)]
    rfl
  · rw [show trn 4 ((1 : Nat) : Int) = (0, 1) from rfl, Int.mul_zero, w64 (n := 0) (by omega) (by omega)]
    rfl
  · rw [show trn 4 ((2 : Nat) : Int) = (-1, 0) from rfl]
    simp only [Int.mul_neg, Int.mul_one]
    rw [w64 (n := -z) (by omega) (by omega)]
    rfl
  · rw [show trn 4 ((3 : Nat) : Int) = (0, -1) from rfl, Int.mul_zero, w64 (n := 0) (by omega) (by omega)]
    rfl
def six (k r : Nat) : Int := if k = 1 then (if r = 0 then 2 else if r = 1 then 1 else if r = 2 then -1 else if r = 3 then -2 else if r = 4 then -1 else 1) else (if r % 3 = 0 then 2 else -1)
theorem partV6 {z : Int} (hz : 0 ≤ z ∧ z ≤ 1000) (k : Nat) (hk : k = 1 ∨ k = 2) (m : Nat) : partV 6 (k : Int) z m = z * six k (m % 6) := by
  have e : (k : Int) * (m : Int) % 6 = (((k * (m % 6)) % 6 : Nat) : Int) := by
    rcases hk with rfl | rfl <;> omega
  unfold partV
  rw [if_neg (by decide), e]
  have h : m % 6 = 0 ∨ m % 6 = 1 ∨ m % 6 = 2 ∨ m % 6 = 3 ∨ m % 6 = 4 ∨ m % 6 = 5 := by omega
  have key : ∀ x y c : Int, -1 ≤ x → x ≤ 1 → -1 ≤ y → y ≤ 1 → 2 * x + y = c → wrap64 (z * wrap64 (wrap64 (2 * x) + y)) = z * c := by
    intro x y c h1 h2 h3 h4 h5
    rw [w64 (n := 2 * x) (by omega) (by omega), w64 (n := 2 * x + y) (by omega) (by omega), h5]
    have hc : c = -3 ∨ c = -2 ∨ c = -1 ∨ c = 0 ∨ c = 1 ∨ c = 2 ∨ c = 3 := by omega
    have hb : -3000 ≤ z * c ∧ z * c ≤ 3000 := by
      rcases hc with rfl | rfl | rfl | rfl | rfl | rfl | rfl <;> omega
    exact w64 (by omega) (by omega)
  rcases hk with rfl | rfl <;> rcases h with h | h | h | h | h | h <;> rw [h] <;> exact key _ _ _ (by decide) (by decide) (by decide) (by decide) (by decide)
theorem fs_part4 {z : Int} (hz : 0 ≤ z ∧ z ≤ 1000) (j : Nat) : ∀ (q s : Nat), s % 4 = 0 → fs 4 j (partL 4 1 z s (4 * q)) s = (q : Int) * (if j = 0 then z else if j = 2 then -z else 0)
  | 0, s, h => by simp [partL, fs]
  | q + 1, s, h => by
    have e : 4 * (q + 1) = 4 * q + 1 + 1 + 1 + 1 := by omega
    rw [e]
    simp only [partL, fs]
    rw [fs_part4 hz j q (s + 1 + 1 + 1 + 1) (by omega), partV4 hz, partV4 hz, partV4 hz, partV4 hz, h, show (s + 1) % 4 = 1 by omega, show (s + 1 + 1) % 4 = 2 by omega, show (s + 1 + 1 + 1) % 4 = 3 by omega]
    by_cases j0 : j = 0
    · subst j0
      simp
      grind
    by_cases j2 : j = 2
    · subst j2
      simp
      grind
    rw [if_neg (fun g => j0 g.symm), if_neg (show ¬ 2 = j from fun g => j2 g.symm), if_neg j0, if_neg j2]
    simp
theorem fs_part6 {z : Int} (hz : 0 ≤ z ∧ z ≤ 1000) (k : Nat) (hk : k = 1 ∨ k = 2) (j : Nat) (hj : j < 6) : ∀ (q s : Nat), s % 6 = 0 → fs 6 j (partL 6 (k : Int) z s (6 * q)) s = (q : Int) * (z * six k j)
  | 0, s, h => by simp [partL, fs]
  | q + 1, s, h => by
    have e : 6 * (q + 1) = 6 * q + 1 + 1 + 1 + 1 + 1 + 1 := by omega
    rw [e]
    simp only [partL, fs]
    rw [fs_part6 hz k hk j hj q (s + 1 + 1 + 1 + 1 + 1 + 1) (by omega), partV6 hz k hk, partV6 hz k hk, partV6 hz k hk, partV6 hz k hk, partV6 hz k hk, partV6 hz k hk, h, show (s + 1) % 6 = 1 by omega, show (s + 1 + 1) % 6 = 2 by omega, show (s + 1 + 1 + 1) % 6 = 3 by omega, show (s + 1 + 1 + 1 + 1) % 6 = 4 by omega, show (s + 1 + 1 + 1 + 1 + 1) % 6 = 5 by omega]
    have hj' : j = 0 ∨ j = 1 ∨ j = 2 ∨ j = 3 ∨ j = 4 ∨ j = 5 := by omega
    rcases hj' with rfl | rfl | rfl | rfl | rfl | rfl <;> simp <;> grind
theorem part_sig {p z : Int} (hp : p = 4 ∨ p = 6) (hz : 0 ≤ z ∧ z ≤ 1000) (k : Int) (r : Nat) (hr : r ≤ 64) : sig (partL p k z 0 r) = true := by
  simp only [sig, Bool.and_eq_true, decide_eq_true_eq, List.all_eq_true]
  exact ⟨by rw [partL_length]; omega, partL_in hp hz k r 0⟩
theorem whole4 {z : Int} (hz : 1 ≤ z ∧ z ≤ 1000) (q : Nat) (hq : 1 ≤ q) (hq2 : 4 * q ≤ 64) (k : Nat) (hk : k < 4) : (rd (powL 4 (partL 4 1 z 0 (4 * q)) 0 4) (k : Int) ≠ 0) ↔ (k = 1 ∨ k = 3) := by
  have hs := part_sig (p := 4) (.inl rfl) (z := z) (by omega) 1 (4 * q) hq2
  obtain ⟨h0, h1, h2, h3⟩ := pw4 hs
  have f := fun j => fs_part4 (z := z) (by omega) j q 0 rfl
  have f0 := f 0; have f1 := f 1; have f2 := f 2; have f3 := f 3
  clear f
  simp at f0 f1 f2 f3
  rw [Int.mul_neg] at f2
  have hqz : 1 ≤ (q : Int) * z ∧ (q : Int) * z ≤ 16000 := by
    refine ⟨?_, ?_⟩
    · have := Int.mul_le_mul (a := 1) (b := 1) (c := (q : Int)) (d := z) (by omega) (by omega) (by omega) (by omega)
      omega
    · have := Int.mul_le_mul (a := (q : Int)) (b := z) (c := 16) (d := 1000) (by omega) (by omega) (by omega) (by omega)
      omega
  generalize (q : Int) * z = Z at *
  rw [t4_0 hs, f0, f1, f2, f3] at h0
  rw [t4_1 hs, f0, f1, f2, f3] at h1
  rw [t4_2 hs, f0, f1, f2, f3] at h2
  rw [t4_3 hs, f0, f1, f2, f3] at h3
  rw [pow4_nw (by omega) (by omega)] at h0 h1 h2 h3
  have e0 : (Z + 0 + -Z + 0 : Int) = 0 := by omega
  have e2 : (Z - 0 + -Z - 0 : Int) = 0 := by omega
  have e1 : Z - -Z = 2 * Z := by omega
  rw [e0] at h0
  rw [e1] at h1 h3
  rw [e2] at h2
  have hsq : 0 < 2 * Z * (2 * Z) := Int.mul_pos (by omega) (by omega)
  have hk' : k = 0 ∨ k = 1 ∨ k = 2 ∨ k = 3 := by omega
  rcases hk' with rfl | rfl | rfl | rfl
  · rw [show ((0 : Nat) : Int) = 0 from rfl, h0]; simp
  · rw [show ((1 : Nat) : Int) = 1 from rfl, h1]; simp; omega
  · rw [show ((2 : Nat) : Int) = 2 from rfl, h2]; simp
  · rw [show ((3 : Nat) : Int) = 3 from rfl, h3]; simp; omega
theorem whole6 {z : Int} (hz : 1 ≤ z ∧ z ≤ 1000) (m : Nat) (hm : m = 1 ∨ m = 2) (q : Nat) (hq : 1 ≤ q) (hq2 : 6 * q ≤ 64) (k : Nat) (hk : k < 6) : (rd (powL 6 (partL 6 (m : Int) z 0 (6 * q)) 0 6) (k : Int) ≠ 0) ↔ (k = m ∨ k = 6 - m) := by
  have hs := part_sig (p := 6) (.inr rfl) (z := z) (by omega) (m : Int) (6 * q) hq2
  obtain ⟨h0, h1, h2, h3, h4, h5⟩ := pw6 hs
  have f := fun j hj => fs_part6 (z := z) (by omega) m hm j hj q 0 rfl
  have f0 := f 0 (by decide); have f1 := f 1 (by decide); have f2 := f 2 (by decide); have f3 := f 3 (by decide); have f4 := f 4 (by decide); have f5 := f 5 (by decide)
  clear f
  have hqz : 1 ≤ (q : Int) * z ∧ (q : Int) * z ≤ 16000 := by
    refine ⟨?_, ?_⟩
    · have := Int.mul_le_mul (a := 1) (b := 1) (c := (q : Int)) (d := z) (by omega) (by omega) (by omega) (by omega)
      omega
    · have := Int.mul_le_mul (a := (q : Int)) (b := z) (c := 16) (d := 1000) (by omega) (by omega) (by omega) (by omega)
      omega
  rw [← Int.mul_assoc] at f0 f1 f2 f3 f4 f5
  generalize (q : Int) * z = Z at *
  rw [t6_0 hs, f0, f1, f2, f3, f4, f5] at h0
  rw [t6_1 hs, f0, f1, f2, f3, f4, f5] at h1
  rw [t6_2 hs, f0, f1, f2, f3, f4, f5] at h2
  rw [t6_3 hs, f0, f1, f2, f3, f4, f5] at h3
  rw [t6_4 hs, f0, f1, f2, f3, f4, f5] at h4
  rw [t6_5 hs, f0, f1, f2, f3, f4, f5] at h5
  have hsq : 0 < 6 * Z * (6 * Z) := Int.mul_pos (by omega) (by omega)
  have hsix : ∀ A B : Int, A = 6 * Z → B = 0 → powM 6 (A, B) ≠ 0 := by
    intro A B hA hB
    rw [pow6_nw (by omega) (by omega), hA, hB]
    simp
    omega
  have hnul : ∀ A B : Int, A = 0 → B = 0 → powM 6 (A, B) = 0 := by
    intro A B hA hB
    rw [pow6_nw (by omega) (by omega), hA, hB]
    simp
  have hk' : k = 0 ∨ k = 1 ∨ k = 2 ∨ k = 3 ∨ k = 4 ∨ k = 5 := by omega
  rcases hm with rfl | rfl
  · rw [show six 1 0 = 2 from rfl, show six 1 1 = 1 from rfl, show six 1 2 = (-1) from rfl, show six 1 3 = (-2) from rfl, show six 1 4 = (-1) from rfl, show six 1 5 = 1 from rfl] at h0 h1 h2 h3 h4 h5
    rcases hk' with rfl | rfl | rfl | rfl | rfl | rfl
    · exact ⟨fun g => absurd (h0.trans (hnul _ _ (by omega) (by omega))) g, fun g => by omega⟩
    · exact ⟨fun _ => by omega, fun _ g => hsix _ _ (by omega) (by omega) (h1.symm.trans g)⟩
    · exact ⟨fun g => absurd (h2.trans (hnul _ _ (by omega) (by omega))) g, fun g => by omega⟩
    · exact ⟨fun g => absurd (h3.trans (hnul _ _ (by omega) (by omega))) g, fun g => by omega⟩
    · exact ⟨fun g => absurd (h4.trans (hnul _ _ (by omega) (by omega))) g, fun g => by omega⟩
    · exact ⟨fun _ => by omega, fun _ g => hsix _ _ (by omega) (by omega) (h5.symm.trans g)⟩
  · rw [show six 2 0 = 2 from rfl, show six 2 1 = (-1) from rfl, show six 2 2 = (-1) from rfl, show six 2 3 = 2 from rfl, show six 2 4 = (-1) from rfl, show six 2 5 = (-1) from rfl] at h0 h1 h2 h3 h4 h5
    rcases hk' with rfl | rfl | rfl | rfl | rfl | rfl
    · exact ⟨fun g => absurd (h0.trans (hnul _ _ (by omega) (by omega))) g, fun g => by omega⟩
    · exact ⟨fun g => absurd (h1.trans (hnul _ _ (by omega) (by omega))) g, fun g => by omega⟩
    · exact ⟨fun _ => by omega, fun _ g => hsix _ _ (by omega) (by omega) (h2.symm.trans g)⟩
    · exact ⟨fun g => absurd (h3.trans (hnul _ _ (by omega) (by omega))) g, fun g => by omega⟩
    · exact ⟨fun _ => by omega, fun _ g => hsix _ _ (by omega) (by omega) (h4.symm.trans g)⟩
    · exact ⟨fun g => absurd (h5.trans (hnul _ _ (by omega) (by omega))) g, fun g => by omega⟩
theorem drawFour_ok {l : List Int} (hl : Bytes l) : ∃ s k, Ev (fun m => spec_DrawFourTone.f m l) (s, k) ∧ s.length ≤ 100001 := by
  obtain ⟨s, a2, sd2, e2, hs, h1, h2⟩ := signal_ok hl 0 0 14 20 (by omega) (by omega) (by omega) (by omega)
  obtain ⟨v, a3, sd3, e3, ha3, hb3, -⟩ := among_ok hl a2 sd2 [0, 1, 2, 3, 4, (-1)] (by omega) (by omega) (by simp) (by simp)
  refine ⟨s, v, ?_, hs⟩
  simp only [spec_DrawFourTone.f]
  exact Ev.bind e2 (Ev.dbind e3 (Ev.now _))
theorem drawSix_ok {l : List Int} (hl : Bytes l) : ∃ s k, Ev (fun m => spec_DrawSixTone.f m l) (s, k) ∧ s.length ≤ 100001 := by
  obtain ⟨s, a2, sd2, e2, hs, h1, h2⟩ := signal_ok hl 0 0 14 20 (by omega) (by omega) (by omega) (by omega)
  obtain ⟨v, a3, sd3, e3, ha3, hb3, -⟩ := among_ok hl a2 sd2 [0, 1, 2, 3, 4, 5, 6, (-1)] (by omega) (by omega) (by simp) (by simp)
  refine ⟨s, v, ?_, hs⟩
  simp only [spec_DrawSixTone.f]
  exact Ev.bind e2 (Ev.dbind e3 (Ev.now _))
theorem drawStates_ok {l : List Int} (hl : Bytes l) : ∃ s k, Ev (fun m => spec_DrawToneStates.f m l) (s, k) ∧ s.length ≤ 100001 := by
  obtain ⟨s, a2, sd2, e2, hs, h1, h2⟩ := signal_ok hl 0 0 14 20 (by omega) (by omega) (by omega) (by omega)
  obtain ⟨v, a3, sd3, e3, ha3, hb3, -⟩ := among_ok hl a2 sd2 [3, 4, 6, 3, 4, 6, 5, 0, (-4)] (by omega) (by omega) (by simp) (by simp)
  refine ⟨s, v, ?_, hs⟩
  simp only [spec_DrawToneStates.f]
  exact Ev.bind e2 (Ev.dbind e3 (Ev.now _))
theorem drawPowers_ok {l : List Int} (hl : Bytes l) : ∃ s, Ev (fun m => spec_DrawFourPowers.f m l) s ∧ s.length ≤ 100001 := by
  obtain ⟨s, a2, sd2, e2, hs, h1, h2⟩ := signal_ok hl 0 0 14 20 (by omega) (by omega) (by omega) (by omega)
  refine ⟨s, ?_, hs⟩
  simp only [spec_DrawFourPowers.f]
  exact Ev.bind e2 (Ev.now _)
theorem drawPart_ok {l : List Int} (hl : Bytes l) : ∃ p k z n, spec_DrawToneOfPart.f l = some (p, k, z, n) ∧ 3 ≤ p ∧ p ≤ 6 := by
  obtain ⟨p, a1, sd1, e1, ha1, hb1, hp⟩ := among_ok hl 0 0 [4, 6, 4, 6, 3, 5] (by omega) (by omega) (by simp) (by simp)
  obtain ⟨k, a2, sd2, e2, ha2, hb2, -⟩ := among_ok hl a1 sd1 [0, 1, 2, 3, 4, 5, 6, (-1)] (by omega) (by omega) (by simp) (by simp)
  obtain ⟨z, a3, sd3, e3, ha3, hb3, -⟩ := among_ok hl a2 sd2 [0, 1, 7, 1000, 1001, (-1)] (by omega) (by omega) (by simp) (by simp)
  obtain ⟨n, a4, sd4, e4, ha4, hb4, -⟩ := among_ok hl a3 sd3 [0, 1, 6, 12, 24, 64, 65] (by omega) (by omega) (by simp) (by simp)
  refine ⟨p, k, z, n, by simp only [spec_DrawToneOfPart.f, e1, e2, e3, e4, Option.bind_some], ?_⟩
  simp at hp
  omega
theorem drawStrong_ok {l : List Int} (hl : Bytes l) : ∃ s p, Ev (fun m => spec_DrawStrongestPart.f m l) (s, p) ∧ s.length ≤ 100001 := by
  obtain ⟨p, a1, sd1, e1, ha1, hb1, hp⟩ := among_ok hl 0 0 [4, 6, 4, 6, 3] (by omega) (by omega) (by simp) (by simp)
  obtain ⟨k, a2, sd2, e2, ha2, hb2, -⟩ := pick_ok hl a1 sd1 4 (by omega) (by omega) (by omega)
  obtain ⟨z, a3, sd3, e3, ha3, hb3, -⟩ := pick_ok hl a2 sd2 9 (by omega) (by omega) (by omega)
  obtain ⟨n, a4, sd4, e4, ha4, hb4, -⟩ := pick_ok hl a3 sd3 20 (by omega) (by omega) (by omega)
  simp at hp
  have ht := spec_ToneOfPart_ev p k (wrap64 (1 + z)) n (by omega) (by omega)
  have hlen : (partM p k (wrap64 (1 + z)) n).1.length ≤ 64 := by
    unfold partM
    split
    · rename_i h
      simp only [partOk, Bool.and_eq_true, decide_eq_true_eq] at h
      simp only [partL_length]
      omega
    · simp
  simp only [spec_DrawStrongestPart.f, e1, e2, e3, e4, Option.bind_some]
  by_cases c : (partM p k (wrap64 (1 + z)) n).2 = true
  · obtain ⟨u, a5, sd5, e5, ha5, hb5, -⟩ := one_ok hl a4 sd4 2 (by omega) (by omega) (by omega)
    by_cases d : u = true
    · refine ⟨_, p, Ev.bind ht (Ev.tt c (Ev.dbind e5 (Ev.tt d (Ev.now _)))), by omega⟩
    · obtain ⟨s, a6, sd6, e6, hs, h1, h2⟩ := signal_ok hl a5 sd5 14 20 (by omega) (by omega) (by omega) (by omega)
      exact ⟨s, p, Ev.bind ht (Ev.tt c (Ev.dbind e5 (Ev.ff d (Ev.bind e6 (Ev.now _))))), hs⟩
  · obtain ⟨s, a6, sd6, e6, hs, h1, h2⟩ := signal_ok hl a4 sd4 14 20 (by omega) (by omega) (by omega) (by omega)
    exact ⟨s, p, Ev.bind ht (Ev.ff c (Ev.bind e6 (Ev.now _))), hs⟩
theorem Strongest_best {l : List Int} {p : Int} (hp : p = 4 ∨ p = 6) (c : sig l = true) : ∃ b, isBest (powL p l 0 p.toNat) b ∧ Ev (fun m => impl_StrongestPart.f m l p) ((b : Int), true) := by
  have cp : decide (p = 4 ∨ p = 6) = true := decide_eq_true hp
  have hl := sig_len c
  have hlen : (powL p l 0 p.toNat).length = p.toNat := powL_length p l p.toNat 0
  have hp2 := impl_powers_ev hp l (by omega)
  rw [powsM, if_pos c] at hp2
  generalize powL p l 0 p.toNat = L at *
  obtain ⟨M, hM, hM1, hM2⟩ := max_l0 L (by omega) (L.length - 1) 1 (rd L 0) (by omega) (fun i hi => by
    have : i = 0 := by omega
    rw [this]; exact Int.le_refl _) ⟨0, by omega, rfl⟩
  obtain ⟨b', b1, b2, b3, b4⟩ := index_l0 L (by omega) M hM2 L.length 0 (by omega) (fun i hi => by omega)
  refine ⟨b', ⟨b1, fun i hi => by rw [b2]; exact hM1 i hi, fun i hi => by
    have h1 := hM1 i (by omega)
    have h2 := b3 i hi
    rw [b2]
    omega⟩, ?_⟩
  simp only [impl_StrongestPart.f, impl_isParts.f, isParts_eq, Option.bind_some]
  refine Ev.tt cp (Ev.bind hp2 (Ev.tt rfl (Ev.bind (a := M) ?_ (Ev.bind (a := (b' : Int)) ?_ (Ev.now _)))))
  · simp only [slices_Max_int_int.f]
    exact Ev.ff (by omega) (Ev.tt (by omega) hM)
  · simp only [slices_Index_int_int.f]
    exact b4
theorem law_l4 (L : List Int) (p m : Nat) (hp : p ≤ 6) (hm : m < p) (hL : L.length = p) (hw : ∀ k, k < p → (rd L (k : Int) ≠ 0 ↔ (k = m ∨ k = p - m))) : ∀ (r i : Nat), i + r = p →
    Ev (fun k => laws_FnTonesFound.l4 k (p : Int) (m : Int) L (L.length : Int) (i : Int)) true
  | 0, i, h => by
    refine Ev.step (fun k => by simp only [laws_FnTonesFound.l4]; rfl) ?_
    exact Ev.ff (by omega) (Ev.now _)
  | r + 1, i, h => by
    have e3 : wrap64 ((i : Int) + 1) = ((i + 1 : Nat) : Int) := by rw [w64 (n := (i : Int) + 1) (by omega) (by omega)]; omega
    have e4 : wrap64 ((p : Int) - (m : Int)) = ((p - m : Nat) : Int) := by rw [w64 (n := (p : Int) - (m : Int)) (by omega) (by omega)]; omega
    have ih := law_l4 L p m hp hm hL hw r (i + 1) (by omega)
    have hi := hw i (by omega)
    refine Ev.step (fun k => by simp only [laws_FnTonesFound.l4]; rfl) ?_
    rw [e3, e4]
    refine Ev.tt (by omega) (Ev.tt (Int.natCast_nonneg _) (Ev.tt (by omega) ?_))
    by_cases c : (i : Int) = (m : Int)
    · have h0 : rd L (i : Int) ≠ 0 := hi.2 (.inl (by omega))
      refine Ev.tt c (Ev.ff ?_ ih)
      rw [bne_iff_ne.2 h0]
      decide
    · refine Ev.ff c (Ev.ff ?_ ih)
      by_cases d : i = p - m
      · have h0 : rd L (i : Int) ≠ 0 := hi.2 (.inr d)
        rw [bne_iff_ne.2 h0, beq_iff_eq.2 (by omega)]
        decide
      · have h0 : rd L (i : Int) = 0 := by
          apply Classical.byContradiction
          intro g
          have := hi.1 g
          omega
        rw [h0, beq_eq_false_iff_ne.2 (show (i : Int) ≠ ((p - m : Nat) : Int) by omega)]
        decide
theorem law_j8 (p k z n : Int) (hp0 : 3 ≤ p ∧ p ≤ 6) : Ev (fun m => laws_FnTonesFound.j8 m p k z n (partM p k z n).1 (partM p k z n).2 false) true := by
  refine Ev.step (fun m => by simp only [laws_FnTonesFound.j8]; rfl) ?_
  refine Ev.ff (by simp) ?_
  have stop : ∀ L : List Int, Ev (fun m => laws_FnTonesFound.j9 m p k L false) true := by
    intro L
    refine Ev.step (fun m => by simp only [laws_FnTonesFound.j9]; rfl) ?_
    exact Ev.ff (by simp) (Ev.now _)
  by_cases ok : partOk p k z n = true
  · have e : partM p k z n = (partL p k z 0 n.toNat, true) := by rw [partM, if_pos ok]
    rw [e]
    have ok' := ok
    simp only [partOk, Bool.and_eq_true, decide_eq_true_eq] at ok'
    obtain ⟨⟨⟨hp, hk⟩, hz⟩, hn⟩ := ok'
    refine Ev.tt (by trivial) ?_
    by_cases c1 : n > 0
    · refine Ev.tt c1 (Ev.ff (by omega) ?_)
      by_cases c2 : Int.tmod n p = 0
      · refine Ev.tt c2 ?_
        by_cases c3 : z > 0
        · refine Ev.tt c3 ?_
          by_cases c4 : k > 0
          · refine Ev.tt c4 ?_
            rw [w64 (n := 2 * k) (by omega) (by omega)]
            by_cases c5 : 2 * k < p
            · rw [decide_eq_true c5]
              refine Ev.step (fun m => by simp only [laws_FnTonesFound.j9]; rfl) ?_
              have hs : sig (partL p k z 0 n.toNat) = true := part_sig hp (by omega) k n.toNat (by omega)
              have hsl := sig_len hs
              have h4 : Ev (fun m => impl_FourPowers.f m (partL p k z 0 n.toNat)) (powL 4 (partL p k z 0 n.toNat) 0 4, true) := by
                simp only [impl_FourPowers.f]
                refine Ev.bind (impl_powers_ev (.inl rfl) _ (by omega)) (Ev.to (Ev.now _) ?_)
                rw [powsM, if_pos hs]
                rfl
              have h6 : Ev (fun m => impl_SixPowers.f m (partL p k z 0 n.toNat)) (powL 6 (partL p k z 0 n.toNat) 0 6, true) := by
                simp only [impl_SixPowers.f]
                refine Ev.bind (impl_powers_ev (.inr rfl) _ (by omega)) (Ev.to (Ev.now _) ?_)
                rw [powsM, if_pos hs]
                rfl
              refine Ev.tt (by trivial) (Ev.bind h4 ?_)
              obtain ⟨N, rfl⟩ : ∃ N : Nat, n = (N : Int) := ⟨n.toNat, by omega⟩
              rw [Int.tmod_eq_emod_of_nonneg hn.1] at c2
              rcases hp with rfl | rfl
              · obtain rfl : k = 1 := by omega
                obtain ⟨q, rfl⟩ : ∃ q, N = 4 * q := ⟨N / 4, by omega⟩
                refine Ev.ff (by omega) (Ev.step (fun m => by simp only [laws_FnTonesFound.j10]; rfl) (Ev.tt (by trivial) ?_))
                rw [Int.toNat_natCast]
                exact law_l4 _ 4 1 (by omega) (by omega) (powL_length _ _ _ _) (fun k hk => whole4 (by omega) q (by omega) (by omega) k hk) 4 0 (by omega)
              · obtain ⟨q, rfl⟩ : ∃ q, N = 6 * q := ⟨N / 6, by omega⟩
                obtain ⟨K, rfl⟩ : ∃ K : Nat, k = (K : Int) := ⟨k.toNat, by omega⟩
                refine Ev.tt (by omega) (Ev.bind h6 (Ev.step (fun m => by simp only [laws_FnTonesFound.j10]; rfl) (Ev.tt (by trivial) ?_)))
                rw [Int.toNat_natCast]
                exact law_l4 _ 6 K (by omega) (by omega) (powL_length _ _ _ _) (fun k hk => whole6 (by omega) K (by omega) q (by omega) (by omega) k hk) 6 0 (by omega)
            · rw [decide_eq_false c5]
              exact stop _
          · exact Ev.ff c4 (stop _)
        · exact Ev.ff c3 (stop _)
      · exact Ev.ff c2 (stop _)
    · exact Ev.ff c1 (stop _)
  · have e : partM p k z n = ([], false) := by rw [partM, if_neg ok]
    rw [e]
    exact Ev.ff (by simp) (stop _)
theorem law_j7 {l : List Int} (hl : Bytes l) : Ev (fun m => laws_FnTonesFound.j7 m l) true := by
  obtain ⟨s1, k1, d1, b1⟩ := drawFour_ok hl
  obtain ⟨s2, k2, d2, b2⟩ := drawSix_ok hl
  obtain ⟨p, k, z, n, d3, b3⟩ := drawPart_ok hl
  obtain ⟨s4, k4, d4, b4⟩ := drawStates_ok hl
  obtain ⟨s5, k5, d5, b5⟩ := drawStrong_ok hl
  obtain ⟨r, r1, r2⟩ := StrongestPart_agree s5 k5 (by omega)
  have hpl := partM_len p k z n
  refine Ev.step (fun m => by simp only [laws_FnTonesFound.j7]; rfl) ?_
  refine Ev.bind d1 (Ev.bind (impl_FourTone_ev s1 k1 (by omega)) (Ev.bind (spec_FourTone_ev s1 k1 (by omega)) (Ev.bind d2 (Ev.bind (impl_SixTone_ev s2 k2 (by omega)) (Ev.bind (spec_SixTone_ev s2 k2 (by omega)) (Ev.dbind d3 (Ev.bind (impl_ToneOfPart_ev p k z n (by omega) (by omega)) (Ev.bind (spec_ToneOfPart_ev p k z n (by omega) (by omega)) ?_))))))))
  refine Ev.bind d4 (Ev.bind (impl_ToneStates_ev s4 k4 (by omega)) (Ev.bind (spec_ToneStates_ev s4 k4 (by omega)) (Ev.bind (impl_TonePower_ev s4 k4 (by omega)) (Ev.bind (spec_TonePower_ev s4 k4 (by omega)) (Ev.bind d5 (Ev.bind r2 (Ev.bind r1 ?_)))))))
  refine Ev.ff (by simp) (Ev.tt rfl (Ev.tt rfl (Ev.ff (by simp) (Ev.tt rfl (Ev.tt rfl (Ev.ff (by simp) (Ev.bind (laws_uSame_ev _ (by omega)) (Ev.tt rfl ?_))))))))
  refine Ev.ff (by simp) (Ev.tt rfl (Ev.tt rfl (Ev.ff (by simp) (Ev.tt rfl (Ev.ff (by simp) ?_)))))
  rw [bne_self_eq_false]
  exact law_j8 p k z n b3
theorem fs_snoc (p j : Nat) (x : Int) : ∀ (q : List Int) (n : Nat), fs p j (q ++ [x]) n = fs p j q n + (if (n + q.length) % p = j then x else 0)
  | [], n => by simp [fs]
  | y :: q, n => by
    simp only [List.cons_append, fs, fs_snoc p j x q (n + 1), List.length_cons]
    rw [show n + 1 + q.length = n + (q.length + 1) by omega]
    omega
theorem law_l3 (g : Nat → Option Bool) (x1 s x6 x10 P : List Int) (b : Nat) (xs : List Int) (x138 i : Int) (hP : P.length ≤ 6) (hb : isBest P b) (hg : Ev (fun k => laws_FnTonesFound.l0 k x1 s x6 x10 xs x138 (wrap64 (i + 1))) true) : ∀ (r n : Nat), n + r = P.length →
    Ev (fun k => laws_FnTonesFound.l3 k x1 s x6 x10 P (b : Int) xs x138 i P (P.length : Int) (n : Int)) true
  | 0, n, h => by
    refine Ev.step (fun k => by simp only [laws_FnTonesFound.l3]; rfl) ?_
    exact Ev.ff (by omega) hg
  | r + 1, n, h => by
    have e3 : wrap64 ((n : Int) + 1) = ((n + 1 : Nat) : Int) := by rw [w64 (n := (n : Int) + 1) (by omega) (by omega)]; omega
    have ih := law_l3 g x1 s x6 x10 P b xs x138 i hP hb hg r (n + 1) (by omega)
    have h1 := hb.2.1 n (by omega)
    have h2 := hb.1
    refine Ev.step (fun k => by simp only [laws_FnTonesFound.l3]; rfl) ?_
    rw [e3]
    refine Ev.tt (by omega) (Ev.tt (Int.natCast_nonneg _) (Ev.tt (by omega) (Ev.tt (Int.natCast_nonneg _) (Ev.tt (by omega) (Ev.ff (by omega) ?_)))))
    by_cases c : (n : Int) < (b : Int)
    · have h3 := hb.2.2 n (by omega)
      exact Ev.tt c (Ev.ff (by omega) ih)
    · exact Ev.ff c ih
theorem sqs_bd (L : List Int) (hL : ∀ k : Nat, -6400000 ≤ rd L (k : Int) ∧ rd L (k : Int) ≤ 6400000) : ∀ n : Nat, 0 ≤ sqs L n ∧ sqs L n ≤ 1600000000000000 * n
  | 0 => by simp [sqs]
  | n + 1 => by
    have h1 := sqs_bd L hL n
    have h2 := hL n
    have h3 := mulb (x := rd L (n : Int)) (y := rd L (n : Int)) (by omega) (by omega)
    have h4 := sqn (rd L (n : Int))
    simp only [sqs]
    omega
theorem pre_bd (L : List Int) (p : Nat) (hL : ∀ k : Nat, k < p → 0 ≤ rd L (k : Int) ∧ rd L (k : Int) ≤ 10000000000000000) : ∀ n : Nat, n ≤ p → 0 ≤ pre L n ∧ pre L n ≤ 10000000000000000 * n
  | 0, _ => by simp [pre]
  | n + 1, h => by
    have h1 := pre_bd L p hL n (by omega)
    have h2 := hL n (by omega)
    simp only [pre]
    omega
theorem law_l2 (x1 s x6 x10 P F : List Int) (p : Nat) (hp : p = 4 ∨ p = 6) (xs : List Int) (x138 i : Int) (hs : sig s = true) (hG : Good p s P) (hF : F.length = p) (hFs : ∀ j, j < p → rd F (j : Int) = fs p j s 0) (hFb : ∀ k : Nat, -6400000 ≤ rd F (k : Int) ∧ rd F (k : Int) ≤ 6400000) (hg : Ev (fun k => laws_FnTonesFound.j4 k x1 s x6 x10 (p : Int) P xs x138 i false) true) : ∀ (r n : Nat), n + r = p →
    Ev (fun k => laws_FnTonesFound.l2 k x1 s x6 x10 (p : Int) P F (pre P n) (sqs F n) xs x138 i P (P.length : Int) (n : Int)) true
  | 0, n, h => by
    obtain rfl : n = p := by omega
    have hl := hG.len
    have e1 := hG.sum F hFs
    have h2 := sqs_bd F hFb n
    refine Ev.step (fun k => by simp only [laws_FnTonesFound.l2]; rfl) ?_
    refine Ev.ff (by omega) (Ev.tt (by omega) ?_)
    have e2 : wrap64 ((n : Int) * sqs F n) = (n : Int) * sqs F n := by
      generalize sqs F n = Q at *
      rcases hp with rfl | rfl <;> exact w64 (by omega) (by omega)
    rw [e1, e2, bne_self_eq_false]
    exact hg
  | r + 1, n, h => by
    have hl := hG.len
    have e3 : wrap64 ((n : Int) + 1) = ((n + 1 : Nat) : Int) := by rw [w64 (n := (n : Int) + 1) (by omega) (by omega)]; omega
    have ih := law_l2 x1 s x6 x10 P F p hp xs x138 i hs hG hF hFs hFb hg r (n + 1) (by omega)
    have h1 := hG.bd n (by omega)
    have h2 := sqs_bd F hFb n
    have h3 := pre_bd P p hG.bd n (by omega)
    have h4 := hFb n
    have h5 := mulb (x := rd F (n : Int)) (y := rd F (n : Int)) (by omega) (by omega)
    have hm : (p - n) % p < p := Nat.mod_lt _ (by omega)
    have e4 : Int.tmod (wrap64 ((p : Int) - (n : Int))) (p : Int) = (((p - n) % p : Nat) : Int) := by
      rw [w64 (n := (p : Int) - (n : Int)) (by omega) (by omega), show (p : Int) - (n : Int) = ((p - n : Nat) : Int) by omega, tm]
    have e5 := hG.sym n (by omega)
    have e6 : wrap64 (pre P n + rd P (n : Int)) = pre P (n + 1) := by
      rw [pre]
      exact w64 (by omega) (by omega)
    have e7 : wrap64 (sqs F n + wrap64 (rd F (n : Int) * rd F (n : Int))) = sqs F (n + 1) := by
      rw [sqs, w64 (n := rd F (n : Int) * rd F (n : Int)) (by omega) (by omega)]
      exact w64 (by omega) (by omega)
    refine Ev.step (fun k => by simp only [laws_FnTonesFound.l2]; rfl) ?_
    rw [e3, e4, e6, e7]
    exact Ev.tt (by omega) (Ev.tt (Int.natCast_nonneg _) (Ev.tt (by omega) (Ev.tt (by omega) (Ev.ff (by omega) (Ev.ff (by omega) (Ev.tt (Int.natCast_nonneg _) (Ev.tt (by omega) (Ev.tt e5 ih))))))))
theorem fs_all {s : List Int} (hs : sig s = true) (p j : Nat) : -6400000 ≤ fs p j s 0 ∧ fs p j s 0 ≤ 6400000 := by
  have h := fs_bd p j s 0 (sig_mem hs)
  have hl := sig_len hs
  omega
theorem law_l1 (x1 s x6 x10 P : List Int) (p : Nat) (hp : p = 4 ∨ p = 6) (xs : List Int) (x138 i : Int) (hs : sig s = true) (hG : Good p s P) (hg : Ev (fun k => laws_FnTonesFound.j4 k x1 s x6 x10 (p : Int) P xs x138 i false) true) : ∀ (t q : List Int), s = q ++ t →
    Ev (fun k => laws_FnTonesFound.l1 k x1 s x6 x10 (p : Int) P (Lf (fun j => fs p j q 0) p) xs x138 i s (s.length : Int) (q.length : Int)) true
  | [], q, h => by
    have e : q = s := by rw [h]; simp
    subst e
    refine Ev.step (fun k => by simp only [laws_FnTonesFound.l1]; rfl) ?_
    refine Ev.ff (by omega) ?_
    refine law_l2 x1 q x6 x10 P _ p hp xs x138 i hs hG (Lf_length _ _) (fun j hj => rd_Lf _ _ _ hj) (fun k => ?_) hg p 0 (by omega)
    by_cases c : k < p
    · rw [rd_Lf _ _ _ c]
      exact fs_all hs p k
    · rw [rd_getD, List.getD_eq_getElem?_getD, List.getElem?_eq_none (by rw [Lf_length]; omega)]
      exact ⟨by decide, by decide⟩
  | x :: t, q, h => by
    have hsl := sig_len hs
    have hql : q.length ≤ 63 := by rw [h] at hsl; simp at hsl; omega
    have e1 : (q.length : Int) < (s.length : Int) := by rw [h]; exact lt_mid q t x
    have e2 : rd s (q.length : Int) = x := by rw [h]; exact rd_mid q t x
    have e3 : wrap64 ((q.length : Int) + 1) = ((q ++ [x]).length : Int) := nx_mid q t x (by rw [← h]; omega)
    have hm : q.length % p < p := Nat.mod_lt _ (by omega)
    have hx := sig_mem hs x (by rw [h]; simp)
    have hb := fs_bd p (q.length % p) q 0 (fun y hy => sig_mem hs y (by rw [h]; simp [hy]))
    have e5 : wrap64 (fs p (q.length % p) q 0 + x) = fs p (q.length % p) q 0 + x := w64 (by omega) (by omega)
    have e6 : (Lf (fun j => fs p j q 0) p).set (((q.length % p : Nat) : Int).toNat) (fs p (q.length % p) q 0 + x) = Lf (fun j => fs p j (q ++ [x]) 0) p := by
      rw [Int.toNat_natCast, set_Lf]
      apply Lf_congr
      intro n _
      rw [fs_snoc, Nat.zero_add]
      by_cases c : n = q.length % p
      · rw [if_pos c, if_pos c.symm, c]
      · rw [if_neg c, if_neg (fun h => c h.symm), Int.add_zero]
    have ih := law_l1 x1 s x6 x10 P p hp xs x138 i hs hG hg t (q ++ [x]) (by simp [h])
    refine Ev.step (fun k => by simp only [laws_FnTonesFound.l1]; rfl) ?_
    rw [tm, rd_Lf _ _ _ hm, e2, e3, e5, e6]
    exact Ev.tt e1 (Ev.tt (Int.natCast_nonneg _) (Ev.tt e1 (Ev.ff (by omega) (Ev.tt (Int.natCast_nonneg _) (Ev.tt (by rw [Lf_length]; omega) ih)))))
theorem law_j4 (x1 s x6 x10 : List Int) (p : Nat) (hp : p = 4 ∨ p = 6) (xs : List Int) (x138 i : Int) (hs : sig s = true) (hg : Ev (fun k => laws_FnTonesFound.l0 k x1 s x6 x10 xs x138 (wrap64 (i + 1))) true) :
    Ev (fun k => laws_FnTonesFound.j4 k x1 s x6 x10 (p : Int) (powL (p : Int) s 0 p) xs x138 i false) true := by
  have hp' : (p : Int) = 4 ∨ (p : Int) = 6 := by omega
  obtain ⟨b, hb, hE⟩ := Strongest_best hp' hs
  rw [Int.toNat_natCast] at hb
  have hlen := powL_length (p : Int) s p 0
  have hb1 := hb.1
  refine Ev.step (fun k => by simp only [laws_FnTonesFound.j4]; rfl) (Ev.ff (by simp) (Ev.bind hE ?_))
  refine Ev.tt rfl (Ev.ff (show ¬ ((b : Int) < 0) by omega) ?_)
  rw [decide_eq_false (show ¬ ((b : Int) ≥ (p : Int)) by omega)]
  refine Ev.step (fun k => by simp only [laws_FnTonesFound.j5]; rfl) (Ev.ff (by simp) ?_)
  exact law_l3 (fun _ => none) x1 s x6 x10 (powL (p : Int) s 0 p) b xs x138 i (by rw [hlen]; omega) hb hg (powL (p : Int) s 0 p).length 0 (by omega)
theorem law_l0 {x1 : List Int} (hl : Bytes x1) (s : List Int) (hs : sig s = true) : Ev (fun k => laws_FnTonesFound.l0 k x1 s (powL 4 s 0 4) (powL 6 s 0 6) [4, 6] 2 0) true := by
  have hsl := sig_len hs
  have zero : ∀ p : Nat, List.replicate p (0 : Int) = Lf (fun j => fs p j [] 0) p := by
    intro p
    apply List.ext_getElem
    · simp [Lf]
    · intro n h1 h2
      simp [Lf, fs]
  have two : Ev (fun k => laws_FnTonesFound.l0 k x1 s (powL 4 s 0 4) (powL 6 s 0 6) [4, 6] 2 2) true := by
    refine Ev.step (fun k => by simp only [laws_FnTonesFound.l0]; rfl) (Ev.ff (by decide) ?_)
    refine Ev.bind (impl_TonePower_ev s 4 (by omega)) (Ev.bind (impl_TonePower_ev s 6 (by omega)) (Ev.bind (impl_TonePower_ev s 3 (by omega)) ?_))
    have p4 : tonePower s 4 = (tonePow 0 (tnF 0 s 0 0), true) := by
      rw [tonePower, if_pos (show (backOf 4).2 = true from rfl), if_pos hs]
      rfl
    have p6 : tonePower s 6 = (tonePow 1 (tnF 1 s 0 0), true) := by
      rw [tonePower, if_pos (show (backOf 6).2 = true from rfl), if_pos hs]
      rfl
    have p3 : tonePower s 3 = (tonePow (-1) (tnF (-1) s 0 0), true) := by
      rw [tonePower, if_pos (show (backOf 3).2 = true from rfl), if_pos hs]
      rfl
    have l4 := powL_length 4 s 4 0
    have l6 := powL_length 6 s 6 0
    have q4 := pw4 hs
    have q6 := pw6 hs
    have r4 : tonePow 0 (tnF 0 s 0 0) = rd (powL 4 s 0 4) 1 := by
      rw [q4.2.1]
      exact tnF_c0 s 0 0 0 0 0 (sig_mem hs) (by omega) (by omega) (by omega) (.inr (.inr (.inr ⟨rfl, rfl, rfl⟩)))
    have r6 : tonePow 1 (tnF 1 s 0 0) = rd (powL 6 s 0 6) 1 := by
      rw [q6.2.1]
      exact tnF_c1 s 0 0 0 0 0 (sig_mem hs) (by omega) (by omega) (by omega) (.inr (.inr (.inr (.inr (.inr ⟨rfl, rfl, rfl⟩)))))
    have r3 : tonePow (-1) (tnF (-1) s 0 0) = rd (powL 6 s 0 6) 2 := by
      rw [q6.2.2.1]
      exact tnF_c3 s 0 0 0 0 0 (sig_mem hs) (by omega) (by omega) (by omega) (.inr (.inr ⟨rfl, rfl, rfl⟩))
    rw [p4, p6, p3]
    exact Ev.tt (by trivial) (Ev.tt (by omega) (Ev.tt r4 (Ev.tt (by trivial) (Ev.tt (by omega) (Ev.tt r6 (Ev.tt (by trivial) (Ev.tt (by omega) (Ev.tt r3 (law_j7 hl)))))))))
  have one : Ev (fun k => laws_FnTonesFound.l0 k x1 s (powL 4 s 0 4) (powL 6 s 0 6) [4, 6] 2 1) true := by
    refine Ev.step (fun k => by simp only [laws_FnTonesFound.l0]; rfl) (Ev.tt (by decide) (Ev.tt (by decide) (Ev.tt (by decide) (Ev.tt (by decide) (Ev.tt (by decide) (Ev.tt (by decide) ?_))))))
    have h := law_l1 x1 s (powL 4 s 0 4) (powL 6 s 0 6) (powL 6 s 0 6) 6 (.inr rfl) [4, 6] 2 1 hs (good6 hs) (law_j4 x1 s _ _ 6 (.inr rfl) [4, 6] 2 1 hs (by rw [show wrap64 (1 + 1) = 2 from by unfold wrap64; omega]; exact two)) s [] rfl
    rw [← zero 6] at h
    exact h
  refine Ev.step (fun k => by simp only [laws_FnTonesFound.l0]; rfl) (Ev.tt (by decide) (Ev.tt (by decide) (Ev.tt (by decide) (Ev.ff (by decide) (Ev.tt (by decide) (Ev.tt (by decide) ?_))))))
  have h := law_l1 x1 s (powL 4 s 0 4) (powL 6 s 0 6) (powL 4 s 0 4) 4 (.inl rfl) [4, 6] 2 0 hs (good4 hs) (law_j4 x1 s _ _ 4 (.inl rfl) [4, 6] 2 0 hs (by rw [show wrap64 (0 + 1) = 1 from by unfold wrap64; omega]; exact one)) s [] rfl
  rw [← zero 4] at h
  exact h
theorem FnTonesFound : laws_FnTonesFound.Pure := by
  intro l l2 h1 h2 h3 h4 h5 h6
  apply Ev.rounds
  simp only [laws_FnTonesFound.f]
  refine Ev.dbind (laws_big_eq l l2 (by omega) (by omega)) ?_
  by_cases big : 1048576 < l.length + l2.length
  · exact Ev.tt (by simpa using big) (Ev.now _)
  refine Ev.ff (by simpa using big) ?_
  have hl : Bytes l := bytes_of (by omega) h3
  have hl2 : Bytes l2 := bytes_of (by omega) h6
  obtain ⟨s, hd, hs⟩ := drawPowers_ok hl
  have i4 : Ev (fun m => impl_FourPowers.f m s) (powsM 4 s) := by
    simp only [impl_FourPowers.f]
    exact Ev.bind (impl_powers_ev (.inl rfl) s (by omega)) (Ev.now _)
  have i6 : Ev (fun m => impl_SixPowers.f m s) (powsM 6 s) := by
    simp only [impl_SixPowers.f]
    exact Ev.bind (impl_powers_ev (.inr rfl) s (by omega)) (Ev.now _)
  have s4 : Ev (fun m => spec_FourPowers.f m s) (powsM 4 s) := by
    simp only [spec_FourPowers.f]
    refine Ev.bind (spec_wdSignal_ev s (by omega)) ?_
    by_cases c : sig s = true
    · exact Ev.tt c (Ev.bind (spec_tnPowers_ev (.inl rfl) s (sig_len c)) (Ev.to (Ev.now _) (by rw [powsM, if_pos c])))
    · exact Ev.ff c (Ev.to (Ev.now _) (by rw [powsM, if_neg c]))
  have s6 : Ev (fun m => spec_SixPowers.f m s) (powsM 6 s) := by
    simp only [spec_SixPowers.f]
    refine Ev.bind (spec_wdSignal_ev s (by omega)) ?_
    by_cases c : sig s = true
    · exact Ev.tt c (Ev.bind (spec_tnPowers_ev (.inr rfl) s (sig_len c)) (Ev.to (Ev.now _) (by rw [powsM, if_pos c])))
    · exact Ev.ff c (Ev.to (Ev.now _) (by rw [powsM, if_neg c]))
  have b4 := powsM_len (p := 4) (.inl rfl) s
  have b6 := powsM_len (p := 6) (.inr rfl) s
  have e46 : (powsM 6 s).2 = (powsM 4 s).2 := by
    unfold powsM
    split <;> rfl
  have eS : (powsM 4 s).2 = sig s := by
    unfold powsM
    split
    · rename_i c; rw [c]
    · rename_i c; rw [Bool.eq_false_iff.mpr c]
  refine Ev.bind hd (Ev.bind i4 (Ev.bind s4 (Ev.bind i6 (Ev.bind s6 (Ev.ff (by simp) (Ev.bind (laws_uSame_ev _ (by omega)) (Ev.tt rfl (Ev.ff (by simp) (Ev.bind (laws_uSame_ev _ (by omega)) (Ev.tt rfl (Ev.ff (by rw [e46]; simp) ?_)))))))))))
  refine Ev.bind (a := sig s) (by simp only [impl_IsSignal.f]; exact Ev.bind (impl_isSignal_ev s (by omega)) (Ev.now _)) ?_
  rw [eS, bne_self_eq_false]
  refine Ev.step (fun k => by simp only [laws_FnTonesFound.j0]; rfl) (Ev.ff (by simp) ?_)
  by_cases c : sig s = true
  · have p4 : powsM 4 s = (powL 4 s 0 4, true) := by rw [powsM, if_pos c]; rfl
    have p6 : powsM 6 s = (powL 6 s 0 6, true) := by rw [powsM, if_pos c]; rfl
    rw [p4, p6]
    exact Ev.tt c (Ev.dbind rfl (law_l0 hl2 s c))
  · exact Ev.ff c (law_j7 hl2)

end Go.Proofs.YtjplcongellcmaaDoor.Pure
