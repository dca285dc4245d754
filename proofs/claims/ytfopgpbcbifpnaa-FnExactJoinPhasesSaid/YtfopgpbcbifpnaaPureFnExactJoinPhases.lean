/- The program's JoinPhases returns what the reference's returns, for all arguments. Conditions: none beyond those that the statement itself prints. -/
import Derived.Test.YtfopgpbcbifpnaaPFnExactJoinPhasesx4
namespace Go.Proofs.Ytfopgpbcbifpnaa.Pure
open Go.RowKit Go.Proofs.Ytfopgpbcbifpnaa.PFnExactJoinPhases Go.Proofs.YtfopgpbcbifpnaaW.PrintWords Go.Proofs.YtfopgpbcbifpnaaW.PrintLast Go.Proofs.YtfopgpbcbifpnaaW.PrintMore
set_option linter.unusedVariables false
set_option linter.unusedSimpArgs false

theorem w64 {n : Int} (h1 : -9223372036854775808 ≤ n) (h2 : n ≤ 9223372036854775807) : wrap64 n = n := by
  unfold wrap64
  omega
theorem Ev.to {α : Type} {g : Nat → Option α} {r r' : α} (h : Ev g r) (e : r = r') : Ev g r' := e ▸ h
theorem Ev.const {α : Type} {g : Option α} {r : α} (h : g = some r) : Ev (fun _ => g) r := ⟨0, fun _ _ => h⟩
theorem Ev.dbind {α β : Type} {g : Option α} {f : Nat → α → Option β} {a : α} {r : β} (h : g = some a) (k : Ev (fun n => f n a) r) : Ev (fun n => g.bind (f n)) r :=
  Ev.bind (g := fun _ => g) (Ev.const h) k
theorem Ev.tt {α : Type} {c : Prop} {_ : Decidable c} {g f : Nat → Option α} {r : α} (h : c) (k : Ev g r) : Ev (fun n => if c then g n else f n) r := by
  simpa only [if_pos h] using k
theorem Ev.ff {α : Type} {c : Prop} {_ : Decidable c} {g f : Nat → Option α} {r : α} (h : ¬ c) (k : Ev f r) : Ev (fun n => if c then g n else f n) r := by
  simpa only [if_neg h] using k
theorem rd_mid (p t : List Int) (x : Int) : rd (p ++ x :: t) (p.length : Int) = x := by
  simp [rd]
theorem lt_mid {α : Type} (p t : List α) (x : α) : (p.length : Int) < ((p ++ x :: t).length : Int) := by
  simp
  omega
theorem nx_mid {α : Type} (p t : List α) (x : α) (h : (p ++ x :: t).length ≤ 140737488351232) : wrap64 ((p.length : Int) + 1) = ((p ++ [x]).length : Int) := by
  simp at h ⊢
  exact w64 (by omega) (by omega)
theorem ap_mid {α : Type} (p t : List α) (x : α) : p ++ x :: t = (p ++ [x]) ++ t := by simp
theorem w64_nat (a b : Nat) (h : a + b ≤ 1000000000) : wrap64 ((a : Int) + (b : Int)) = ((a + b : Nat) : Int) := by
  rw [w64 (n := (a : Int) + (b : Int)) (by omega) (by omega)]
  omega
theorem w64_suc {α : Type} (q : List α) (x : α) (h : q.length ≤ 1000000000) : wrap64 ((q.length : Int) + 1) = ((q ++ [x]).length : Int) := by
  rw [w64 (n := (q.length : Int) + 1) (by omega) (by omega)]
  simp
theorem ar1 {a b c d : Nat} (h1 : a + 1 ≤ c) (h2 : b + 1 ≤ d) : ((a + b : Nat) : Int) < ((c + d - 1 : Nat) : Int) := by omega
theorem ar2 {a b c d : Nat} (h1 : a + 1 ≤ c) (h2 : b + 1 ≤ d) : a + b < c + d - 1 := by omega
theorem ar3 (a b : Nat) : ¬ (a ≤ a + b ∧ a + b - a < b) := by omega
theorem ar4 {v M : Int} (h : -M ≤ v ∧ v ≤ M) (hm : M ≤ 4000000000000000000) : wrap64 v = v := w64 (by omega) (by omega)
theorem ar5 {c v P M H : Int} (hc : -P ≤ c ∧ c ≤ P) (hv : -M ≤ v ∧ v ≤ M) (hp : P + M ≤ H) (hH : H ≤ 4000000000000000000) : wrap64 (c + v) = c + v := w64 (by omega) (by omega)
theorem ar6 {a b : Nat} {M : Int} (h : a + 1 ≤ b) (hM : 0 ≤ M) : (a : Int) * M + M ≤ (b : Int) * M := by
  have h1 : ((a : Int) + 1) * M ≤ (b : Int) * M := Int.mul_le_mul_of_nonneg_right (by omega) hM
  rw [Int.add_mul, Int.one_mul] at h1
  exact h1
theorem ar7 {a b c d : Nat} (h1 : a + 1 ≤ c) (h2 : b + 1 ≤ d) (h : c + d ≤ 100000000) : a + b ≤ 1000000000 := by omega
theorem ar8 {a c d : Nat} (h1 : a + 1 ≤ c) (h : c + d ≤ 100000000) : a ≤ 1000000000 := by omega
theorem tm (a b : Nat) : Int.tmod (a : Int) (b : Int) = ((a % b : Nat) : Int) := (Int.ofNat_tmod a b).symm
theorem td (a b : Nat) : Int.tdiv (a : Int) (b : Int) = ((a / b : Nat) : Int) := (Int.ofNat_tdiv a b).symm
theorem w64n {a : Nat} (h : a ≤ 1000000000) : wrap64 (a : Int) = (a : Int) := w64 (by omega) (by omega)

def backOf (n : Int) : Int × Bool := if n = 3 then (-1, true) else if n = 4 then (0, true) else if n = 6 then (1, true) else (0, false)
def tnF (c : Int) : List Int → Int → Int → Int × Int
  | [], y, z => (y, z)
  | x :: t, y, z => tnF c t (wrap64 ((wrap64 (x + (wrap64 (c * y)))) - z)) y
def sig (l : List Int) : Bool := decide (l.length ≤ 64) && l.all fun x => decide (-100000 ≤ x) && decide (x ≤ 100000)
def toneStates (l : List Int) (n : Int) : Int × Int × Bool := if (backOf n).2 = true then (if sig l = true then ((tnF (backOf n).1 l 0 0).1, (tnF (backOf n).1 l 0 0).2, true) else (0, 0, false)) else (0, 0, false)
theorem sig_len {l : List Int} (h : sig l = true) : l.length ≤ 64 := by
  simp [sig] at h
  exact h.1
theorem sig_mem {l : List Int} (h : sig l = true) : ∀ x ∈ l, -100000 ≤ x ∧ x ≤ 100000 := by
  simp [sig] at h
  exact h.2
def isBits (l : List Int) : Bool := decide (l.length ≤ 200) && l.all fun x => decide (x = 1 ∨ x = -1)
theorem isBits_len {l : List Int} (h : isBits l = true) : l.length ≤ 200 := by
  simp [isBits] at h
  exact h.1
theorem isBits_mem {l : List Int} (h : isBits l = true) : ∀ x ∈ l, x = 1 ∨ x = -1 := by
  simp [isBits] at h
  exact h.2
def toldM (l : List Int) : List Int × Bool := if sig l = true then (l, true) else ([], false)
theorem toldM_len (l : List Int) : (toldM l).1.length ≤ 64 := by
  unfold toldM
  split
  · exact sig_len ‹_›
  · simp
def bitM (x v : Int) : Int := if x ≥ v then 1 else -1
theorem bitM_cases (x v : Int) : bitM x v = 1 ∨ bitM x v = -1 := by
  unfold bitM
  split <;> simp
def tkS (st last : Int) (fixed : Bool) (bit : Int) : Int :=
  if fixed = true then st else if last = 0 then st else if bit = last then (if 2 * st ≤ 4096 then 2 * st else 4096) else (if 1 ≤ st / 2 then st / 2 else 1)
theorem tkS_bd {st last : Int} {fixed : Bool} {bit : Int} (h0 : 1 ≤ st) (h1 : st ≤ 4096) : 1 ≤ tkS st last fixed bit ∧ tkS st last fixed bit ≤ 4096 := by
  unfold tkS
  repeat' split
  all_goals omega
theorem mul_bit {st bit : Int} (hb : bit = 1 ∨ bit = -1) : st * bit = st ∨ st * bit = -st := by
  rcases hb with rfl | rfl
  · left; omega
  · right; omega
/-- bit, value and step behind each sample -/
def codeM (fixed : Bool) : List Int → Int → Int → Int → List (Int × Int × Int)
  | [], _, _, _ => []
  | x :: t, v, st, last =>
    let b := bitM x v
    let s := tkS st last fixed b
    (b, v + s * b, s) :: codeM fixed t (v + s * b) s b
theorem codeM_length (fixed : Bool) : ∀ (l : List Int) (v st last : Int), (codeM fixed l v st last).length = l.length
  | [], _, _, _ => rfl
  | x :: t, v, st, last => by simp [codeM, codeM_length fixed t]
def fixM (st : Int) : List Int → Int → List Int
  | [], _ => []
  | x :: t, v => bitM x v :: fixM st t (v + bitM x v * st)
theorem fixM_length (st : Int) : ∀ (l : List Int) (v : Int), (fixM st l v).length = l.length
  | [], _ => rfl
  | x :: t, v => by simp [fixM, fixM_length st t]
def fixedBits (l : List Int) (st : Int) : List Int × Bool := if sig l = true ∧ 1 ≤ st ∧ st ≤ 4096 then (fixM st l 0, true) else ([], false)
def decM (fixed : Bool) : List Int → Int → Int → Int → List (Int × Int)
  | [], _, _, _ => []
  | b :: t, v, st, last => (v + tkS st last fixed b * b, tkS st last fixed b) :: decM fixed t (v + tkS st last fixed b * b) (tkS st last fixed b) b
theorem decM_length (fixed : Bool) : ∀ (l : List Int) (v st last : Int), (decM fixed l v st last).length = l.length
  | [], _, _, _ => rfl
  | x :: t, v, st, last => by simp [decM, decM_length fixed t]
def gapM : List Int → List Int → List Int
  | x :: t, y :: u => (x - y) :: gapM t u
  | _, _ => []
theorem gapM_length : ∀ (l m : List Int), l.length = m.length → (gapM l m).length = l.length
  | [], m, _ => by cases m <;> simp [gapM]
  | x :: t, [], h => by simp at h
  | x :: t, y :: u, h => by
    simp at h
    simp [gapM, gapM_length t u h]
theorem codeM_val (fixed : Bool) : ∀ (l : List Int) (v st last : Int) (n : Int), 1 ≤ st → st ≤ 4096 → -4096 * n ≤ v → v ≤ 4096 * n → ∀ y ∈ (codeM fixed l v st last).map (·.2.1), -4096 * (n + l.length) ≤ y ∧ y ≤ 4096 * (n + l.length)
  | [], _, _, _, _, _, _, _, _, y, hy => by simp [codeM] at hy
  | x :: t, v, st, last, n, h0, h1, hv0, hv1, y, hy => by
    have hb := bitM_cases x v
    have hk := tkS_bd (last := last) (fixed := fixed) (bit := bitM x v) h0 h1
    have hm := mul_bit (st := tkS st last fixed (bitM x v)) hb
    simp only [codeM, List.map_cons, List.mem_cons] at hy
    rcases hy with rfl | hy
    · simp; omega
    · have := codeM_val fixed t _ _ _ (n + 1) hk.1 hk.2 (by omega) (by omega) y hy
      simp; omega
def stepOk (st : Int) : Bool := decide (1 ≤ st) && decide (st ≤ 4096)
theorem stepOk_iff {st : Int} : stepOk st = true ↔ 1 ≤ st ∧ st ≤ 4096 := by simp [stepOk]
def stepBits (l : List Int) (st : Int) : List Int × Bool := if sig l = true then (if stepOk st = true then ((codeM false l 0 st 0).map (·.1), true) else ([], false)) else ([], false)
def stepValues (l : List Int) (st : Int) : List Int × Bool := if isBits l = true then (if stepOk st = true then toldM ((decM false l 0 st 0).map (·.1)) else ([], false)) else ([], false)
def stepsOfBits (l : List Int) (st : Int) : List Int × Bool := if isBits l = true then (if stepOk st = true then toldM ((decM false l 0 st 0).map (·.2)) else ([], false)) else ([], false)
def fixedValues (l : List Int) (st : Int) : List Int × Bool := if isBits l = true then (if stepOk st = true then toldM ((decM true l 0 st 0).map (·.1)) else ([], false)) else ([], false)
def stepGaps (l : List Int) (st : Int) : List Int × Bool := if sig l = true then (if stepOk st = true then toldM (gapM l ((codeM false l 0 st 0).map (·.2.1))) else ([], false)) else ([], false)
def wts (l : List Int) : Bool := decide (1 ≤ l.length) && decide (l.length ≤ 9) && l.all fun x => decide (-1000 ≤ x) && decide (x ≤ 1000)
theorem wts_len {l : List Int} (h : wts l = true) : 1 ≤ l.length ∧ l.length ≤ 9 := by
  simp [wts] at h
  exact ⟨h.1.1, h.1.2⟩
theorem wts_mem {l : List Int} (h : wts l = true) : ∀ x ∈ l, -1000 ≤ x ∧ x ≤ 1000 := by
  simp [wts] at h
  exact h.2
def ratio (p q : Int) : Bool := (decide (1 ≤ p) && decide (p ≤ 8)) && (decide (1 ≤ q) && decide (q ≤ 8))
theorem ratio_iff {p q : Int} : ratio p q = true ↔ (1 ≤ p ∧ p ≤ 8) ∧ (1 ≤ q ∧ q ≤ 8) := by simp [ratio]
def rsOk (h l : List Int) (p q : Int) : Bool := wts h && ((sig l && ratio p q) && decide ((l.length : Int) * p ≤ 64))
def peakM : List Int → Nat → Nat
  | [], m => m
  | x :: t, m => peakM t (max m x.natAbs)

def cv : List Int → List Int → Nat → Int
  | [], _, _ => 0
  | w :: _, s, 0 => w * s.getD 0 0
  | w :: h, s, n + 1 => w * s.getD (n + 1) 0 + cv h s n
def Lf (f : Nat → Int) (N : Nat) : List Int := (List.range N).map f
theorem Lf_length (f : Nat → Int) (N : Nat) : (Lf f N).length = N := by simp [Lf]
theorem rd_Lf (f : Nat → Int) (N i : Nat) (h : i < N) : rd (Lf f N) (i : Int) = f i := by
  simp [rd, Lf, h]
theorem set_Lf (f : Nat → Int) (N i : Nat) (v : Int) : (Lf f N).set i v = Lf (fun n => if n = i then v else f n) N := by
  apply List.ext_getElem
  · simp [Lf]
  · intro n h1 h2
    simp [Lf, List.getElem_set]
    by_cases c : i = n
    · simp [c]
    · rw [if_neg c, if_neg (fun h => c h.symm)]
theorem Lf_congr {f g : Nat → Int} {N : Nat} (h : ∀ n, n < N → f n = g n) : Lf f N = Lf g N := by
  apply List.ext_getElem
  · simp [Lf]
  · intro n h1 h2
    simp [Lf] at h1 ⊢
    exact h n h1
theorem cv_snoc (s : List Int) (w : Int) : ∀ (p : List Int) (n : Nat), cv (p ++ [w]) s n = cv p s n + (if p.length ≤ n then w * s.getD (n - p.length) 0 else 0)
  | [], 0 => by simp [cv]
  | [], n + 1 => by simp [cv]
  | a :: p, 0 => by simp [cv]
  | a :: p, n + 1 => by
    simp only [List.cons_append, cv, cv_snoc s w p n, List.length_cons, Nat.add_le_add_iff_right, Nat.add_sub_add_right]
    omega
theorem getD_bd {s : List Int} {a M : Int} (hM : 0 ≤ M) (h : ∀ x ∈ s, -M ≤ a * x ∧ a * x ≤ M) (n : Nat) : -M ≤ a * s.getD n 0 ∧ a * s.getD n 0 ≤ M := by
  rw [List.getD_eq_getElem?_getD]
  by_cases c : n < s.length
  · rw [List.getElem?_eq_getElem c]
    exact h _ (List.getElem_mem c)
  · rw [List.getElem?_eq_none (by omega)]
    simp
    omega
theorem cv_bd {s : List Int} {M : Int} (hM : 0 ≤ M) : ∀ (h : List Int) (n : Nat), (∀ a ∈ h, ∀ x ∈ s, -M ≤ a * x ∧ a * x ≤ M) → -(h.length * M) ≤ cv h s n ∧ cv h s n ≤ h.length * M
  | [], n, hb => by simp [cv]
  | a :: h, 0, hb => by
    have h1 := getD_bd hM (hb a (by simp)) 0
    have h2 : 0 ≤ (h.length : Int) * M := Int.mul_nonneg (by omega) hM
    simp only [cv, List.length_cons, Int.natCast_add, Int.add_mul]
    omega
  | a :: h, n + 1, hb => by
    have h1 := getD_bd hM (hb a (by simp)) (n + 1)
    have h2 := cv_bd hM h n (fun b hbm => hb b (by simp [hbm]))
    simp only [cv, List.length_cons, Int.natCast_add, Int.add_mul]
    omega
def conv (h s : List Int) : List Int := if s = [] then [] else Lf (cv h s) (h.length + s.length - 1)
theorem conv_length (h s : List Int) (hs : s ≠ []) : (conv h s).length = h.length + s.length - 1 := by
  rw [conv, if_neg hs, Lf_length]
/-- what stands in the list when the weights p are done, and of the weight w the samples q -/
def cvi (p q s : List Int) (w : Int) (n : Nat) : Int := cv p s n + (if p.length ≤ n ∧ n - p.length < q.length then w * s.getD (n - p.length) 0 else 0)
theorem cvi_nil (p s : List Int) (w : Int) : cvi p [] s w = cv p s := by
  funext n
  simp [cvi]
theorem cvi_all (p s : List Int) (w : Int) (n : Nat) : cvi p s s w n = cv (p ++ [w]) s n := by
  rw [cv_snoc, cvi]
  by_cases c : p.length ≤ n
  · by_cases d : n - p.length < s.length
    · rw [if_pos ⟨c, d⟩, if_pos c]
    · rw [if_neg (fun h => d h.2), if_pos c, List.getD_eq_getElem?_getD, List.getElem?_eq_none (by omega)]
      simp
  · rw [if_neg (fun h => c h.1), if_neg c]
theorem getD_mid (q t : List Int) (x : Int) : (q ++ x :: t).getD q.length 0 = x := by simp
theorem cvi_step (p q t : List Int) (w x : Int) (n : Nat) : (if n = p.length + q.length then cvi p q (q ++ x :: t) w n + w * x else cvi p q (q ++ x :: t) w n) = cvi p (q ++ [x]) (q ++ x :: t) w n := by
  unfold cvi
  by_cases c : n = p.length + q.length
  · subst c
    have e : p.length + q.length - p.length = q.length := by omega
    rw [if_pos rfl, e, getD_mid, if_neg (by omega), if_pos ⟨by omega, by simp⟩]
    omega
  · rw [if_neg c]
    by_cases d : p.length ≤ n ∧ n - p.length < q.length
    · rw [if_pos d, if_pos ⟨d.1, by simp; omega⟩]
    · rw [if_neg d, if_neg (fun h => d ⟨h.1, by have := h.2; simp at this; omega⟩)]
theorem Lf_succ (f : Nat → Int) (n : Nat) : Lf f (n + 1) = Lf f n ++ [f n] := by simp [Lf, List.range_succ]
def dropN (len rate first : Nat) : Nat := (len - first + rate - 1) / rate
theorem dropN_lt {len rate first j : Nat} (hr : 1 ≤ rate) : j < dropN len rate first ↔ first + j * rate < len := by
  unfold dropN
  rw [Nat.lt_iff_add_one_le, Nat.le_div_iff_mul_le (by omega), Nat.add_mul]
  omega
def dropM (l : List Int) (rate first : Nat) : List Int := Lf (fun j => l.getD (first + j * rate) 0) (dropN l.length rate first)
theorem dropM_length (l : List Int) (rate first : Nat) : (dropM l rate first).length = dropN l.length rate first := Lf_length _ _
theorem dropN_le {len rate first : Nat} (hr : 1 ≤ rate) : dropN len rate first ≤ len := by
  apply Nat.le_of_not_lt
  intro h
  have := (dropN_lt hr).1 h
  have h2 : len * 1 ≤ len * rate := Nat.mul_le_mul_left len hr
  omega
def stuffM (p : Nat) : List Int → List Int
  | [] => []
  | x :: t => (x :: List.replicate (p - 1) 0) ++ stuffM p t
theorem stuffM_length (p : Nat) (hp : 1 ≤ p) : ∀ l : List Int, (stuffM p l).length = l.length * p
  | [] => by simp [stuffM]
  | x :: t => by
    simp only [stuffM, List.length_append, List.length_cons, List.length_replicate, stuffM_length p hp t, Nat.add_mul]
    omega
theorem stuffM_snoc (p : Nat) (x : Int) : ∀ l : List Int, stuffM p (l ++ [x]) = stuffM p l ++ (x :: List.replicate (p - 1) 0)
  | [] => by simp [stuffM]
  | y :: t => by simp [stuffM, stuffM_snoc p x t]
theorem rd_getD (l : List Int) (i : Nat) : rd l (i : Int) = l.getD i 0 := by simp [rd]
theorem stuffM_sig (p : Nat) : ∀ l : List Int, (∀ x ∈ l, -100000 ≤ x ∧ x ≤ 100000) → ∀ x ∈ stuffM p l, -100000 ≤ x ∧ x ≤ 100000
  | [], _, x, h => by simp [stuffM] at h
  | y :: t, hl, x, h => by
    simp only [stuffM, List.mem_append, List.mem_cons, List.mem_replicate] at h
    rcases h with (rfl | ⟨_, rfl⟩) | h
    · exact hl _ (by simp)
    · omega
    · exact stuffM_sig p t (fun z hz => hl z (by simp [hz])) x h
theorem sig_iff {l : List Int} : sig l = true ↔ l.length ≤ 64 ∧ ∀ x ∈ l, -100000 ≤ x ∧ x ≤ 100000 := by simp [sig]
theorem ediv_bd {x b : Int} (hb : 0 < b) (hx : -4611686018427387904 ≤ x ∧ x ≤ 4611686018427387904) : -4611686018427387905 ≤ x / b ∧ x / b ≤ 4611686018427387905 := by
  have h0 := Int.emod_nonneg x (show b ≠ 0 by omega)
  have h1 := Int.emod_lt_of_pos x hb
  have h2 := Int.emod_add_mul_ediv x b
  constructor
  · apply Int.not_lt.1
    intro h
    have : b * (x / b) ≤ 1 * (x / b) := Int.mul_le_mul_of_nonpos_right (by omega) (by omega)
    have h3 : b * (x / b) ≤ b * (-4611686018427387906) := Int.mul_le_mul_of_nonneg_left (by omega) (by omega)
    omega
  · apply Int.not_lt.1
    intro h
    have h3 : 1 * (x / b) ≤ b * (x / b) := Int.mul_le_mul_of_nonneg_right (by omega) (by omega)
    omega
def atM (s : List Int) (i : Int) : Int := if 0 ≤ i then s.getD i.toNat 0 else 0
theorem getD_all {l : List Int} {M : Int} (hM : 0 ≤ M) (h : ∀ x ∈ l, -M ≤ x ∧ x ≤ M) (n : Nat) : -M ≤ l.getD n 0 ∧ l.getD n 0 ≤ M := by
  rw [List.getD_eq_getElem?_getD]
  by_cases c : n < l.length
  · rw [List.getElem?_eq_getElem c]
    exact h _ (List.getElem_mem c)
  · rw [List.getElem?_eq_none (by omega)]
    simp
    omega

theorem laws_toIntS_l0 (l : List Int) (hl : l.length ≤ 140737488351232) : ∀ (t p : List Int), l = p ++ t → Ev (fun k => laws_toIntS.l0 k l (p ++ List.replicate t.length 0) (p.length : Int)) l
  | [], p, h => by
    apply Ev.step (f := fun _ => some l)
    · intro k
      subst h
      simp [laws_toIntS.l0]
    · exact Ev.now _
  | x :: t, p, h => by
    have e1 : (p.length : Int) < (l.length : Int) := by rw [h]; exact lt_mid p t x
    have e2 : rd l (p.length : Int) = x := by rw [h]; exact rd_mid p t x
    have e3 : wrap64 ((p.length : Int) + 1) = ((p ++ [x]).length : Int) := nx_mid p t x (h ▸ hl)
    have e4 : (p.length : Int) < ((p ++ List.replicate (x :: t).length 0 : List Int).length : Int) := by simp; omega
    have e5 : (p ++ List.replicate (x :: t).length 0 : List Int).set (p.length : Int).toNat x = (p ++ [x]) ++ List.replicate t.length 0 := by
      simp [List.replicate_succ]
    refine Ev.step (fun k => ?_) (laws_toIntS_l0 l hl t (p ++ [x]) (by simp [h]))
    simp only [laws_toIntS.l0, if_pos e1, if_pos (Int.natCast_nonneg _), if_pos e4, e2, e3, e5]
theorem laws_toIntS_ev (l : List Int) (hl : l.length ≤ 17592186044416) : Ev (fun k => laws_toIntS.f k l) l := by
  have h := laws_toIntS_l0 l (by omega) l [] rfl
  simp only [laws_toIntS.f]
  refine Ev.tt (Int.natCast_nonneg _) (Ev.tt ?_ ?_)
  · simp; omega
  · simpa using h

theorem laws_eqIntS_l0 (l m : List Int) (hl : l.length ≤ 140737488351232) : ∀ (t p u q : List Int), l = p ++ t → m = q ++ u → p.length = q.length → t.length = u.length → Ev (fun k => laws_eqIntS.l0 k l m (p.length : Int)) (t == u)
  | [], p, [], q, h, h', e, _ => by
    apply Ev.step (f := fun _ => some _)
    · intro k
      subst h
      simp [laws_eqIntS.l0]; rfl
    · exact Ev.now _
  | x :: t, p, y :: u, q, h, h', e, e' => by
    have e1 : (p.length : Int) < (l.length : Int) := by rw [h]; exact lt_mid p t x
    have e2 : rd l (p.length : Int) = x := by rw [h]; exact rd_mid p t x
    have e3 : wrap64 ((p.length : Int) + 1) = ((p ++ [x]).length : Int) := nx_mid p t x (h ▸ hl)
    have e4 : (p.length : Int) < (m.length : Int) := by rw [h', e]; exact lt_mid q u y
    have e5 : rd m (p.length : Int) = y := by rw [h', e]; exact rd_mid q u y
    by_cases c : x = y
    · refine Ev.to (Ev.step (fun k => ?_) (laws_eqIntS_l0 l m hl t (p ++ [x]) u (q ++ [y]) (by simp [h]) (by simp [h']) (by simp [e]) (by simpa using e'))) (by simp [c])
      simp only [laws_eqIntS.l0, if_pos e1, if_pos (Int.natCast_nonneg _), if_pos e4, e2, e3, e5, if_pos c]
    · refine Ev.to (Ev.step (fun k => ?_) (Ev.now false)) (by simp [c])
      simp only [laws_eqIntS.l0, if_pos e1, if_pos (Int.natCast_nonneg _), if_pos e4, e2, e3, e5, if_neg c]
theorem laws_eqIntS_ev (l m : List Int) (hl : l.length ≤ 140737488351232) : Ev (fun k => laws_eqIntS.f k l m) (l == m) := by
  simp only [laws_eqIntS.f]
  by_cases c : (l.length : Int) = (m.length : Int)
  · exact Ev.tt c (laws_eqIntS_l0 l m hl l [] m [] rfl rfl rfl (by omega))
  · refine Ev.ff c (Ev.to (Ev.now false) ?_)
    have : l ≠ m := fun h => c (by rw [h])
    simp [this]
theorem laws_eqIntS_self (l : List Int) (hl : l.length ≤ 140737488351232) : Ev (fun k => laws_eqIntS.f k l l) true := Ev.to (laws_eqIntS_ev l l hl) (by simp)

def marks : Nat → Int → List Int
  | 0, _ => []
  | n + 1, m => m :: marks n (m + 1)
theorem marks_length : ∀ (n : Nat) (m : Int), (marks n m).length = n
  | 0, _ => rfl
  | n + 1, m => by simp [marks, marks_length n]
theorem laws_markIntS_l0 : ∀ (t p : List Int) (m : Int), p.length + t.length ≤ 140737488351232 → 0 ≤ m → m + t.length ≤ 1000000000000000000 → Ev (fun k => laws_markIntS.l0 k (p ++ t) m (p.length : Int)) (m + t.length, p ++ marks t.length m)
  | [], p, m, h, h0, h1 => Ev.to (Ev.step (f := fun _ => some (m, p)) (fun k => by simp [laws_markIntS.l0]) (Ev.now _)) (by simp [marks])
  | x :: t, p, m, h, h0, h1 => by
    have e1 : (p.length : Int) < ((p ++ x :: t).length : Int) := lt_mid p t x
    simp only [List.length_cons] at h h1
    have e3 : wrap64 ((p.length : Int) + 1) = ((p ++ [m]).length : Int) := by
      simp
      exact w64 (by omega) (by omega)
    have e5 : (p ++ x :: t).set (p.length : Int).toNat m = (p ++ [m]) ++ t := by simp
    have e6 : wrap64 (m + 1) = m + 1 := w64 (by omega) (by omega)
    refine Ev.to (Ev.step (fun k => ?_) (laws_markIntS_l0 t (p ++ [m]) (m + 1) (by simp; omega) (by omega) (by omega))) ?_
    · simp only [laws_markIntS.l0, if_pos e1, if_pos (Int.natCast_nonneg _), e3, e5, e6]
    · simp [marks]; omega
theorem laws_markIntS_ev (l : List Int) (m : Int) (h : l.length ≤ 140737488351232) (h0 : 0 ≤ m) (h1 : m ≤ 100000000000000000) : Ev (fun k => laws_markIntS.f k l m) (m + l.length, marks l.length m) := by
  have h := laws_markIntS_l0 l [] m (by simpa using h) h0 (by omega)
  simpa [laws_markIntS.f] using h

theorem laws_heldIntS_l0 : ∀ (n : Nat) (l p : List Int) (m : Int), l = p ++ marks n m → l.length ≤ 140737488351232 → 0 ≤ m → m + n ≤ 1000000000000000000 → Ev (fun k => laws_heldIntS.l0 k l m (p.length : Int)) (m + n)
  | 0, l, p, m, h, hl, h0, h1 => Ev.to (Ev.step (f := fun _ => some m) (fun k => by subst h; simp [laws_heldIntS.l0, marks]) (Ev.now _)) (by simp)
  | n + 1, l, p, m, h, hl, h0, h1 => by
    simp only [marks] at h
    have e1 : (p.length : Int) < (l.length : Int) := by rw [h]; exact lt_mid p _ _
    have e2 : rd l (p.length : Int) = m := by rw [h]; exact rd_mid p _ _
    have e3 : wrap64 ((p.length : Int) + 1) = ((p ++ [m]).length : Int) := nx_mid p _ m (h ▸ hl)
    have e6 : wrap64 (m + 1) = m + 1 := w64 (by omega) (by omega)
    refine Ev.to (Ev.step (fun k => ?_) (laws_heldIntS_l0 n l (p ++ [m]) (m + 1) (by simp [h]) hl (by omega) (by omega))) (by omega)
    simp only [laws_heldIntS.l0, if_pos e1, if_pos (Int.natCast_nonneg _), e2, if_true, e3, e6]
theorem laws_heldIntS_ev (n : Nat) (h : n ≤ 140737488351232) : Ev (fun k => laws_heldIntS.f k (marks n 1) 1) (1 + n) := by
  have h := laws_heldIntS_l0 n (marks n 1) [] 1 rfl (by simpa [marks_length] using h) (by omega) (by omega)
  simpa [laws_heldIntS.f] using h

theorem spec_l1In_eq (a b c : Int) : spec_l1In.f a b c = some (decide (b ≤ a) && decide (a ≤ c)) := by
  unfold spec_l1In.f
  by_cases h : b ≤ a <;> simp [h]

theorem impl_in_eq (a b c : Int) : impl_in.f a b c = some (decide (b ≤ a) && decide (a ≤ c)) := by
  unfold impl_in.f
  by_cases h : b ≤ a <;> simp [h]

theorem spec_l1All_l0 (lo hi : Int) (l : List Int) (hl : l.length ≤ 140737488351232) : ∀ (t p : List Int), l = p ++ t → Ev (fun k => spec_l1All.l0 k lo hi l (l.length : Int) (p.length : Int)) (t.all fun x => decide (lo ≤ x) && decide (x ≤ hi))
  | [], p, h => by
    apply Ev.step (f := fun _ => some _)
    · intro k
      subst h
      simp [spec_l1All.l0]; rfl
    · exact Ev.now _
  | x :: t, p, h => by
    have e1 : (p.length : Int) < (l.length : Int) := by rw [h]; exact lt_mid p t x
    have e2 : rd l (p.length : Int) = x := by rw [h]; exact rd_mid p t x
    have e3 : wrap64 ((p.length : Int) + 1) = ((p ++ [x]).length : Int) := nx_mid p t x (h ▸ hl)
    by_cases c : (decide (lo ≤ x) && decide (x ≤ hi)) = true
    · refine Ev.to (Ev.step (fun k => ?_) (spec_l1All_l0 lo hi l hl t (p ++ [x]) (by simp [h]))) (by rw [List.all_cons, c, Bool.true_and])
      simp only [spec_l1All.l0, if_pos e1, if_pos (Int.natCast_nonneg _), e2, e3, spec_l1In_eq, Option.bind_some, if_pos c]
    · refine Ev.to (Ev.step (fun k => ?_) (Ev.now false)) (by rw [List.all_cons, Bool.eq_false_iff.mpr c, Bool.false_and])
      simp only [spec_l1All.l0, if_pos e1, if_pos (Int.natCast_nonneg _), e2, e3, spec_l1In_eq, Option.bind_some, if_neg c]
theorem spec_l1All_ev (l : List Int) (lo hi : Int) (hl : l.length ≤ 140737488351232) : Ev (fun k => spec_l1All.f k l lo hi) (l.all fun x => decide (lo ≤ x) && decide (x ≤ hi)) := by
  simpa [spec_l1All.f] using spec_l1All_l0 lo hi l hl l [] rfl

theorem spec_weGood_ev (l : List Int) (hl : l.length ≤ 140737488351232) : Ev (fun k => spec_weGood.f k l) (wts l) := by
  simp only [spec_weGood.f]
  refine Ev.dbind (spec_l1In_eq _ 1 9) ?_
  by_cases c : (decide (1 ≤ (l.length : Int)) && decide ((l.length : Int) ≤ 9)) = true
  · refine Ev.tt c (Ev.bind (spec_l1All_ev l (-1000) 1000 hl) (Ev.to (Ev.now _) ?_))
    simp at c
    simp [wts]; omega
  · refine Ev.ff c (Ev.to (Ev.now _) ?_)
    simp at c
    simp [wts]; omega

theorem impl_isWeights_c1_eq (x : Int) : impl_isWeights_c1.f x = some (!(decide (-1000 ≤ x) && decide (x ≤ 1000))) := by
  unfold impl_isWeights_c1.f
  rw [impl_in_eq]
  rfl
theorem indexWeights_l0 (l : List Int) (hl : l.length ≤ 140737488351232) : ∀ (t p : List Int), l = p ++ t → ∃ r, Ev (fun k => slices_IndexFunc_int_int_impl_isWeights_c1.l0 k l (l.length : Int) (p.length : Int)) r ∧ (decide (r ≥ 0) = !(t.all fun x => decide (-1000 ≤ x) && decide (x ≤ 1000)))
  | [], p, h => by
    refine ⟨-1, Ev.step (f := fun _ => some (-1)) ?_ (Ev.now _), by simp⟩
    intro k
    subst h
    simp [slices_IndexFunc_int_int_impl_isWeights_c1.l0]
  | x :: t, p, h => by
    have e1 : (p.length : Int) < (l.length : Int) := by rw [h]; exact lt_mid p t x
    have e2 : rd l (p.length : Int) = x := by rw [h]; exact rd_mid p t x
    have e3 : wrap64 ((p.length : Int) + 1) = ((p ++ [x]).length : Int) := nx_mid p t x (h ▸ hl)
    by_cases c : (decide (-1000 ≤ x) && decide (x ≤ 1000)) = true
    · obtain ⟨r, h1, h2⟩ := indexWeights_l0 l hl t (p ++ [x]) (by simp [h])
      refine ⟨r, Ev.step (fun k => ?_) h1, by rw [h2, List.all_cons, c, Bool.true_and]⟩
      simp only [slices_IndexFunc_int_int_impl_isWeights_c1.l0, if_pos e1, if_pos (Int.natCast_nonneg _), e2, e3, impl_isWeights_c1_eq, c, Option.bind_some, Bool.not_true]
      rfl
    · have c := Bool.eq_false_iff.mpr c
      refine ⟨(p.length : Int), Ev.step (fun k => ?_) (Ev.now _), by rw [List.all_cons, c]; simp⟩
      simp only [slices_IndexFunc_int_int_impl_isWeights_c1.l0, if_pos e1, if_pos (Int.natCast_nonneg _), e2, e3, impl_isWeights_c1_eq, c, Option.bind_some, Bool.not_false]
      rfl
theorem impl_isWeights_ev (l : List Int) (hl : l.length ≤ 140737488351232) : Ev (fun k => impl_isWeights.f k l) (wts l) := by
  simp only [impl_isWeights.f]
  refine Ev.dbind (impl_in_eq _ 1 9) ?_
  by_cases c : (decide (1 ≤ (l.length : Int)) && decide ((l.length : Int) ≤ 9)) = true
  · obtain ⟨r, h1, h2⟩ := indexWeights_l0 l hl l [] rfl
    refine Ev.tt c (Ev.bind (a := decide (r ≥ 0)) ?_ (Ev.to (Ev.now _) ?_))
    · simp only [slices_ContainsFunc_int_int_impl_isWeights_c1.f, slices_IndexFunc_int_int_impl_isWeights_c1.f]
      exact Ev.bind h1 (Ev.now _)
    · rw [h2]
      simp at c
      simp [wts]; omega
  · refine Ev.ff c (Ev.to (Ev.now _) ?_)
    simp at c
    simp [wts]; omega

/-- A number shifted: down, to the nearest one, towards 0. -/
def shM (x b mode : Int) : Int := if mode = 1 ∧ b ≤ 2 * (x % b) ∧ 0 < x % b then x / b + 1 else if mode = 2 ∧ x < 0 ∧ 0 < x % b then x / b + 1 else x / b
theorem div_uniq {x b q r : Int} (h : x = q * b + r) (h0 : 0 ≤ r) (h1 : r < b) : x / b = q := by
  have hb : 0 < b := by omega
  exact ((Int.ediv_emod_unique hb).2 ⟨by rw [h, Int.mul_comm]; omega, h0, h1⟩).1
theorem pow2_pos (s : Nat) : (0 : Int) < 2 ^ s := Int.pow_pos (by decide)
theorem pow2_le {s : Nat} (h : s ≤ 20) : (2 : Int) ^ s ≤ 1048576 := by
  have h1 : (2 : Nat) ^ s ≤ 2 ^ 20 := Nat.pow_le_pow_right (by decide) h
  have h3 : (2 : Int) ^ s = (((2 : Nat) ^ s : Nat) : Int) := by simp
  rw [h3]
  have h2 : (2 : Nat) ^ 20 = 1048576 := by decide
  omega
theorem shl_one {s : Nat} (h : s ≤ 20) : shl .i64 1 (s : Int) = 2 ^ s := by
  unfold shl
  have h1 : min ((s : Int)).toNat IntKind.i64.bits = s := by
    simp [IntKind.bits]; omega
  rw [h1, Int.one_mul, IntKind.wrap_i64]
  have := pow2_pos s
  have := pow2_le h
  omega
theorem shl_mul {s : Nat} (h : s ≤ 20) (y : Int) (h1 : -9223372036854775808 ≤ y * 2 ^ s) (h2 : y * 2 ^ s ≤ 9223372036854775807) : shl .i64 y (s : Int) = y * 2 ^ s := by
  unfold shl
  have e : min ((s : Int)).toNat IntKind.i64.bits = s := by
    simp [IntKind.bits]; omega
  rw [e, IntKind.wrap_i64]
  omega
theorem shr_div {s : Nat} (h : s ≤ 20) (y : Int) : shr .i64 y (s : Int) = y / 2 ^ s := by
  unfold shr
  have e : min ((s : Int)).toNat IntKind.i64.bits = s := by
    simp [IntKind.bits]; omega
  rw [e]
theorem mod_eq (x b : Int) : x = (x / b) * b + x % b := by
  have := Int.emod_add_mul_ediv x b
  rw [Int.mul_comm] at this
  omega

def numOk (x : Int) : Bool := decide (-1000000000000 ≤ x) && decide (x ≤ 1000000000000)
def modeOk (s mode : Int) : Bool := (decide (0 ≤ s) && decide (s ≤ 20)) && (decide (0 ≤ mode) && decide (mode ≤ 2))
theorem numOk_iff {x : Int} : numOk x = true ↔ -1000000000000 ≤ x ∧ x ≤ 1000000000000 := by simp [numOk]
theorem modeOk_iff {s m : Int} : modeOk s m = true ↔ (0 ≤ s ∧ s ≤ 20) ∧ (0 ≤ m ∧ m ≤ 2) := by simp [modeOk]

theorem rdI_midq (p t : List (List Int)) (x : List Int) : rd_L1 (p ++ x :: t) (p.length : Int) = x := by simp [rd_L1]
theorem laws_eqIntSS_l0 (l : List (List Int)) (hl : l.length ≤ 100000000) (hx : ∀ x ∈ l, x.length ≤ 100000000) : ∀ (t p : List (List Int)), l = p ++ t → Ev (fun k => laws_eqIntSS.l0 k l l (p.length : Int)) true
  | [], p, h => by
    apply Ev.step (f := fun _ => some true)
    · intro k
      subst h
      simp [laws_eqIntSS.l0]
    · exact Ev.now _
  | x :: t, p, h => by
    have e1 : (p.length : Int) < (l.length : Int) := by rw [h]; exact lt_mid p t x
    have e2 : rd_L1 l (p.length : Int) = x := by rw [h]; exact rdI_midq p t x
    have e3 : wrap64 ((p.length : Int) + 1) = ((p ++ [x]).length : Int) := nx_mid p t x (by rw [← h]; omega)
    have hxx := hx x (by rw [h]; simp)
    refine Ev.step (fun k => by simp only [laws_eqIntSS.l0]; rfl) ?_
    rw [e2, e3]
    exact Ev.tt e1 (Ev.tt (Int.natCast_nonneg _) (Ev.tt e1 (Ev.bind (laws_eqIntS_self x (by omega)) (Ev.tt rfl (laws_eqIntSS_l0 l hl hx t (p ++ [x]) (by simp [h]))))))
theorem laws_eqIntSS_self (l : List (List Int)) (hl : l.length ≤ 100000000) (hx : ∀ x ∈ l, x.length ≤ 100000000) : Ev (fun k => laws_eqIntSS.f k l l) true := by
  simp only [laws_eqIntSS.f]
  exact Ev.tt (by trivial) (laws_eqIntSS_l0 l hl hx l [] rfl)

def marksS : List (List Int) → Int → List (List Int)
  | [], _ => []
  | x :: t, m => marks x.length m :: marksS t (m + (x.length : Int))
def totL : List (List Int) → Nat
  | [] => 0
  | x :: t => x.length + totL t
theorem marksS_length : ∀ (l : List (List Int)) (m : Int), (marksS l m).length = l.length
  | [], _ => rfl
  | x :: t, m => by simp [marksS, marksS_length t]
theorem totL_le : ∀ (l : List (List Int)), (∀ x ∈ l, x.length ≤ 100000000) → totL l ≤ 100000000 * l.length
  | [], _ => by simp [totL]
  | x :: t, h => by
    have h1 := totL_le t (fun y hy => h y (by simp [hy]))
    have h2 := h x (by simp)
    simp only [totL, List.length_cons]
    omega
theorem laws_markIntSS_l0 : ∀ (t p : List (List Int)) (m : Int), p.length + t.length ≤ 100000000 → (∀ x ∈ t, x.length ≤ 100000000) → 0 ≤ m → m + (totL t : Int) ≤ 100000000000000000 →
    Ev (fun k => laws_markIntSS.l0 k (p ++ t) m (p.length : Int)) (m + (totL t : Int), p ++ marksS t m)
  | [], p, m, h, hx, h0, h1 => Ev.to (Ev.step (f := fun _ => some (m, p)) (fun k => by simp [laws_markIntSS.l0]) (Ev.now _)) (by simp [marksS, totL])
  | x :: t, p, m, h, hx, h0, h1 => by
    have e1 : (p.length : Int) < ((p ++ x :: t).length : Int) := lt_mid p t x
    have e2 : rd_L1 (p ++ x :: t) (p.length : Int) = x := by simp [rd_L1]
    simp only [List.length_cons] at h
    simp only [totL] at h1
    have hxx := hx x (by simp)
    have e3 : wrap64 ((p.length : Int) + 1) = ((p ++ [marks x.length m]).length : Int) := by
      rw [w64 (n := (p.length : Int) + 1) (by omega) (by omega)]
      simp
    have e5 : (p ++ x :: t).set (p.length : Int).toNat (marks x.length m) = (p ++ [marks x.length m]) ++ t := by simp
    have ih := laws_markIntSS_l0 t (p ++ [marks x.length m]) (m + (x.length : Int)) (by simp; omega) (fun y hy => hx y (by simp [hy])) (by omega) (by omega)
    refine Ev.to (Ev.step (fun k => by simp only [laws_markIntSS.l0]; rfl) ?_) (show (m + (x.length : Int) + (totL t : Int), (p ++ [marks x.length m]) ++ marksS t (m + (x.length : Int))) = _ by simp [marksS, totL]; omega)
    rw [e2, e3]
    refine Ev.tt e1 (Ev.tt (Int.natCast_nonneg _) (Ev.bind (laws_markIntS_ev x m (by omega) h0 (by omega)) ?_))
    rw [e5]
    exact ih
theorem laws_markIntSS_ev (l : List (List Int)) (hl : l.length ≤ 100000000) (hx : ∀ x ∈ l, x.length ≤ 100000000) (m : Int) (h0 : 0 ≤ m) (h1 : m ≤ 10000000000000000) : Ev (fun k => laws_markIntSS.f k l m) (m + (totL l : Int), marksS l m) := by
  have ht := totL_le l hx
  have h2 : (totL l : Int) ≤ 10000000000000000 := by omega
  have h := laws_markIntSS_l0 l [] m (by simpa using hl) hx h0 (by omega)
  simpa [laws_markIntSS.f] using h

theorem sum_ge (Q r : Nat) : ∀ (a : List Nat) (j : Nat), (∀ k, (h : k < a.length) → Q + (if j + k < r then 1 else 0) ≤ a[k]) → a.length * Q + min (r - j) a.length ≤ a.sum
  | [], j, h => by simp
  | x :: t, j, h => by
    have h0 := h 0 (by simp)
    have ih := sum_ge Q r t (j + 1) (fun k hk => by
      have := h (k + 1) (by simp; omega)
      simp only [List.getElem_cons_succ] at this
      rw [show j + 1 + k = j + (k + 1) by omega]
      exact this)
    simp only [List.getElem_cons_zero, Nat.add_zero] at h0
    simp only [List.length_cons, List.sum_cons, Nat.succ_mul]
    generalize t.length * Q = z at *
    split at h0 <;> omega
theorem sum_le (q m : Nat) : ∀ (a : List Nat) (j : Nat), (∀ k, (h : k < a.length) → a[k] ≤ q + (if j + k < m then 1 else 0)) → a.sum ≤ a.length * q + min (m - j) a.length
  | [], j, h => by simp
  | x :: t, j, h => by
    have h0 := h 0 (by simp)
    have ih := sum_le q m t (j + 1) (fun k hk => by
      have := h (k + 1) (by simp; omega)
      simp only [List.getElem_cons_succ] at this
      rw [show j + 1 + k = j + (k + 1) by omega]
      exact this)
    simp only [List.getElem_cons_zero, Nat.add_zero] at h0
    simp only [List.length_cons, List.sum_cons, Nat.succ_mul]
    generalize t.length * q = z at *
    split at h0 <;> omega
theorem sum_eq (Q r : Nat) : ∀ (a : List Nat) (j : Nat), (∀ k, (h : k < a.length) → Q + (if j + k < r then 1 else 0) ≤ a[k]) → a.sum ≤ a.length * Q + min (r - j) a.length → ∀ k, (h : k < a.length) → a[k] = Q + (if j + k < r then 1 else 0)
  | [], j, h, hs, k, hk => by simp at hk
  | x :: t, j, h, hs, k, hk => by
    have h0 := h 0 (by simp)
    have hT : ∀ k, (h : k < t.length) → Q + (if j + 1 + k < r then 1 else 0) ≤ t[k] := fun k hk => by
      have := h (k + 1) (by simp; omega)
      simp only [List.getElem_cons_succ] at this
      rw [show j + 1 + k = j + (k + 1) by omega]
      exact this
    have ge := sum_ge Q r t (j + 1) hT
    simp only [List.getElem_cons_zero, Nat.add_zero] at h0
    simp only [List.length_cons, List.sum_cons, Nat.succ_mul] at hs
    have ih := sum_eq Q r t (j + 1) hT (by
      generalize t.length * Q = z at *
      split at h0 <;> omega)
    cases k with
    | zero =>
      simp only [List.getElem_cons_zero, Nat.add_zero]
      generalize t.length * Q = z at *
      split <;> split at h0 <;> omega
    | succ k =>
      simp only [List.getElem_cons_succ]
      rw [ih k (by simpa using hk), show j + 1 + k = j + (k + 1) by omega]
def shapeOk (a : List Nat) : Prop := ∀ k, (h : k < a.length) → (k = 0 ∨ a[k] ≤ a[k - 1]'(by omega)) ∧ a[0]'(by omega) ≤ a[k] + 1
def fillOk (a : List Nat) : Prop := ∀ i, i < a.sum → ∃ h : i % a.length < a.length, i / a.length < a[i % a.length]
theorem fill_shape {a : List Nat} (hp : 0 < a.length) (h : fillOk a) : shapeOk a := by
  obtain ⟨p, hpe⟩ : ∃ p, a.length = p := ⟨_, rfl⟩
  have hn := Nat.div_add_mod a.sum p
  have hr : a.sum % p < p := Nat.mod_lt _ (by omega)
  have hQ : ∀ k, (hk : k < a.length) → a.sum / p + (if 0 + k < a.sum % p then 1 else 0) ≤ a[k] := by
    intro k hk
    rw [Nat.zero_add]
    split
    · rename_i c
      obtain ⟨h1, h2⟩ := h (p * (a.sum / p) + k) (by omega)
      have e1 : (p * (a.sum / p) + k) % a.length = k := by rw [hpe, Nat.mul_add_mod]; exact Nat.mod_eq_of_lt (by omega)
      have e2 : (p * (a.sum / p) + k) / a.length = a.sum / p := by rw [hpe, Nat.mul_add_div (show 0 < p by omega), Nat.div_eq_of_lt (show k < p by omega)]; omega
      rw [e2] at h2
      simp only [e1] at h2
      omega
    · by_cases z : a.sum / p = 0
      · omega
      · have hm : p * (a.sum / p) = p * (a.sum / p - 1) + p := by
          obtain ⟨u, hu⟩ := Nat.exists_eq_succ_of_ne_zero z
          rw [hu, Nat.succ_sub_one, Nat.mul_succ]
        obtain ⟨h1, h2⟩ := h (p * (a.sum / p - 1) + k) (by omega)
        have e1 : (p * (a.sum / p - 1) + k) % a.length = k := by rw [hpe, Nat.mul_add_mod]; exact Nat.mod_eq_of_lt (by omega)
        have e2 : (p * (a.sum / p - 1) + k) / a.length = a.sum / p - 1 := by rw [hpe, Nat.mul_add_div (show 0 < p by omega), Nat.div_eq_of_lt (show k < p by omega)]; omega
        rw [e2] at h2
        simp only [e1] at h2
        omega
  have hs : a.sum ≤ a.length * (a.sum / p) + min (a.sum % p - 0) a.length := by rw [hpe]; omega
  have he := sum_eq (a.sum / p) (a.sum % p) a 0 hQ hs
  intro k hk
  have h0 := he 0 (by omega)
  have h1 := he k hk
  refine ⟨?_, ?_⟩
  · by_cases z : k = 0
    · exact .inl z
    · right
      have h2 := he (k - 1) (by omega)
      rw [h1, h2]
      simp only [Nat.zero_add]
      split <;> split <;> omega
  · rw [h0, h1]
    simp only [Nat.zero_add]
    split <;> split <;> omega
theorem shape_mono {a : List Nat} (h : shapeOk a) : ∀ (k j : Nat), (hk : k < a.length) → (hj : j ≤ k) → a[k] ≤ a[j]'(by omega)
  | 0, j, hk, hj => by
    have : j = 0 := by omega
    subst this
    exact Nat.le_refl _
  | k + 1, j, hk, hj => by
    by_cases e : j = k + 1
    · subst e
      exact Nat.le_refl _
    · have h1 := shape_mono h k j (by omega) (by omega)
      rcases (h (k + 1) hk).1 with h2 | h2
      · omega
      · simp only [Nat.add_sub_cancel] at h2
        omega
theorem shape_fill {a : List Nat} (hp : 0 < a.length) (h : shapeOk a) : fillOk a := by
  intro i hi
  have hk : i % a.length < a.length := Nat.mod_lt _ hp
  refine ⟨hk, ?_⟩
  rcases Nat.lt_or_ge (i / a.length) (a[i % a.length]) with c | c
  · exact c
  · exfalso
    have hle := sum_le (i / a.length) (i % a.length) a 0 (fun k hk2 => by
      rw [Nat.zero_add]
      split
      · have h1 := shape_mono h k 0 hk2 (by omega)
        have h2 := (h (i % a.length) hk).2
        omega
      · have h1 := shape_mono h k (i % a.length) hk2 (by omega)
        omega)
    have hd := Nat.div_add_mod i a.length
    have e : a.length * (i / a.length) + i % a.length = i := hd
    simp only [Nat.sub_zero] at hle
    have : min (i % a.length) a.length ≤ i % a.length := Nat.min_le_left _ _
    omega
def lensOf (L : List (List Int)) : List Nat := L.map List.length
theorem totL_sum : ∀ (L : List (List Int)), totL L = (lensOf L).sum
  | [] => rfl
  | x :: t => by simp [totL, lensOf, totL_sum t]
theorem len_le_tot : ∀ (L : List (List Int)), ∀ x ∈ L, x.length ≤ totL L
  | y :: t, x, h => by
    simp only [List.mem_cons] at h
    simp only [totL]
    rcases h with rfl | h
    · omega
    · have := len_le_tot t x h
      omega
def lnAt (L : List (List Int)) (i : Nat) : Nat := (L.getD i []).length
def shp (L : List (List Int)) : Nat → List (List Int) → Bool
  | _, [] => true
  | n, x :: t => (decide (n = 0 ∨ x.length ≤ lnAt L (n - 1)) && decide (lnAt L 0 ≤ x.length + 1)) && shp L (n + 1) t
theorem shp_iff (L : List (List Int)) : ∀ (t q : List (List Int)), L = q ++ t → (shp L q.length t = true ↔ ∀ k, q.length ≤ k → k < L.length → (k = 0 ∨ lnAt L k ≤ lnAt L (k - 1)) ∧ lnAt L 0 ≤ lnAt L k + 1)
  | [], q, h => by
    simp only [shp, true_iff]
    intro k h1 h2
    rw [h] at h2
    simp at h2
    omega
  | x :: t, q, h => by
    have ih := shp_iff L t (q ++ [x]) (by simp [h])
    have ex : lnAt L q.length = x.length := by rw [lnAt, h]; simp
    rw [List.length_append, List.length_singleton] at ih
    simp only [shp, Bool.and_eq_true, decide_eq_true_eq, ih]
    constructor
    · rintro ⟨⟨h1, h2⟩, h3⟩ k k1 k2
      by_cases e : k = q.length
      · subst e
        rw [ex]
        exact ⟨h1, h2⟩
      · exact h3 k (by omega) k2
    · intro hh
      have h0 := hh q.length (by omega) (by rw [h]; simp)
      rw [ex] at h0
      exact ⟨h0, fun k k1 k2 => hh k (by omega) k2⟩
theorem lnAt_get (L : List (List Int)) (k : Nat) (h : k < (lensOf L).length) : (lensOf L)[k] = lnAt L k := by
  have h' : k < L.length := by simpa [lensOf] using h
  simp [lensOf, lnAt, List.getD, List.getElem?_eq_getElem h']
theorem shp_shape (L : List (List Int)) : shp L 0 L = true ↔ shapeOk (lensOf L) := by
  have h := shp_iff L L [] rfl
  simp only [List.length_nil] at h
  rw [h]
  have hl : (lensOf L).length = L.length := by simp [lensOf]
  constructor
  · intro hh k hk
    have := hh k (by omega) (by omega)
    simp only [lnAt_get]
    exact this
  · intro hh k _ hk
    have hk' : k < (lensOf L).length := by omega
    have := hh k hk'
    simp only [lnAt_get] at this
    exact this
def passB (L : List (List Int)) (p i : Nat) : Bool := decide (i / p < lnAt L (i % p))
def fillR (L : List (List Int)) (p : Nat) : Nat → Nat → Bool
  | _, 0 => true
  | i, r + 1 => passB L p i && fillR L p (i + 1) r
theorem fillR_iff (L : List (List Int)) (p : Nat) : ∀ (r i : Nat), fillR L p i r = true ↔ ∀ j, i ≤ j → j < i + r → j / p < lnAt L (j % p)
  | 0, i => by
    simp only [fillR, true_iff]
    intro j h1 h2
    omega
  | r + 1, i => by
    simp only [fillR, passB, Bool.and_eq_true, decide_eq_true_eq, fillR_iff L p r (i + 1)]
    constructor
    · rintro ⟨h1, h2⟩ j j1 j2
      by_cases e : j = i
      · subst e
        exact h1
      · exact h2 j (by omega) (by omega)
    · intro h
      exact ⟨h i (by omega) (by omega), fun j j1 j2 => h j (by omega) (by omega)⟩
theorem shp_fill (L : List (List Int)) (hp : 0 < L.length) : shp L 0 L = true ↔ fillR L L.length 0 (totL L) = true := by
  rw [shp_shape, fillR_iff]
  have hl : (lensOf L).length = L.length := by simp [lensOf]
  constructor
  · intro h j _ hj
    obtain ⟨h1, h2⟩ := shape_fill (by omega) h j (by rw [← totL_sum]; omega)
    rw [lnAt_get] at h2
    rw [hl] at h2
    exact h2
  · intro h
    refine fill_shape (by omega) (fun i hi => ?_)
    have hm : i % (lensOf L).length < (lensOf L).length := Nat.mod_lt _ (by omega)
    refine ⟨hm, ?_⟩
    rw [lnAt_get, hl]
    exact h i (by omega) (by rw [totL_sum]; omega)
def joinV (L : List (List Int)) (p i : Nat) : Int := (L.getD (i % p) []).getD (i / p) 0
def joinR (L : List (List Int)) (p : Nat) : Nat → Nat → List Int
  | _, 0 => []
  | i, r + 1 => joinV L p i :: joinR L p (i + 1) r
theorem joinR_length (L : List (List Int)) (p : Nat) : ∀ (r i : Nat), (joinR L p i r).length = r
  | 0, _ => rfl
  | r + 1, i => by simp [joinR, joinR_length L p r]
def wtdM (l : List Int) : List Int × Bool := if wts l = true then (l, true) else ([], false)
def joinM (L : List (List Int)) : List Int × Bool := if (decide (1 ≤ L.length) && decide (L.length ≤ 8)) = true then (if (shp L 0 L && decide (totL L ≤ 9)) = true then wtdM (joinR L L.length 0 (totL L)) else ([], false)) else ([], false)
theorem joinM_len (L : List (List Int)) : (joinM L).1.length ≤ 1048576 := by
  have hw : ∀ l, (wtdM l).1.length ≤ 1048576 := by
    intro l
    unfold wtdM
    split
    · have := wts_len ‹_›
      simp only
      omega
    · simp
  unfold joinM
  split
  · split
    · exact hw _
    · simp
  · simp
theorem joinM_in {L : List (List Int)} (h1 : 1 ≤ L.length) (h8 : L.length ≤ 8) : joinM L = if (shp L 0 L && decide (totL L ≤ 9)) = true then wtdM (joinR L L.length 0 (totL L)) else ([], false) := by
  unfold joinM
  rw [if_pos (by simp only [Bool.and_eq_true, decide_eq_true_eq]; exact ⟨h1, h8⟩)]
theorem rd_ln (L : List (List Int)) (i : Nat) : (rd_L1 L (i : Int)).length = lnAt L i := by simp [rd_L1, lnAt]
theorem rd_join (L : List (List Int)) (p i : Nat) : rd (rd_L1 L ((i % p : Nat) : Int)) ((i / p : Nat) : Int) = joinV L p i := by simp only [rd_L1, joinV, rd, Int.toNat_natCast]
theorem impl_weighed_ev (l : List Int) (hl : l.length ≤ 1000000) : Ev (fun k => impl_weighed.f k l) (wtdM l) := by
  simp only [impl_weighed.f]
  refine Ev.bind (impl_isWeights_ev l (by omega)) ?_
  by_cases c : wts l = true
  · exact Ev.tt c (Ev.to (Ev.now _) (by rw [wtdM, if_pos c]))
  · exact Ev.ff c (Ev.to (Ev.now _) (by rw [wtdM, if_neg c]))
theorem spec_weIf_ev (l : List Int) (hl : l.length ≤ 1000000) : Ev (fun k => spec_weIf.f k l) (wtdM l) := by
  simp only [spec_weIf.f]
  refine Ev.bind (spec_weGood_ev l (by omega)) ?_
  by_cases c : wts l = true
  · exact Ev.tt c (Ev.to (Ev.now _) (by rw [wtdM, if_pos c]))
  · exact Ev.ff c (Ev.to (Ev.now _) (by rw [wtdM, if_neg c]))
theorem impl_join_l1 (L : List (List Int)) (hp : 0 < L.length) (hp8 : L.length ≤ 8) (n : Nat) (hn : n ≤ 1000) : ∀ (r i : Nat) (acc : List Int), i + r = n → acc.length = i → fillR L L.length i r = true →
    Ev (fun k => impl_JoinPhases.l1 k L (L.length : Int) acc (n : Int) (i : Int)) (wtdM (acc ++ joinR L L.length i r))
  | 0, i, acc, h, ha, hf => by
    refine Ev.step (fun k => by simp only [impl_JoinPhases.l1]; rfl) ?_
    refine Ev.ff (by omega) (Ev.bind (impl_weighed_ev acc (by omega)) (Ev.to (Ev.now _) (by simp [joinR])))
  | r + 1, i, acc, h, ha, hf => by
    simp only [fillR, passB, Bool.and_eq_true, decide_eq_true_eq] at hf
    have hm := Nat.mod_lt i hp
    have hd : i / L.length ≤ i := Nat.div_le_self _ _
    have e1 : wrap64 ((i : Int) + 1) = ((i + 1 : Nat) : Int) := by rw [w64 (n := (i : Int) + 1) (by omega) (by omega)]; omega
    have e2 : wrap64 ((i / L.length : Nat) : Int) = ((i / L.length : Nat) : Int) := w64n (Nat.le_trans hd (by omega))
    have ih := impl_join_l1 L hp hp8 n hn r (i + 1) (acc ++ [joinV L L.length i]) (by omega) (by simp [ha]) hf.2
    refine Ev.to (Ev.step (fun k => by simp only [impl_JoinPhases.l1]; rfl) ?_) (show wtdM ((acc ++ [joinV L L.length i]) ++ joinR L L.length (i + 1) r) = _ by simp [joinR])
    rw [tm, td, e2, e1, rd_ln, rd_join]
    exact Ev.tt (by omega) (Ev.ff (by omega) (Ev.tt (Int.natCast_nonneg _) (Ev.tt (by omega) (Ev.tt (Int.natCast_nonneg _) (Ev.tt (by have := hf.1; omega) (Ev.tt (by omega) ih))))))
theorem spec_join_l1 (L : List (List Int)) (hp : 0 < L.length) (hp8 : L.length ≤ 8) (n : Nat) (hn : n ≤ 1000) : ∀ (r i : Nat) (acc : List Int), i + r = n → acc.length = i →
    Ev (fun k => spec_JoinPhases.l1 k L (L.length : Int) (n : Int) acc (i : Int)) (if fillR L L.length i r = true then wtdM (acc ++ joinR L L.length i r) else ([], false))
  | 0, i, acc, h, ha => by
    refine Ev.step (fun k => by simp only [spec_JoinPhases.l1]; rfl) ?_
    refine Ev.ff (by omega) (Ev.bind (spec_weIf_ev acc (by omega)) (Ev.to (Ev.now _) (by simp [joinR, fillR])))
  | r + 1, i, acc, h, ha => by
    have hm := Nat.mod_lt i hp
    have hd : i / L.length ≤ i := Nat.div_le_self _ _
    have e1 : wrap64 ((i : Int) + 1) = ((i + 1 : Nat) : Int) := by rw [w64 (n := (i : Int) + 1) (by omega) (by omega)]; omega
    have e2 : wrap64 ((i / L.length : Nat) : Int) = ((i / L.length : Nat) : Int) := w64n (Nat.le_trans hd (by omega))
    have ih := spec_join_l1 L hp hp8 n hn r (i + 1) (acc ++ [joinV L L.length i]) (by omega) (by simp [ha])
    by_cases c : passB L L.length i = true
    · have c' : i / L.length < lnAt L (i % L.length) := by simpa [passB] using c
      refine Ev.to (Ev.step (fun k => by simp only [spec_JoinPhases.l1]; rfl) ?_) (show (if fillR L L.length (i + 1) r = true then wtdM ((acc ++ [joinV L L.length i]) ++ joinR L L.length (i + 1) r) else ([], false)) = _ by simp [joinR, fillR, c])
      rw [tm, td, e2, e1, rd_ln, rd_join]
      exact Ev.tt (by omega) (Ev.ff (by omega) (Ev.tt (Int.natCast_nonneg _) (Ev.tt (by omega) (Ev.ff (by omega) (Ev.tt (Int.natCast_nonneg _) (Ev.tt (by omega) (Ev.tt (by omega) ih)))))))
    · have c' : ¬ (i / L.length < lnAt L (i % L.length)) := by simpa [passB] using c
      refine Ev.to (Ev.step (fun k => by simp only [spec_JoinPhases.l1]; rfl) ?_) (show (([] : List Int), false) = _ by rw [if_neg (by simp only [fillR, Bool.and_eq_true]; exact fun z => c z.1)])
      rw [tm, td, e2, rd_ln]
      exact Ev.tt (by omega) (Ev.ff (by omega) (Ev.tt (Int.natCast_nonneg _) (Ev.tt (by omega) (Ev.tt (by omega) (Ev.now _)))))
theorem impl_join_l0 (L : List (List Int)) (hp : 0 < L.length) (hp8 : L.length ≤ 8) (hx : ∀ x ∈ L, x.length ≤ 2000000) : ∀ (t q : List (List Int)), L = q ++ t → (shp L q.length t = true → shp L 0 L = true) →
    Ev (fun k => impl_JoinPhases.l0 k L (L.length : Int) (totL q : Int) L (L.length : Int) (q.length : Int)) (if (shp L q.length t && decide (totL L ≤ 9)) = true then wtdM (joinR L L.length 0 (totL L)) else ([], false))
  | [], q, h, hs => by
    have e : L = q := by simpa using h
    refine Ev.step (fun k => by simp only [impl_JoinPhases.l0]; rfl) ?_
    rw [← e]
    refine Ev.ff (by omega) ?_
    by_cases c : totL L ≤ 9
    · refine Ev.ff (by omega) ?_
      have hf := (shp_fill L hp).1 (hs rfl)
      have h1 := impl_join_l1 L hp hp8 (totL L) (by omega) (totL L) 0 [] (by omega) rfl hf
      exact Ev.to h1 (by simp [shp, c])
    · exact Ev.tt (by omega) (Ev.to (Ev.now _) (by simp [shp, c]))
  | x :: t, q, h, hs => by
    have hq : q.length < L.length := by rw [h]; simp
    have e1 : (q.length : Int) < (L.length : Int) := by omega
    have e2 : lnAt L q.length = x.length := by rw [lnAt, h]; simp
    have e3 : wrap64 ((q.length : Int) + 1) = ((q ++ [x]).length : Int) := nx_mid q t x (by rw [← h]; omega)
    have hxx : x.length ≤ 2000000 := hx x (by rw [h]; simp)
    have hz : lnAt L 0 ≤ 2000000 := by
      obtain ⟨y, u, hyu⟩ : ∃ y u, L = y :: u := by
        cases L with
        | nil => simp at hp
        | cons y u => exact ⟨y, u, rfl⟩
      have := hx y (by rw [hyu]; simp)
      rw [lnAt, hyu]
      simpa using this
    have htot : totL q ≤ 2000000 * q.length := by
      have hgen : ∀ z : List (List Int), (∀ y ∈ z, y.length ≤ 2000000) → totL z ≤ 2000000 * z.length := by
        intro z
        induction z with
        | nil => intro _; simp [totL]
        | cons y u ih =>
          intro hy
          have h1 := ih (fun w hw => hy w (by simp [hw]))
          have h2 := hy y (by simp)
          simp only [totL, List.length_cons]
          omega
      exact hgen q (fun y hy => hx y (by rw [h]; simp [hy]))
    have e4 : wrap64 ((totL q : Int) + (x.length : Int)) = (totL (q ++ [x]) : Int) := by
      have ha : totL (q ++ [x]) = totL q + x.length := by
        rw [totL_sum, totL_sum]
        simp [lensOf]
      rw [ha, w64 (n := (totL q : Int) + (x.length : Int)) (by omega) (by omega)]
      omega
    have e5 : (rd_L1 L 0).length = lnAt L 0 := by have := rd_ln L 0; simpa using this
    have e6 : wrap64 ((lnAt L 0 : Int) - 1) = (lnAt L 0 : Int) - 1 := w64 (by omega) (by omega)
    have ih := impl_join_l0 L hp hp8 hx t (q ++ [x]) (by simp [h])
    have e7 : (q ++ [x]).length = q.length + 1 := by simp
    rw [e7] at ih
    rw [e7] at e3
    have fin : ∀ (c1 : q.length = 0 ∨ x.length ≤ lnAt L (q.length - 1)), Ev (fun k => if (0 : Int) < (L.length : Int) then (if (x.length : Int) < wrap64 (((rd_L1 L 0).length : Int) - 1) then some (([] : List Int), false) else impl_JoinPhases.l0 k L (L.length : Int) (wrap64 ((totL q : Int) + (x.length : Int))) L (L.length : Int) (wrap64 ((q.length : Int) + 1))) else none) (if (shp L q.length (x :: t) && decide (totL L ≤ 9)) = true then wtdM (joinR L L.length 0 (totL L)) else ([], false)) := by
      intro c1
      refine Ev.tt (by omega) ?_
      rw [e5, e6, e3, e4]
      by_cases c2 : lnAt L 0 ≤ x.length + 1
      · refine Ev.ff (by omega) ?_
        have e8 : shp L q.length (x :: t) = shp L (q.length + 1) t := by rw [shp, decide_eq_true c1, decide_eq_true c2]; rfl
        rw [e8]
        exact ih (fun hh => hs (by rw [e8]; exact hh))
      · exact Ev.tt (by omega) (Ev.to (Ev.now _) (by rw [shp, decide_eq_false c2]; simp))
    refine Ev.step (fun k => by simp only [impl_JoinPhases.l0]; rfl) ?_
    rw [rd_ln, e2]
    refine Ev.tt e1 (Ev.tt (Int.natCast_nonneg _) (Ev.tt e1 ?_))
    by_cases z : q.length = 0
    · exact Ev.ff (by omega) (fin (.inl z))
    · have e9 : wrap64 ((q.length : Int) - 1) = ((q.length - 1 : Nat) : Int) := by rw [w64 (n := (q.length : Int) - 1) (by omega) (by omega)]; omega
      refine Ev.tt (by omega) ?_
      rw [e9, rd_ln]
      refine Ev.tt (Int.natCast_nonneg _) (Ev.tt (by omega) ?_)
      by_cases c1 : x.length ≤ lnAt L (q.length - 1)
      · exact Ev.ff (by omega) (fin (.inr c1))
      · refine Ev.tt (by omega) (Ev.to (Ev.now _) ?_)
        rw [shp, decide_eq_false (fun hh => hh.elim z c1)]
        simp
theorem spec_join_l0 (L : List (List Int)) (hp : 0 < L.length) (hp8 : L.length ≤ 8) : ∀ (t q : List (List Int)), L = q ++ t → totL q ≤ 9 * q.length →
    Ev (fun k => spec_JoinPhases.l0 k L (L.length : Int) (totL q : Int) L (L.length : Int) (q.length : Int)) (if ((t.all fun x => decide (x.length ≤ 9)) && fillR L L.length 0 (totL L)) = true then wtdM (joinR L L.length 0 (totL L)) else ([], false))
  | [], q, h, hq => by
    have e : L = q := by simpa using h
    refine Ev.step (fun k => by simp only [spec_JoinPhases.l0]; rfl) ?_
    rw [← e] at hq ⊢
    refine Ev.ff (by omega) ?_
    have h1 := spec_join_l1 L hp hp8 (totL L) (by omega) (totL L) 0 [] (by omega) rfl
    exact Ev.to h1 (by simp)
  | x :: t, q, h, hq => by
    have e1 : (q.length : Int) < (L.length : Int) := by rw [h]; exact lt_mid q t x
    have hql : q.length < L.length := by rw [h]; simp
    have e2 : lnAt L q.length = x.length := by rw [lnAt, h]; simp
    have e3 : wrap64 ((q.length : Int) + 1) = ((q ++ [x]).length : Int) := nx_mid q t x (by rw [← h]; omega)
    refine Ev.step (fun k => by simp only [spec_JoinPhases.l0]; rfl) ?_
    rw [rd_ln, e2, e3]
    refine Ev.tt e1 (Ev.tt (Int.natCast_nonneg _) (Ev.tt e1 ?_))
    by_cases c : x.length ≤ 9
    · have ha : totL (q ++ [x]) = totL q + x.length := by
        rw [totL_sum, totL_sum]
        simp [lensOf]
      have e4 : wrap64 ((totL q : Int) + (x.length : Int)) = (totL (q ++ [x]) : Int) := by
        rw [ha, w64 (n := (totL q : Int) + (x.length : Int)) (by omega) (by omega)]
        omega
      rw [e4]
      have ih := spec_join_l0 L hp hp8 t (q ++ [x]) (by simp [h]) (by rw [ha]; simp; omega)
      exact Ev.ff (by omega) (Ev.to ih (by rw [List.all_cons, decide_eq_true c, Bool.true_and]))
    · exact Ev.tt (by omega) (Ev.to (Ev.now _) (by rw [List.all_cons, decide_eq_false c]; simp))
theorem impl_JoinPhases_ev (L : List (List Int)) (hL : L.length ≤ 2000000) (hx : ∀ x ∈ L, x.length ≤ 2000000) : Ev (fun k => impl_JoinPhases.f k L) (joinM L) := by
  simp only [impl_JoinPhases.f, impl_in_eq, Option.bind_some]
  by_cases c : (decide (1 ≤ (L.length : Int)) && decide ((L.length : Int) ≤ 8)) = true
  · have c' : 1 ≤ (L.length : Int) ∧ (L.length : Int) ≤ 8 := by simpa only [Bool.and_eq_true, decide_eq_true_eq] using c
    have h := impl_join_l0 L (by omega) (by omega) hx L [] rfl (fun h => h)
    refine Ev.tt c (Ev.to h ?_)
    rw [joinM_in (by omega) (by omega)]
    rfl
  · refine Ev.ff c (Ev.to (Ev.now _) ?_)
    rw [joinM, if_neg (by
      intro h
      apply c
      simp only [Bool.and_eq_true, decide_eq_true_eq] at h ⊢
      omega)]
theorem spec_JoinPhases_ev (L : List (List Int)) (hL : L.length ≤ 2000000) : Ev (fun k => spec_JoinPhases.f k L) (joinM L) := by
  simp only [spec_JoinPhases.f, spec_l1In_eq, Option.bind_some]
  by_cases c : (decide (1 ≤ (L.length : Int)) && decide ((L.length : Int) ≤ 8)) = true
  · have c' : 1 ≤ (L.length : Int) ∧ (L.length : Int) ≤ 8 := by simpa only [Bool.and_eq_true, decide_eq_true_eq] using c
    have h := spec_join_l0 L (by omega) (by omega) L [] rfl (by simp [totL])
    refine Ev.tt c (Ev.to h ?_)
    rw [joinM_in (by omega) (by omega)]
    have hsf := shp_fill L (by omega)
    by_cases c9 : totL L ≤ 9
    · have hall : (L.all fun x => decide (x.length ≤ 9)) = true := by
        simp only [List.all_eq_true, decide_eq_true_eq]
        intro x hx
        have := len_le_tot L x hx
        omega
      rw [hall, Bool.true_and, decide_eq_true c9, Bool.and_true]
      by_cases s : shp L 0 L = true
      · rw [if_pos s, if_pos (hsf.1 s)]
      · rw [if_neg s, if_neg (fun z => s (hsf.2 z))]
    · rw [decide_eq_false c9, Bool.and_false, if_neg (show ¬ (false = true) by decide)]
      split
      · rw [wtdM, if_neg]
        intro hw
        have := (wts_len hw).2
        rw [joinR_length] at this
        omega
      · rfl
  · refine Ev.ff c (Ev.to (Ev.now _) ?_)
    rw [joinM, if_neg (by
      intro h
      apply c
      simp only [Bool.and_eq_true, decide_eq_true_eq] at h ⊢
      omega)]

theorem laws_toIntSS_l0 (l : List (List Int)) (hl : l.length ≤ 100000000) (hx : ∀ x ∈ l, x.length ≤ 100000000) : ∀ (t p : List (List Int)), l = p ++ t → Ev (fun k => laws_toIntSS.l0 k l (p ++ List.replicate t.length []) (p.length : Int)) l
  | [], p, h => by
    apply Ev.step (f := fun _ => some l)
    · intro k
      subst h
      simp [laws_toIntSS.l0]
    · exact Ev.now _
  | x :: t, p, h => by
    have e1 : (p.length : Int) < (l.length : Int) := by rw [h]; exact lt_mid p t x
    have e2 : rd_L1 l (p.length : Int) = x := by rw [h]; simp [rd_L1]
    have e3 : wrap64 ((p.length : Int) + 1) = ((p ++ [x]).length : Int) := nx_mid p t x (by rw [← h]; omega)
    have e4 : (p.length : Int) < ((p ++ List.replicate (x :: t).length ([] : List Int)).length : Int) := by simp; omega
    have e5 : (p ++ List.replicate (x :: t).length ([] : List Int)).set (p.length : Int).toNat x = (p ++ [x]) ++ List.replicate t.length [] := by
      simp [List.replicate_succ]
    have hxx := hx x (by rw [h]; simp)
    refine Ev.step (fun k => by simp only [laws_toIntSS.l0]; rfl) ?_
    rw [e2, e3]
    refine Ev.tt e1 (Ev.tt (Int.natCast_nonneg _) (Ev.bind (laws_toIntS_ev x (by omega)) (Ev.tt e4 ?_)))
    rw [e5]
    exact laws_toIntSS_l0 l hl hx t (p ++ [x]) (by simp [h])
theorem laws_toIntSS_ev (l : List (List Int)) (hl : l.length ≤ 100000000) (hx : ∀ x ∈ l, x.length ≤ 100000000) : Ev (fun k => laws_toIntSS.f k l) l := by
  have h := laws_toIntSS_l0 l hl hx l [] rfl
  simp only [laws_toIntSS.f]
  refine Ev.tt (Int.natCast_nonneg _) (Ev.tt ?_ ?_)
  · simp; omega
  · simpa using h

theorem laws_szIntSS_l0 (l : List (List Int)) (hl : l.length ≤ 100000000) (hx : ∀ x ∈ l, x.length ≤ 9223372036854775807) : ∀ (t p : List (List Int)) (m : Int), l = p ++ t → 0 ≤ m → m ≤ 1048576 →
    ∃ v, Ev (fun k => laws_szIntSS.l0 k l m (p.length : Int)) v ∧ (0 ≤ v → ∀ x ∈ t, x.length ≤ 1048576)
  | [], p, m, h, h0, h1 => by
    refine ⟨m, Ev.step (f := fun _ => some m) (fun k => ?_) (Ev.now _), fun _ x hx => by simp at hx⟩
    subst h
    simp [laws_szIntSS.l0]
  | x :: t, p, m, h, h0, h1 => by
    have e1 : (p.length : Int) < (l.length : Int) := by rw [h]; exact lt_mid p t x
    have e2 : rd_L1 l (p.length : Int) = x := by rw [h]; simp [rd_L1]
    have e3 : wrap64 ((p.length : Int) + 1) = ((p ++ [x]).length : Int) := nx_mid p t x (by rw [← h]; omega)
    have hxx := hx x (by rw [h]; simp)
    have e4 : laws_szIntS.f x m = some (if m - (x.length : Int) < 0 then -1 else m - (x.length : Int)) := by
      unfold laws_szIntS.f
      rw [w64 (n := m - (x.length : Int)) (by omega) (by omega)]
      split <;> rfl
    by_cases c : m - (x.length : Int) < 0
    · rw [if_pos c] at e4
      refine ⟨-1, Ev.step (fun k => by simp only [laws_szIntSS.l0]; rfl) ?_, fun hv => by omega⟩
      rw [e2]
      exact Ev.tt e1 (Ev.tt (Int.natCast_nonneg _) (Ev.dbind e4 (Ev.tt (by decide) (Ev.now _))))
    · rw [if_neg c] at e4
      obtain ⟨v, hv, hb⟩ := laws_szIntSS_l0 l hl hx t (p ++ [x]) (m - (x.length : Int)) (by simp [h]) (by omega) (by omega)
      refine ⟨v, Ev.step (fun k => by simp only [laws_szIntSS.l0]; rfl) ?_, fun h0 y hy => ?_⟩
      · rw [e2, e3]
        exact Ev.tt e1 (Ev.tt (Int.natCast_nonneg _) (Ev.dbind e4 (Ev.ff (by omega) hv)))
      · simp only [List.mem_cons] at hy
        rcases hy with rfl | hy
        · omega
        · exact hb h0 y hy
theorem laws_szIntSS_ev (l : List (List Int)) (hl : l.length * 24 ≤ 140737488351232) (hx : ∀ x ∈ l, x.length ≤ 9223372036854775807) : ∃ v, Ev (fun k => laws_szIntSS.f k l 1048576) v ∧ (0 ≤ v → l.length ≤ 1048576 ∧ ∀ x ∈ l, x.length ≤ 1048576) := by
  simp only [laws_szIntSS.f]
  rw [w64 (n := 1048576 - (l.length : Int)) (by omega) (by omega)]
  by_cases c : 1048576 - (l.length : Int) < 0
  · exact ⟨-1, Ev.tt c (Ev.now _), fun h => by omega⟩
  · obtain ⟨v, hv, hb⟩ := laws_szIntSS_l0 l (by omega) hx l [] (1048576 - (l.length : Int)) rfl (by omega) (by omega)
    exact ⟨v, Ev.ff c hv, fun h => ⟨by omega, hb h⟩⟩

theorem FnExactJoinPhases : laws_FnExactJoinPhases.Pure := by
  intro L h1 h2
  apply Ev.rounds
  simp only [laws_FnExactJoinPhases.f]
  obtain ⟨v, hv, hvb⟩ := laws_szIntSS_ev L h1 h2
  refine Ev.bind hv ?_
  by_cases c : v < 0
  · exact Ev.tt c (Ev.now _)
  refine Ev.ff c ?_
  obtain ⟨hL, hx⟩ := hvb (by omega)
  have hto := laws_toIntSS_ev L (by omega) (fun x hh => by have := hx x hh; omega)
  have hs := spec_JoinPhases_ev L (by omega)
  have hi := impl_JoinPhases_ev L (by omega) (fun x hh => by have := hx x hh; omega)
  have hb := joinM_len L
  have hes := laws_eqIntSS_self L (by omega) (fun x hh => by have := hx x hh; omega)
  have hms := laws_markIntSS_ev L (by omega) (fun x hh => by have := hx x hh; omega) 1 (by omega) (by omega)
  generalize joinM L = r at *
  generalize marksS L 1 = ms at *
  generalize (totL L : Nat) = tt at *
  obtain ⟨r0, r1⟩ := r
  try simp only at hb
  repeat ((try dsimp only); first | exact Ev.now _ | refine Ev.bind hto ?_ | refine Ev.bind hs ?_ | refine Ev.bind hi ?_ | refine Ev.bind hes ?_ | refine Ev.bind hms ?_ | refine Ev.bind (laws_eqIntS_self _ (by omega)) ?_ | refine Ev.bind (laws_markIntS_ev _ _ (by omega) (by omega) (by omega)) ?_ | refine Ev.bind (laws_heldIntS_ev _ (by omega)) ?_ | refine Ev.tt rfl ?_ | refine Ev.ff (by first | omega | decide) ?_ | (refine Ev.step (fun k => by simp only [laws_FnExactJoinPhases.j0, bne_self_eq_false]; rfl) ?_) | (refine Ev.step (fun k => by simp only [laws_FnExactJoinPhases.j1, bne_self_eq_false]; rfl) ?_) | (refine Ev.step (fun k => by simp only [laws_FnExactJoinPhases.j2, bne_self_eq_false]; rfl) ?_))

end Go.Proofs.Ytfopgpbcbifpnaa.Pure
