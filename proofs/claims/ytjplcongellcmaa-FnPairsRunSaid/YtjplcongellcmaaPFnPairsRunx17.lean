/- What each Go function that the statement FnPairsRun reaches answers, proved call by call. No condition beyond those that the theorems print. (Written by wip/tools/xprint.py of this repo, over the kit's print.) -/
import Derived.Test.YtjplcongellcmaaPFnPairsRunx0
import Derived.Test.YtjplcongellcmaaPFnPairsRunx2
import Derived.Test.YtjplcongellcmaaPFnPairsRunx5
import Derived.Test.YtjplcongellcmaaPFnPairsRunx8
import Derived.Test.YtjplcongellcmaaPFnPairsRunx16
namespace Go.Proofs.Ytjplcongellcmaa.PFnPairsRun
open Go.RowKit Go.Proofs.YtjplcongellcmaaW.PrintWords Go.Proofs.YtjplcongellcmaaW.PrintLast Go.Proofs.YtjplcongellcmaaW.PrintMore
attribute [local go_sem] max2_int min2_int max_two min_two max_three min_three max_four min_four   -- for this text's walks alone
set_option linter.unusedVariables false
set_option linter.unusedSimpArgs false

/-! ### impl_exactChain: function 347 -/
mutual
def impl_exactChain.l0 : Nat → List (S62) → Int → List Int → Int → List Int → Int → Int → Option (List Int × Bool)
 | 0, _, _, _, _, _, _, _ => none
 | k + 1, x0, x6, x7, x8, x20, x21, x22 => if x22 < x21 then (if 0 ≤ x22 then (if x22 < (x20.length : Int) then (if 0 ≤ x6 then ((impl_isNumber.f (shl .i64 x8 x6)).bind fun t512 => (if t512 = true then (if x7.length < 17592186044416 then (impl_exactChain.l0 k x0 x6 (x7 ++ [wrap64 ((rd x20 x22) * (shl .i64 x8 x6))]) (shl .i64 x8 x6) x20 x21 (wrap64 (x22 + 1))) else (none)) else (some (([] : List Int), false)))) else (none)) else (none)) else (none)) else (impl_exactChain.l1 k x6 x7 x0 (x0.length : Int) 0)
def impl_exactChain.l1 : Nat → Int → List Int → List (S62) → Int → Int → Option (List Int × Bool)
 | 0, _, _, _, _, _ => none
 | k + 1, x6, x7, x39, x40, x41 => if x41 < x40 then (if 0 ≤ x41 then (if x41 < (x39.length : Int) then (impl_exactChain.l2 k x6 x7 0 x39 x40 x41 (x7.length : Int) 0 ((rd_T62 x39 x41).f0) ((rd_T62 x39 x41).f1) ((rd_T62 x39 x41).f2) ((rd_T62 x39 x41).f3.f0) ((rd_T62 x39 x41).f3.f1)) else (none)) else (none)) else (some (x7, true))
def impl_exactChain.l2 : Nat → Int → List Int → Int → List (S62) → Int → Int → Int → Int → Int → Int → Int → Int → Bool → Option (List Int × Bool)
 | 0, _, _, _, _, _, _, _, _, _, _, _, _, _ => none
 | k + 1, x6, x7, x13, x39, x40, x41, x46, x47, x518000, x518001, x518002, x518003, x518004 => if x47 < x46 then (if 0 ≤ x47 then (if x47 < (x7.length : Int) then (if x47 > 0 then (impl_exactChain.j3 k x6 x7 x13 x47 (rd x7 x47) x39 x40 x41 x46 x47 (x13 != 0) x518000 x518001 x518002 x518003 x518004) else (impl_exactChain.j3 k x6 x7 x13 x47 (rd x7 x47) x39 x40 x41 x46 x47 false x518000 x518001 x518002 x518003 x518004)) else (none)) else (none)) else (impl_exactChain.l1 k x6 x7 x39 x40 (wrap64 (x41 + 1)))
def impl_exactChain.j3 : Nat → Int → List Int → Int → Int → Int → List (S62) → Int → Int → Int → Int → Bool → Int → Int → Int → Int → Bool → Option (List Int × Bool)
 | 0, _, _, _, _, _, _, _, _, _, _, _, _, _, _, _, _ => none
 | k + 1, x6, x7, x13, x14, x15, x39, x40, x41, x46, x47, x57, x518000, x518001, x518002, x518003, x518004 => if x57 = true then (if 0 ≤ (wrap64 (x6 - x518001)) then ((impl_size.f (shl .i64 x518000 (wrap64 (x6 - x518001)))).bind fun t519 => ((impl_size.f x13).bind fun t520 => (if t520 = 0 then (none) else (if t519 > (wrap64 (Int.tdiv 400000000000000000 t520)) then (some (([] : List Int), false)) else ((impl_isNumber.f (wrap64 (x15 + (wrap64 ((shl .i64 x518000 (wrap64 (x6 - x518001))) * x13))))).bind fun t521 => (if t521 = true then (if 0 ≤ x14 then (if x14 < (x7.length : Int) then (impl_exactChain.l2 k x6 (x7.set (x14 : Int).toNat (wrap64 (x15 + (wrap64 ((shl .i64 x518000 (wrap64 (x6 - x518001))) * x13))))) (wrap64 (x15 + (wrap64 ((shl .i64 x518000 (wrap64 (x6 - x518001))) * x13)))) x39 x40 x41 x46 (wrap64 (x47 + 1)) x518000 x518001 x518002 x518003 x518004) else (none)) else (none)) else (some (([] : List Int), false)))))))) else (none)) else ((impl_isNumber.f x15).bind fun t523 => (if t523 = true then (if 0 ≤ x14 then (if x14 < (x7.length : Int) then (impl_exactChain.l2 k x6 (x7.set (x14 : Int).toNat x15) x15 x39 x40 x41 x46 (wrap64 (x47 + 1)) x518000 x518001 x518002 x518003 x518004) else (none)) else (none)) else (some (([] : List Int), false))))
end
def impl_exactChain.f (k : Nat) (l0 : List (S62)) (l1 : List Int) : Option (List Int × Bool) := (impl_shiftOf.f k l0).bind fun t507 => (impl_exactChain.l0 k l0 t507 (([] : List Int)) 1 l1 (l1.length : Int) 0)
theorem impl_exactChain.mono_l : ∀ k, (∀ y0 y1 y2 y3 y4 y5 y6, LeO (impl_exactChain.l0 k y0 y1 y2 y3 y4 y5 y6) (impl_exactChain.l0 (k + 1) y0 y1 y2 y3 y4 y5 y6)) ∧ (∀ y0 y1 y2 y3 y4, LeO (impl_exactChain.l1 k y0 y1 y2 y3 y4) (impl_exactChain.l1 (k + 1) y0 y1 y2 y3 y4)) ∧ (∀ y0 y1 y2 y3 y4 y5 y6 y7 y8 y9 y10 y11 y12, LeO (impl_exactChain.l2 k y0 y1 y2 y3 y4 y5 y6 y7 y8 y9 y10 y11 y12) (impl_exactChain.l2 (k + 1) y0 y1 y2 y3 y4 y5 y6 y7 y8 y9 y10 y11 y12)) ∧ (∀ y0 y1 y2 y3 y4 y5 y6 y7 y8 y9 y10 y11 y12 y13 y14 y15, LeO (impl_exactChain.j3 k y0 y1 y2 y3 y4 y5 y6 y7 y8 y9 y10 y11 y12 y13 y14 y15) (impl_exactChain.j3 (k + 1) y0 y1 y2 y3 y4 y5 y6 y7 y8 y9 y10 y11 y12 y13 y14 y15))
 | 0 => ⟨fun _ _ _ _ _ _ _ r h => by simp [impl_exactChain.l0] at h, fun _ _ _ _ _ r h => by simp [impl_exactChain.l1] at h, fun _ _ _ _ _ _ _ _ _ _ _ _ _ r h => by simp [impl_exactChain.l2] at h, fun _ _ _ _ _ _ _ _ _ _ _ _ _ _ _ _ r h => by simp [impl_exactChain.j3] at h⟩
 | k + 1 => by
  obtain ⟨ih0, ih1, ih2, ih3⟩ := impl_exactChain.mono_l k
  have m0 := @impl_shiftOf.mono
  refine ⟨?_, ?_, ?_, ?_⟩ <;> intros
  ·unfold impl_exactChain.l0; exact xM
  ·unfold impl_exactChain.l1; exact xM
  ·unfold impl_exactChain.l2; exact xM
  ·unfold impl_exactChain.j3; exact xM
theorem impl_exactChain.mono : ∀ a0 a1 k, LeO (impl_exactChain.f k a0 a1) (impl_exactChain.f (k + 1) a0 a1) := by
 intro a0 a1 k
 obtain ⟨ih0, ih1, ih2, ih3⟩ := impl_exactChain.mono_l k
 have m0 := @impl_shiftOf.mono
 unfold impl_exactChain.f
 exact xM
set_option maxHeartbeats 200000000 in
set_option maxRecDepth 100000 in
theorem impl_exactChain.calls (k : Nat) (A0 : Option Addr) (c0 : Nat) (l0 : List (S62)) (A1 : Option Addr) (c1 : Nat) (l1 : List Int) (r1 : List Int) (r2 : Bool) (w : World) (hr0 : Kd.C k62 w A0 l0.length l0) (hc0 : l0.length ≤ c0) (hr1 : Kd.C (Kd.int .i64) w A1 l1.length l1) (hc1 : l1.length ≤ c1) (h : impl_exactChain.f k l0 l1 = some (r1, r2)) :
  Calls Try.prog 347 #[.slice A0 l0.length c0, .slice A1 l1.length c1] w fun e w' => ∃ v0_ : Value, e = .returned (.tuple #[v0_, .bool r2]) ∧ Kd.R (Kd.int .i64) 3 w' w.heap.size (fun _ => True) v0_ r1 ∧ Below w.heap.size w w' := by
 have hu62 := Try.underlying62
 have HR0 := xA hr0
 have HC0 := xA hc0
 clear hr0 hc0
 have HR1 := xA hr1
 have HC1 := xA hc1
 clear hr1 hc1
 have HB := xA (Below.refl w.heap.size w)
 have H : ((impl_shiftOf.f k l0).bind fun t507 => (impl_exactChain.l0 k l0 t507 (([] : List Int)) 1 l1 (l1.length : Int) 0)) = some (r1, r2) := h
 clear h
 obtain ⟨t507, A3, H⟩ := xO H
 (try dsimp only at H)
 obtain ⟨y508, hy508⟩ : ∃ y_ : List Int, y_ = (([] : List Int)) := ⟨_, rfl⟩
 replace H : (impl_exactChain.l0 k l0 t507 y508 1 l1 (l1.length : Int) 0) = some (r1, r2) := by first | (rw [hy508]; with_reducible exact H) | (have H2_ := (Option.bind_some _ _).symm.trans H; rw [hy508]; with_reducible exact H2_) | (have H2_ := (Option.bind_some _ _).symm.trans H; with_reducible exact H2_) | with_reducible exact H | (rw [hy508]; exact H) | exact H
 have Ny508 := xA hy508
 clear hy508
 have H' := xA H
 clear H
 go_enter Try.func347, Try.ntmps347
 go_wp2_with (first | (refine xG (some 18) Try.func397 #[.slice A0 l0.length c0] ?_; (with_reducible refine (impl_shiftOf.calls k _ _ l0 t507 _ ?side1 ?side2 A3.out).mono ?_); (case side1 => exact xC HR0.out); (case side2 => exact HC0.out); rintro e w4 ⟨rfl, hb⟩; refine ⟨_, rfl, ?_⟩; replace HB := xA (below_step (xB HB.out) hb); (try clear hb)) | ((with_reducible refine gate_dst (N := 19) rfl ?_); refine Kd.R_lit (Kd.int .i64) _ 3 ?hg (N := 19) ?hd (xs := ([] : List Int)) (inner := []) (ok := fun _ => True) (okp := fun _ => True) ?hr ?hp (fun _ hk => hk) trivial (Below.refl _ _) (Nat.le_refl _) (by simp) ?_; (case hd => rfl); (case hg => rfl); (case hr => first | (go_simp; done) | (go_simp; rfl)); (case hp => exact (Reps.none _ _)); intro v509 w5 ho6 hb hg_ hnew_; clear hg_ hnew_; (first | rw [← Ny508.out] at ho6 | (simp only [Int.reduceToNat] at ho6; rw [← Ny508.out] at ho6)); have HO510 := xA (Kd.R_lower ho6 (below_size (xB HB.out))); replace HB := xA (below_step (xB HB.out) hb); clear hb ho6))
 go_loopg [7, 8, 22] k (fun kq v7 v8 v22 w' => ∃ (x7_1 : List Int) (x8_1 : Int) (x22_1 : Int), v8 = .int .i64 x8_1 ∧ v22 = .int .i64 x22_1 ∧ Aside0 (impl_exactChain.l0 kq l0 t507 x7_1 x8_1 l1 (l1.length : Int) x22_1 = some (r1, r2)) ∧ Aside0 (kq ≤ k) ∧ Aside0 (Kd.R (Kd.int .i64) 3 w' w.heap.size (fun _ => True) v7 x7_1) ∧ Aside0 (Below w.heap.size w w'))
 case atStart => exact ⟨(y508), (1), (0), xs, xs, H', ⟨Nat.le_refl _⟩, ⟨xR HO510.out⟩, ⟨xB HB.out⟩⟩
 case round =>
  clear H'
  try clear c1
  obtain ⟨x7_1, x8_1, x22_1, rfl, rfl, HA, HK1, HO_7, HB⟩ := hrel
  cases gk with
  | zero => exact absurd HA.out (by simp [impl_exactChain.l0])
  | succ k1 =>
   have H := HA.out
   clear HA
   simp only [impl_exactChain.l0] at H
   by_cases c7 : x22_1 < (l1.length : Int)
   ·rw [if_pos c7] at H
    have c7b0 : decide (x22_1 < (l1.length : Int)) = true := decide_eq_true c7
    clear c7
    by_cases c8 : 0 ≤ x22_1
    rotate_left
    ·rw [if_neg c8] at H
     exact absurd H (by simp)
    rw [if_pos c8] at H
    have c8b0 : decide (0 ≤ x22_1) = true := decide_eq_true c8
    clear c8
    by_cases c9 : x22_1 < (l1.length : Int)
    rotate_left
    ·rw [if_neg c9] at H
     exact absurd H (by simp)
    rw [if_pos c9] at H
    have c9b0 : decide (x22_1 < (l1.length : Int)) = true := decide_eq_true c9
    clear c9
    by_cases c10 : 0 ≤ t507
    rotate_left
    ·rw [if_neg c10] at H
     exact absurd H (by simp)
    rw [if_pos c10] at H
    have c10b0 := eq_true c10
    have c10b1 : decide (0 ≤ t507) = true := decide_eq_true c10
    clear c10
    obtain ⟨ji11, hji11⟩ : ∃ j_ : Int, (shl .i64 x8_1 t507) = j_ := ⟨_, rfl⟩
    (first | rw [hji11] at H | simp only [hji11] at H)
    obtain ⟨hji11_, hji11z, hji11y, hji11x⟩ := xSh hji11
    obtain ⟨t512, A12, H⟩ := xO H
    (try dsimp only at H)
    by_cases c13 : t512 = true
    rotate_left
    ·replace c13 := Bool.eq_false_iff.mpr c13
     subst c13
     rw [if_neg (show ¬ (false = true) by decide)] at H
     simp only [Option.some.injEq, Prod.mk.injEq] at H
     obtain ⟨rfl, rfl⟩ := H
     have p511 : 0 ≤ (x22_1 : Int) := of_decide_eq_true (by first | (with_reducible assumption) | assumption)
     have q511 : x22_1 < (l1.length : Int) := of_decide_eq_true (by first | (with_reducible assumption) | assumption)
     obtain ⟨ad511, e511, hx511_0⟩ := Kd.at_int HR1.out x22_1 p511 q511
     cases e511
     replace hx511_0 := (HB.out.cell (World.block_lt_of_cell? w _ hx511_0)).trans hx511_0
     replace p511 := eq_true p511
     replace q511 := eq_true q511
     go_wp2_with (first | ((with_reducible refine gate_callee (f := 262) rfl ?_); refine goesL_ (some 30) rfl rfl Try.func262 (by kernel_rfl) rfl #[.int .i64 ji11] rfl (by (try simp only [List.map_toArray, List.map_cons, List.map_nil]); first | done | (simp only [hji11]; rfl) | rfl | (simp only [List.length_drop, List.length_take]; rfl)) ?_; (with_reducible refine (impl_isNumber.calls ji11 false _ A12.out).mono ?_); rintro e w' ⟨rfl, ⟨nd, rfl⟩⟩; refine ⟨_, rfl, ?_⟩))
     go_ret2
     exact ⟨_, by first | rfl | (simp [errW_none, errW_some] <;> rfl) | (simp only [← hji11]; first | rfl | (simp [errW_none, errW_some] <;> rfl)) | (simp [*, errW_none, errW_some] <;> rfl), by first | exact Kd.R_nil _ _ _ _ _ | exact Kd.N_nil _ _ _ _ _ | exact Kd.V_nil _ _ _ _ _ | exact Kd.Q_nil _ _ _ _ _ | exact Kd.S_nil _ _ _ _ _, xB HB.out⟩
    subst c13
    rw [if_pos rfl] at H
    by_cases c14 : x7_1.length < 17592186044416
    rotate_left
    ·rw [if_neg c14] at H
     exact absurd H (by simp)
    rw [if_pos c14] at H
    have LMc14 := xA c14
    clear c14
    obtain ⟨y513, hy513⟩ : ∃ y_ : List Int, y_ = (x7_1 ++ [wrap64 ((rd l1 x22_1) * (ji11))]) := ⟨_, rfl⟩
    replace H : (impl_exactChain.l0 k1 l0 t507 y513 ji11 l1 (l1.length : Int) (wrap64 (x22_1 + 1))) = some (r1, r2) := by first | (rw [hy513]; with_reducible exact H) | (have H2_ := (Option.bind_some _ _).symm.trans H; rw [hy513]; with_reducible exact H2_) | (have H2_ := (Option.bind_some _ _).symm.trans H; with_reducible exact H2_) | with_reducible exact H | (rw [hy513]; exact H) | exact H
    have Ny513 := xA hy513
    clear hy513
    have H' := xA H
    clear H
    have p511 : 0 ≤ (x22_1 : Int) := of_decide_eq_true (by first | (with_reducible assumption) | assumption)
    have q511 : x22_1 < (l1.length : Int) := of_decide_eq_true (by first | (with_reducible assumption) | assumption)
    obtain ⟨ad511, e511, hx511_0⟩ := Kd.at_int HR1.out x22_1 p511 q511
    cases e511
    replace hx511_0 := (HB.out.cell (World.block_lt_of_cell? w _ hx511_0)).trans hx511_0
    replace p511 := eq_true p511
    replace q511 := eq_true q511
    go_wp2_with (first | ((with_reducible refine gate_callee (f := 262) rfl ?_); refine goesL_ (some 30) rfl rfl Try.func262 (by kernel_rfl) rfl #[.int .i64 ji11] rfl (by (try simp only [List.map_toArray, List.map_cons, List.map_nil]); first | done | (simp only [hji11]; rfl) | rfl | (simp only [List.length_drop, List.length_take]; rfl)) ?_; (with_reducible refine (impl_isNumber.calls ji11 true _ A12.out).mono ?_); rintro e w' ⟨rfl, ⟨nd, rfl⟩⟩; refine ⟨_, rfl, ?_⟩) | ((with_reducible refine gate_builtin (b := .append) (xs := #[.tmp 32, .tmp 36]) rfl ?_); at_builtin; refine Kd.R_append (Kd.int .i64) (w0 := w) w.heap.size rfl (.tmp 32) (.tmp 36) 24 3 (.int .i64 0) 8 rfl Try.underlying24 info3 rfl (by decide) (by omega) u7 x7_1 (wrap64 ((rd l1 x22_1) * (ji11))) [.int .i64 (wrap64 ((rd l1 x22_1) * (ji11)))] (fun _ => True) (fun _ => False) rfl rfl ?aP (fun _ hk => hk.elim) ?aF ?aO ?aB ?aS ?aL ?_; (case aP => exact rfl); (case aB => exact (xB HB.out)); (case aF => exact (fun _ _ => trivial)); (case aO => exact (xR HO_7.out)); (case aS => exact (below_size (xB HB.out))); (case aL => have := LMc14.out; omega); intro v514 w15 ho hb hg hat; rw [← Ny513.out] at ho; replace HB := xA (hb); have HO515 := xA (ho); clear HO_7; clear ho hb hg hat))
    go_roundg k1
    case measure => have := HK1.out; omega
    case rel => exact ⟨(y513), (ji11), (wrap64 (x22_1 + 1)), (by first | rfl | (simp; done) | (simp only [← hji11] <;> (first | rfl | simp)) | (simp [*]; done)), xs, H', ⟨by have := HK1.out; omega⟩, ⟨xR HO515.out⟩, ⟨xB HB.out⟩⟩
   rw [if_neg c7] at H
   have c7b0 : decide (x22_1 < (l1.length : Int)) = false := decide_eq_false c7
   clear c7
   have H' := xA H
   clear H
   go_wp2
   go_loopg [41] k1 (fun kq v41 w' => ∃ (x7_2 : List Int) (x41_2 : Int), v41 = .int .i64 x41_2 ∧ Aside0 (impl_exactChain.l1 kq t507 x7_2 l0 (l0.length : Int) x41_2 = some (r1, r2)) ∧ Aside0 (kq ≤ k1) ∧ Aside0 (Kd.R (Kd.int .i64) 3 w' w.heap.size (fun _ => True) u7 x7_2) ∧ Aside0 (Below w.heap.size w w'))
   case atStart => exact ⟨(x7_1), (0), xs, H', ⟨Nat.le_refl _⟩, ⟨xR HO_7.out⟩, ⟨xB HB.out⟩⟩
   case round =>
    clear H'
    try clear c7b0
    obtain ⟨x7_2, x41_2, rfl, HA, HK2, HO_7, HB⟩ := hrel
    cases gk with
    | zero => exact absurd HA.out (by simp [impl_exactChain.l1])
    | succ k2 =>
     have H := HA.out
     clear HA
     simp only [impl_exactChain.l1] at H
     by_cases c16 : x41_2 < (l0.length : Int)
     rotate_left
     ·rw [if_neg c16] at H
      have c16b0 : decide (x41_2 < (l0.length : Int)) = false := decide_eq_false c16
      clear c16
      simp only [Option.some.injEq, Prod.mk.injEq] at H
      obtain ⟨rfl, rfl⟩ := H
      go_wp2
      go_ret2
      exact ⟨_, xr, xR HO_7.out, xB HB.out⟩

     rw [if_pos c16] at H
     have c16b0 : decide (x41_2 < (l0.length : Int)) = true := decide_eq_true c16
     clear c16
     by_cases c17 : 0 ≤ x41_2
     rotate_left
     ·rw [if_neg c17] at H
      exact absurd H (by simp)
     rw [if_pos c17] at H
     have c17b0 : decide (0 ≤ x41_2) = true := decide_eq_true c17
     clear c17
     by_cases c18 : x41_2 < (l0.length : Int)
     rotate_left
     ·rw [if_neg c18] at H
      exact absurd H (by simp)
     rw [if_pos c18] at H
     have c18b0 : decide (x41_2 < (l0.length : Int)) = true := decide_eq_true c18
     clear c18
     have H' := xA H
     clear H
     have p516 : 0 ≤ (x41_2 : Int) := of_decide_eq_true (by first | (with_reducible assumption) | assumption)
     have q516 : x41_2 < (l0.length : Int) := of_decide_eq_true (by first | (with_reducible assumption) | assumption)
     obtain ⟨ad516, e516, hx516_0, hx516_1, hx516_2, hx516_3, hx516_4⟩ := at_T62 HR0.out x41_2 p516 q516
     cases e516
     replace hx516_0 := (HB.out.cell (World.block_lt_of_cell? w _ hx516_0)).trans hx516_0
     replace hx516_1 := (HB.out.cell (World.block_lt_of_cell? w _ hx516_1)).trans hx516_1
     replace hx516_2 := (HB.out.cell (World.block_lt_of_cell? w _ hx516_2)).trans hx516_2
     replace hx516_3 := (HB.out.cell (World.block_lt_of_cell? w _ hx516_3)).trans hx516_3
     replace hx516_4 := (HB.out.cell (World.block_lt_of_cell? w _ hx516_4)).trans hx516_4
     replace p516 := eq_true p516
     replace q516 := eq_true q516
     go_wp2_with (first | (refine xg 12 rfl ?_; refine xV 12 #[.int .i64 0, .int .i64 0, .int .i64 0, .int .i64 0, .bool false] 62 ?_; intro gb517 hg w19 hbox hb; replace HO_7 := xA (Kd.R_below (xR HO_7.out) hb); have BK517 := xA (hbox); have GW517 := xgw hg (below_size (xB HB.out)); have GE517 := GW517; replace HB := xA (below_step (xB HB.out) hb); clear hb hbox hg; obtain ⟨hcz20_0, hcz20_1, hcz20_2, hcz20_3, hcz20_4, hfz20_0, hfz20_1, hfz20_2, hfz20_3, hfz20_4⟩ := xZ5 BK517.out; obtain ⟨Ao21, co21, eo21⟩ := Kd.R_slice HO_7.out; subst eo21))
     go_loopg [13, 47] k2 (fun kq v13 v47 w' => ∃ (x7_3 : List Int) (x13_3 : Int) (x47_3 : Int), v13 = .int .i64 x13_3 ∧ v47 = .int .i64 x47_3 ∧ Aside0 (impl_exactChain.l2 kq t507 x7_3 x13_3 l0 (l0.length : Int) x41_2 (x7_2.length : Int) x47_3 ((rd_T62 l0 x41_2).f0) ((rd_T62 l0 x41_2).f1) ((rd_T62 l0 x41_2).f2) ((rd_T62 l0 x41_2).f3.f0) ((rd_T62 l0 x41_2).f3.f1) = some (r1, r2)) ∧ Aside0 (kq ≤ k2) ∧ Aside0 (Kd.R (Kd.int .i64) 3 w' w.heap.size (fun _ => True) (.slice Ao21 x7_2.length co21) x7_3) ∧ Aside0 (w'.heap[gb517]? = some (.cells #[.int .i64 ((rd_T62 l0 x41_2).f0), .int .i64 ((rd_T62 l0 x41_2).f1), .int .i64 ((rd_T62 l0 x41_2).f2), .int .i64 ((rd_T62 l0 x41_2).f3.f0), .bool ((rd_T62 l0 x41_2).f3.f1)] 62 (0, 0))) ∧ Aside0 (Below w.heap.size w w'))
     case atStart => exact ⟨(x7_2), (0), (0), xs, xs, H', ⟨Nat.le_refl _⟩, ⟨by (with_reducible repeat (first | apply Kd.R_alloc | apply Kd.R_drewN | apply Kd.R_drew)); exact Kd.R_mono (Kd.R_far (p := ⟨gb517, 4, none⟩) (Kd.R_far (p := ⟨gb517, 3, none⟩) (Kd.R_far (p := ⟨gb517, 2, none⟩) (Kd.R_far (p := ⟨gb517, 1, none⟩) (Kd.R_far (p := ⟨gb517, 0, none⟩) (Kd.R_types HO_7.out BK517.out (by decide)) (fun _ hk => hk.2) (.int .i64 ((rd_T62 l0 x41_2).f0))) (fun _ hk => hk.2) (.int .i64 ((rd_T62 l0 x41_2).f1))) (fun _ hk => hk.2) (.int .i64 ((rd_T62 l0 x41_2).f2))) (fun _ hk => hk.2) (.int .i64 ((rd_T62 l0 x41_2).f3.f0))) (fun _ hk => hk.2) (.bool ((rd_T62 l0 x41_2).f3.f1))) (fun _ hk => trivial)⟩, ⟨by (with_reducible repeat (first | refine blk_drewN ?_ _ | refine blk_drew ?_ | refine blk_alloc ?_ _)); refine blk_put (cs := #[.int .i64 ((rd_T62 l0 x41_2).f0), .int .i64 ((rd_T62 l0 x41_2).f1), .int .i64 ((rd_T62 l0 x41_2).f2), .int .i64 ((rd_T62 l0 x41_2).f3.f0), .bool false]) ?_ 4 _ rfl; (with_reducible repeat (first | refine blk_drewN ?_ _ | refine blk_drew ?_ | refine blk_alloc ?_ _)); refine blk_put (cs := #[.int .i64 ((rd_T62 l0 x41_2).f0), .int .i64 ((rd_T62 l0 x41_2).f1), .int .i64 ((rd_T62 l0 x41_2).f2), .int .i64 0, .bool false]) ?_ 3 _ rfl; (with_reducible repeat (first | refine blk_drewN ?_ _ | refine blk_drew ?_ | refine blk_alloc ?_ _)); refine blk_put (cs := #[.int .i64 ((rd_T62 l0 x41_2).f0), .int .i64 ((rd_T62 l0 x41_2).f1), .int .i64 0, .int .i64 0, .bool false]) ?_ 2 _ rfl; (with_reducible repeat (first | refine blk_drewN ?_ _ | refine blk_drew ?_ | refine blk_alloc ?_ _)); refine blk_put (cs := #[.int .i64 ((rd_T62 l0 x41_2).f0), .int .i64 0, .int .i64 0, .int .i64 0, .bool false]) ?_ 1 _ rfl; (with_reducible repeat (first | refine blk_drewN ?_ _ | refine blk_drew ?_ | refine blk_alloc ?_ _)); refine blk_put (cs := #[.int .i64 0, .int .i64 0, .int .i64 0, .int .i64 0, .bool false]) ?_ 0 _ rfl; (with_reducible repeat (first | refine blk_drewN ?_ _ | refine blk_drew ?_ | refine blk_alloc ?_ _)); exact BK517.out⟩, ⟨xB1 GE517.out HB.out⟩⟩
     case round =>
      clear H'
      try clear c16b0
      try clear c17b0
      try clear c18b0
      try clear hcz20_0
      try clear hcz20_1
      try clear hcz20_2
      try clear hcz20_3
      try clear hcz20_4
      try clear hfz20_0
      try clear hfz20_1
      try clear hfz20_2
      try clear hfz20_3
      try clear hfz20_4
      try clear hx516_0
      try clear hx516_1
      try clear hx516_2
      try clear hx516_3
      try clear hx516_4
      try clear p516
      try clear q516
      obtain ⟨x7_3, x13_3, x47_3, rfl, rfl, HA, HK3, HO_7, BK517, HB⟩ := hrel
      have hl7_3 := (Kd.R_reads' HO_7.out).1
      rw [hl7_3] at HO_7
      (try simp only [hl7_3])
      (try simp only [hl7_3] at BK517)
      cases gk with
      | zero => exact absurd HA.out (by simp [impl_exactChain.l2])
      | succ k3 =>
       have H := HA.out
       clear HA
       simp only [impl_exactChain.l2] at H
       by_cases c22 : x47_3 < (x7_2.length : Int)
       rotate_left
       ·rw [if_neg c22] at H
        have c22b0 : decide (x47_3 < (x7_2.length : Int)) = false := decide_eq_false c22
        (try (have c22b5 := c22b0; rw [hl7_3] at c22b5))
        clear c22
        have H' := xA H
        clear H
        go_wp2
        (try simp only [← hl7_3])
        go_roundg k3
        case measure => have := HK1.out; have := HK2.out; have := HK3.out; omega
        case rel => exact ⟨(x7_3), (wrap64 (x41_2 + 1)), xs, H', ⟨by have := HK1.out; have := HK2.out; have := HK3.out; omega⟩, ⟨by (try simp only [hl7_3]); (with_reducible repeat (first | apply Kd.R_alloc | apply Kd.R_drewN | apply Kd.R_drew)); exact HO_7.out⟩, ⟨xB1 GE517.out HB.out⟩⟩
       rw [if_pos c22] at H
       have c22b0 : decide (x47_3 < (x7_2.length : Int)) = true := decide_eq_true c22
       (try (have c22b5 := c22b0; rw [hl7_3] at c22b5))
       clear c22
       by_cases c23 : 0 ≤ x47_3
       rotate_left
       ·rw [if_neg c23] at H
        exact absurd H (by simp)
       rw [if_pos c23] at H
       have c23b0 : decide (0 ≤ x47_3) = true := decide_eq_true c23
       clear c23
       by_cases c24 : x47_3 < (x7_3.length : Int)
       rotate_left
       ·rw [if_neg c24] at H
        exact absurd H (by simp)
       rw [if_pos c24] at H
       have c24b0 : decide (x47_3 < (x7_3.length : Int)) = true := decide_eq_true c24
       (try (have c24b5 := c24b0; rw [hl7_3] at c24b5))
       clear c24
       have HC25 := xA H
       clear H
       have p518 : 0 ≤ (x47_3 : Int) := of_decide_eq_true (by first | (with_reducible assumption) | assumption)
       have q518 : x47_3 < (x7_3.length : Int) := of_decide_eq_true (by first | (with_reducible assumption) | assumption)
       obtain ⟨ad518, e518, hx518_0⟩ := Kd.at_int (Kd.R_reads' HO_7.out).2.2 x47_3 p518 q518
       cases e518
       replace p518 := eq_true p518
       replace q518 := eq_true q518
       go_upto_region 17 with (fail)
       go_cut [57] from 48 to 51 (fun v57 wc => ∃ (kq : Nat) (x57_24 : Bool), v57 = .bool x57_24 ∧ Aside0 (impl_exactChain.j3 kq t507 x7_3 x13_3 x47_3 (rd x7_3 x47_3) l0 (l0.length : Int) x41_2 (x7_2.length : Int) x47_3 x57_24 ((rd_T62 l0 x41_2).f0) ((rd_T62 l0 x41_2).f1) ((rd_T62 l0 x41_2).f2) ((rd_T62 l0 x41_2).f3.f0) ((rd_T62 l0 x41_2).f3.f1) = some (r1, r2)) ∧ Aside0 (kq ≤ k3) ∧ Aside0 (Kd.R (Kd.int .i64) 3 wc w.heap.size (fun _ => True) (.slice (some ad518) x7_3.length co21) x7_3) ∧ Aside0 (wc.heap[gb517]? = some (.cells #[.int .i64 ((rd_T62 l0 x41_2).f0), .int .i64 ((rd_T62 l0 x41_2).f1), .int .i64 ((rd_T62 l0 x41_2).f2), .int .i64 ((rd_T62 l0 x41_2).f3.f0), .bool ((rd_T62 l0 x41_2).f3.f1)] 62 (0, 0))) ∧ Aside0 (Below w.heap.size w wc))
       case first => as_aux_lemma =>
        have H := HC25.out
        clear HC25
        by_cases c26 : x47_3 > 0
        rotate_left
        ·rw [if_neg c26] at H
         have c26b0 : decide (0 < x47_3) = false := decide_eq_false c26
         clear c26
         (first | rw [c26b0] | (simp only [i64_w, i32_w]; rw [c26b0]) | skip)
         have H' := xA H
         clear H
         go_wp2
         go_meet
         case rel => exact ⟨_, (false), xs, H', ⟨by have := HK1.out; have := HK2.out; have := HK3.out; first | omega | exact Nat.le_refl _⟩, ⟨by (try simp only [hl7_3]); (with_reducible repeat (first | apply Kd.R_alloc | apply Kd.R_drewN | apply Kd.R_drew)); exact HO_7.out⟩, ⟨by (try simp only [hl7_3]); (with_reducible repeat (first | refine blk_drewN ?_ _ | refine blk_drew ?_ | refine blk_alloc ?_ _)); exact BK517.out⟩, ⟨xB1 GE517.out HB.out⟩⟩
        rw [if_pos c26] at H
        have c26b0 : decide (0 < x47_3) = true := decide_eq_true c26
        clear c26
        (first | rw [c26b0] | (simp only [i64_w, i32_w]; rw [c26b0]) | skip)
        have H' := xA H
        clear H
        go_wp2
        go_meet
        case rel => exact ⟨_, ((x13_3 != 0)), xs, H', ⟨by have := HK1.out; have := HK2.out; have := HK3.out; first | omega | exact Nat.le_refl _⟩, ⟨by (try simp only [hl7_3]); (with_reducible repeat (first | apply Kd.R_alloc | apply Kd.R_drewN | apply Kd.R_drew)); exact HO_7.out⟩, ⟨by (try simp only [hl7_3]); (with_reducible repeat (first | refine blk_drewN ?_ _ | refine blk_drew ?_ | refine blk_alloc ?_ _)); exact BK517.out⟩, ⟨xB1 GE517.out HB.out⟩⟩
       case rest => as_aux_lemma =>
        clear HC25
        try clear c22b0
        try clear c23b0
        try clear c24b0
        try clear hx518_0
        try clear p518
        try clear q518
        obtain ⟨kq, x57_24, rfl, HA, HJ24, HO_7, BK517, HB⟩ := hcut
        cases kq with
        | zero => exact absurd HA.out (by simp [impl_exactChain.j3])
        | succ kj24 =>
         have H := HA.out
         clear HA
         simp only [impl_exactChain.j3] at H
         by_cases c27 : x57_24 = true
         rotate_left
         ·replace c27 := Bool.eq_false_iff.mpr c27
          subst c27
          rw [if_neg (show ¬ (false = true) by decide)] at H
          obtain ⟨t523, A51, H⟩ := xO H
          (try dsimp only at H)
          by_cases c52 : t523 = true
          rotate_left
          ·replace c52 := Bool.eq_false_iff.mpr c52
           subst c52
           rw [if_neg (show ¬ (false = true) by decide)] at H
           simp only [Option.some.injEq, Prod.mk.injEq] at H
           obtain ⟨rfl, rfl⟩ := H
           go_wp2_with (first | (refine xG (some 77) Try.func262 #[.int .i64 (rd x7_3 x47_3)] ?_; (with_reducible refine (impl_isNumber.calls (rd x7_3 x47_3) false _ A51.out).mono ?_); rintro e w' ⟨rfl, ⟨nd, rfl⟩⟩; refine ⟨_, rfl, ?_⟩))
           go_ret2
           exact ⟨_, xr, by first | exact Kd.R_nil _ _ _ _ _ | exact Kd.N_nil _ _ _ _ _ | exact Kd.V_nil _ _ _ _ _ | exact Kd.Q_nil _ _ _ _ _ | exact Kd.S_nil _ _ _ _ _, xB1 GE517.out HB.out⟩
          subst c52
          rw [if_pos rfl] at H
          by_cases c53 : 0 ≤ x47_3
          rotate_left
          ·rw [if_neg c53] at H
           exact absurd H (by simp)
          rw [if_pos c53] at H
          have c53b0 : decide (0 ≤ x47_3) = true := decide_eq_true c53
          clear c53
          by_cases c54 : x47_3 < (x7_3.length : Int)
          rotate_left
          ·rw [if_neg c54] at H
           exact absurd H (by simp)
          rw [if_pos c54] at H
          have c54b0 : decide (x47_3 < (x7_3.length : Int)) = true := decide_eq_true c54
          (try (have c54b5 := c54b0; rw [hl7_3] at c54b5))
          clear c54
          obtain ⟨y524, hy524⟩ : ∃ y_ : List Int, y_ = (x7_3.set (x47_3 : Int).toNat (rd x7_3 x47_3)) := ⟨_, rfl⟩
          replace H : (impl_exactChain.l2 kj24 t507 y524 (rd x7_3 x47_3) l0 (l0.length : Int) x41_2 (x7_2.length : Int) (wrap64 (x47_3 + 1)) ((rd_T62 l0 x41_2).f0) ((rd_T62 l0 x41_2).f1) ((rd_T62 l0 x41_2).f2) ((rd_T62 l0 x41_2).f3.f0) ((rd_T62 l0 x41_2).f3.f1)) = some (r1, r2) := by first | (rw [hy524]; with_reducible exact H) | (have H2_ := (Option.bind_some _ _).symm.trans H; rw [hy524]; with_reducible exact H2_) | (have H2_ := (Option.bind_some _ _).symm.trans H; with_reducible exact H2_) | with_reducible exact H | (rw [hy524]; exact H) | exact H
          have Ny524 := xA hy524
          clear hy524
          have H' := xA H
          clear H
          go_wp2_with (first | (refine xG (some 77) Try.func262 #[.int .i64 (rd x7_3 x47_3)] ?_; (with_reducible refine (impl_isNumber.calls (rd x7_3 x47_3) true _ A51.out).mono ?_); rintro e w' ⟨rfl, ⟨nd, rfl⟩⟩; refine ⟨_, rfl, ?_⟩; (try (rw [drewN_self wc]; generalize hq_ : World.drewN wc _ = wc; have n0_ : Aside0 (Kd.R (Kd.int .i64) 3 wc w.heap.size (fun _ => True) (.slice (some ad518) x7_3.length co21) x7_3) := ⟨by rw [← hq_]; exact (xR HO_7.out)⟩; have n1_ : Aside0 (wc.heap[gb517]? = some (.cells #[.int .i64 ((rd_T62 l0 x41_2).f0), .int .i64 ((rd_T62 l0 x41_2).f1), .int .i64 ((rd_T62 l0 x41_2).f2), .int .i64 ((rd_T62 l0 x41_2).f3.f0), .bool ((rd_T62 l0 x41_2).f3.f1)] 62 (0, 0))) := ⟨by rw [← hq_]; exact (xK BK517.out)⟩; have n2_ : Aside0 (Below w.heap.size w wc) := ⟨by rw [← hq_]; exact (xB1 GE517.out HB.out)⟩; clear HO_7 BK517 HB hq_; have HO_7 := n0_; have BK517 := n1_; have HB := n2_; clear n0_ n1_ n2_)); have p55 : 0 ≤ (x47_3 : Int) := of_decide_eq_true (by first | (with_reducible assumption) | assumption); have q55 : (x47_3 : Int) < ((x7_3.length : Int) : Int) := of_decide_eq_true (by first | (with_reducible assumption) | assumption); obtain ⟨go55, co55, eo55, gb55, gl55, cl55, HG55⟩ := Kd.R_form HO_7.out (by omega); (first | cases eo55 | (injection eo55 with ea_ en_ ec_; (first | subst ea_ | (injection ea_ with ea_; subst ea_)); subst ec_; clear en_)); have GB55 := xA gb55; have GG55 := xA HG55; clear gb55 gl55 HG55; obtain ⟨hx55_0, hf55_0⟩ := Kd.R_celln 0 HO_7.out (x47_3 : Int) p55 q55; replace p55 := eq_true p55; replace q55 := eq_true q55; obtain ⟨hy56_, hz56_⟩ := Kd.R_celln 0 HO_7.out (x47_3 : Int) (of_decide_eq_true (by first | (with_reducible assumption) | assumption)) (of_decide_eq_true (by first | (with_reducible assumption) | assumption)); have HP56 := Kd.R_putg HO_7.out (x47_3 : Int) (rd x7_3 x47_3)) | ((with_reducible refine gate_store (t := 3) (p := 83) rfl ?_); refine store_event (t := 3) (p := 83) (v := ?vo_w57) (w1 := (wc.setCell ⟨go55, (x47_3 : Int).toNat, none⟩ (.int .i64 (rd x7_3 x47_3)))) ?hg ?ho ?hn ?hr ?_; (case ho => rfl); (case hg => rfl); (case hn => rfl); (case hr => first | (go_simp; done) | (go_simp; rfl)); intro w57 hw; have hg : wc.grownBy w57 (some go55) := (by rw [hw]; exact HP56.2); have hp_ : Kd.R (Kd.int .i64) 3 w57 w.heap.size (fun _ => True) (.slice (some ⟨go55, 0, none⟩) x7_3.length co21) y524 := (by rw [hw, Ny524.out]; exact HP56.1); clear HP56; replace BK517 := xA (blk_grown (xK BK517.out) hg (Kd.R_ne HO_7.out BK517.out (by decide))); replace HO_7 := xA (hp_); replace HB := xA ((by rw [hw]; exact below_set (HB.out) GB55.out : Below w.heap.size w w57)); clear hg hw hp_))
          (try simp only [← hl7_3])
          go_roundg kj24
          case measure => have := HK1.out; have := HK2.out; have := HK3.out; have := HJ24.out; omega
          case rel => exact ⟨(y524), ((rd x7_3 x47_3)), (wrap64 (x47_3 + 1)), xs, xs, H', ⟨by have := HK1.out; have := HK2.out; have := HK3.out; have := HJ24.out; omega⟩, ⟨by (try simp only [hl7_3]); (with_reducible repeat (first | apply Kd.R_alloc | apply Kd.R_drewN | apply Kd.R_drew)); exact HO_7.out⟩, ⟨by (try simp only [hl7_3]); (with_reducible repeat (first | refine blk_drewN ?_ _ | refine blk_drew ?_ | refine blk_alloc ?_ _)); exact BK517.out⟩, ⟨xB1 GE517.out HB.out⟩⟩
         subst c27
         rw [if_pos rfl] at H
         obtain ⟨ji28, hji28⟩ : ∃ j_ : Int, (wrap64 (t507 - ((rd_T62 l0 x41_2).f1))) = j_ := ⟨_, rfl⟩
         (first | rw [hji28] at H | simp only [hji28] at H)
         have hji28w : (IntKind.i64.wrap (t507 - ((rd_T62 l0 x41_2).f1))) = ji28 := (i64_w _).trans hji28
         by_cases c29 : 0 ≤ (ji28)
         rotate_left
         ·rw [if_neg c29] at H
          exact absurd H (by simp)
         rw [if_pos c29] at H
         have c29b0 := eq_true c29
         have c29b1 : decide (0 ≤ (ji28)) = true := decide_eq_true c29
         clear c29
         obtain ⟨ji30, hji30⟩ : ∃ j_ : Int, (shl .i64 ((rd_T62 l0 x41_2).f0) (ji28)) = j_ := ⟨_, rfl⟩
         (first | rw [hji30] at H | simp only [hji30] at H)
         obtain ⟨hji30_, hji30z, hji30y, hji30x⟩ := xSh hji30
         obtain ⟨t519, A31, H⟩ := xO H
         (try dsimp only at H)
         obtain ⟨t520, A32, H⟩ := xO H
         (try dsimp only at H)
         by_cases c33 : t520 = 0
         ·rw [if_pos c33] at H
          exact absurd H (by simp)
         rw [if_neg c33] at H
         have c33b0 : (t520 == 0) = false := beq_eq_false_iff_ne.mpr c33
         have c33b1 : (t520 != 0) = true := bne_iff_ne.mpr c33
         by_cases c34 : t519 > (wrap64 (Int.tdiv 400000000000000000 t520))
         ·rw [if_pos c34] at H
          have c34b0 : decide ((wrap64 (Int.tdiv 400000000000000000 t520)) < t519) = true := decide_eq_true c34
          clear c34
          simp only [Option.some.injEq, Prod.mk.injEq] at H
          obtain ⟨rfl, rfl⟩ := H
          replace hz517 := blk_cell BK517.out; replace hy517 := blk_frozen BK517.out
          go_wp2_with (first | ((with_reducible refine gate_callee (f := 272) rfl ?_); refine goesL_ (some 66) rfl rfl Try.func272 (by kernel_rfl) rfl #[.int .i64 ji30] rfl (by (try simp only [List.map_toArray, List.map_cons, List.map_nil]); first | done | (simp only [hji30]; rfl) | rfl | (simp only [List.length_drop, List.length_take]; rfl)) ?_; (with_reducible refine (impl_size.calls ji30 t519 _ A31.out).mono ?_); rintro e w36 ⟨rfl, hb⟩; refine ⟨_, rfl, ?_⟩; replace HO_7 := xA (Kd.R_below (xR HO_7.out) hb); replace BK517 := xkb BK517 hb; replace HB := xA (below_step (xB1 GE517.out HB.out) hb); (try clear hb)) | ((with_reducible refine gate_callee (f := 272) rfl ?_); refine goesL_ (some 68) rfl rfl Try.func272 (by kernel_rfl) rfl #[.int .i64 x13_3] rfl (by (try simp only [List.map_toArray, List.map_cons, List.map_nil]); first | done | rfl | (simp only [List.length_drop, List.length_take]; rfl)) ?_; (with_reducible refine (impl_size.calls x13_3 t520 _ A32.out).mono ?_); rintro e w37 ⟨rfl, hb⟩; refine ⟨_, rfl, ?_⟩; replace HO_7 := xA (Kd.R_below (xR HO_7.out) hb); replace BK517 := xkb BK517 hb; replace HB := xA (below_step (xB1 GE517.out HB.out) hb); (try clear hb)))
          go_ret2
          exact ⟨_, by first | rfl | (simp [errW_none, errW_some] <;> rfl) | (simp only [← hji28, ← hji30]; first | rfl | (simp [errW_none, errW_some] <;> rfl)) | (simp [*, errW_none, errW_some] <;> rfl), by first | exact Kd.R_nil _ _ _ _ _ | exact Kd.N_nil _ _ _ _ _ | exact Kd.V_nil _ _ _ _ _ | exact Kd.Q_nil _ _ _ _ _ | exact Kd.S_nil _ _ _ _ _, xB1 GE517.out HB.out⟩
         rw [if_neg c34] at H
         have c34b0 : decide ((wrap64 (Int.tdiv 400000000000000000 t520)) < t519) = false := decide_eq_false c34
         clear c34
         obtain ⟨t521, A38, H⟩ := xO H
         (try dsimp only at H)
         by_cases c39 : t521 = true
         rotate_left
         ·replace c39 := Bool.eq_false_iff.mpr c39
          subst c39
          rw [if_neg (show ¬ (false = true) by decide)] at H
          simp only [Option.some.injEq, Prod.mk.injEq] at H
          obtain ⟨rfl, rfl⟩ := H
          replace hz517 := blk_cell BK517.out; replace hy517 := blk_frozen BK517.out
          go_wp2_with (first | ((with_reducible refine gate_callee (f := 272) rfl ?_); refine goesL_ (some 66) rfl rfl Try.func272 (by kernel_rfl) rfl #[.int .i64 ji30] rfl (by (try simp only [List.map_toArray, List.map_cons, List.map_nil]); first | done | (simp only [hji30]; rfl) | rfl | (simp only [List.length_drop, List.length_take]; rfl)) ?_; (with_reducible refine (impl_size.calls ji30 t519 _ A31.out).mono ?_); rintro e w49 ⟨rfl, hb⟩; refine ⟨_, rfl, ?_⟩; replace HO_7 := xA (Kd.R_below (xR HO_7.out) hb); replace BK517 := xkb BK517 hb; replace HB := xA (below_step (xB1 GE517.out HB.out) hb); (try clear hb)) | ((with_reducible refine gate_callee (f := 272) rfl ?_); refine goesL_ (some 68) rfl rfl Try.func272 (by kernel_rfl) rfl #[.int .i64 x13_3] rfl (by (try simp only [List.map_toArray, List.map_cons, List.map_nil]); first | done | rfl | (simp only [List.length_drop, List.length_take]; rfl)) ?_; (with_reducible refine (impl_size.calls x13_3 t520 _ A32.out).mono ?_); rintro e w50 ⟨rfl, hb⟩; refine ⟨_, rfl, ?_⟩; replace HO_7 := xA (Kd.R_below (xR HO_7.out) hb); replace BK517 := xkb BK517 hb; replace HB := xA (below_step (xB1 GE517.out HB.out) hb); (try clear hb)) | ((with_reducible refine gate_callee (f := 262) rfl ?_); refine goesL_ (some 77) rfl rfl Try.func262 (by kernel_rfl) rfl #[.int .i64 (wrap64 ((rd x7_3 x47_3) + (wrap64 ((ji30) * x13_3))))] rfl (by (try simp only [List.map_toArray, List.map_cons, List.map_nil]); first | done | (simp only [hji30]; rfl) | rfl | (simp only [List.length_drop, List.length_take]; rfl)) ?_; (with_reducible refine (impl_isNumber.calls (wrap64 ((rd x7_3 x47_3) + (wrap64 ((ji30) * x13_3)))) false _ A38.out).mono ?_); rintro e w' ⟨rfl, ⟨nd, rfl⟩⟩; refine ⟨_, rfl, ?_⟩))
          go_ret2
          exact ⟨_, by first | rfl | (simp [errW_none, errW_some] <;> rfl) | (simp only [← hji28, ← hji30]; first | rfl | (simp [errW_none, errW_some] <;> rfl)) | (simp [*, errW_none, errW_some] <;> rfl), by first | exact Kd.R_nil _ _ _ _ _ | exact Kd.N_nil _ _ _ _ _ | exact Kd.V_nil _ _ _ _ _ | exact Kd.Q_nil _ _ _ _ _ | exact Kd.S_nil _ _ _ _ _, xB1 GE517.out HB.out⟩
         subst c39
         rw [if_pos rfl] at H
         by_cases c40 : 0 ≤ x47_3
         rotate_left
         ·rw [if_neg c40] at H
          exact absurd H (by simp)
         rw [if_pos c40] at H
         have c40b0 : decide (0 ≤ x47_3) = true := decide_eq_true c40
         clear c40
         by_cases c41 : x47_3 < (x7_3.length : Int)
         rotate_left
         ·rw [if_neg c41] at H
          exact absurd H (by simp)
         rw [if_pos c41] at H
         have c41b0 : decide (x47_3 < (x7_3.length : Int)) = true := decide_eq_true c41
         (try (have c41b5 := c41b0; rw [hl7_3] at c41b5))
         clear c41
         obtain ⟨y522, hy522⟩ : ∃ y_ : List Int, y_ = (x7_3.set (x47_3 : Int).toNat (wrap64 ((rd x7_3 x47_3) + (wrap64 ((ji30) * x13_3))))) := ⟨_, rfl⟩
         replace H : (impl_exactChain.l2 kj24 t507 y522 (wrap64 ((rd x7_3 x47_3) + (wrap64 ((ji30) * x13_3)))) l0 (l0.length : Int) x41_2 (x7_2.length : Int) (wrap64 (x47_3 + 1)) ((rd_T62 l0 x41_2).f0) ((rd_T62 l0 x41_2).f1) ((rd_T62 l0 x41_2).f2) ((rd_T62 l0 x41_2).f3.f0) ((rd_T62 l0 x41_2).f3.f1)) = some (r1, r2) := by first | (rw [hy522]; with_reducible exact H) | (have H2_ := (Option.bind_some _ _).symm.trans H; rw [hy522]; with_reducible exact H2_) | (have H2_ := (Option.bind_some _ _).symm.trans H; with_reducible exact H2_) | with_reducible exact H | (rw [hy522]; exact H) | exact H
         have Ny522 := xA hy522
         clear hy522
         have H' := xA H
         clear H
         replace hz517 := blk_cell BK517.out; replace hy517 := blk_frozen BK517.out
         go_wp2_with (first | ((with_reducible refine gate_callee (f := 272) rfl ?_); refine goesL_ (some 66) rfl rfl Try.func272 (by kernel_rfl) rfl #[.int .i64 ji30] rfl (by (try simp only [List.map_toArray, List.map_cons, List.map_nil]); first | done | (simp only [hji30]; rfl) | rfl | (simp only [List.length_drop, List.length_take]; rfl)) ?_; (with_reducible refine (impl_size.calls ji30 t519 _ A31.out).mono ?_); rintro e w44 ⟨rfl, hb⟩; refine ⟨_, rfl, ?_⟩; replace HO_7 := xA (Kd.R_below (xR HO_7.out) hb); replace BK517 := xkb BK517 hb; replace HB := xA (below_step (xB1 GE517.out HB.out) hb); (try clear hb)) | ((with_reducible refine gate_callee (f := 272) rfl ?_); refine goesL_ (some 68) rfl rfl Try.func272 (by kernel_rfl) rfl #[.int .i64 x13_3] rfl (by (try simp only [List.map_toArray, List.map_cons, List.map_nil]); first | done | rfl | (simp only [List.length_drop, List.length_take]; rfl)) ?_; (with_reducible refine (impl_size.calls x13_3 t520 _ A32.out).mono ?_); rintro e w45 ⟨rfl, hb⟩; refine ⟨_, rfl, ?_⟩; replace HO_7 := xA (Kd.R_below (xR HO_7.out) hb); replace BK517 := xkb BK517 hb; replace HB := xA (below_step (xB1 GE517.out HB.out) hb); (try clear hb)) | ((with_reducible refine gate_callee (f := 262) rfl ?_); refine goesL_ (some 77) rfl rfl Try.func262 (by kernel_rfl) rfl #[.int .i64 (wrap64 ((rd x7_3 x47_3) + (wrap64 ((ji30) * x13_3))))] rfl (by (try simp only [List.map_toArray, List.map_cons, List.map_nil]); first | done | (simp only [hji30]; rfl) | rfl | (simp only [List.length_drop, List.length_take]; rfl)) ?_; (with_reducible refine (impl_isNumber.calls (wrap64 ((rd x7_3 x47_3) + (wrap64 ((ji30) * x13_3)))) true _ A38.out).mono ?_); rintro e w' ⟨rfl, ⟨nd, rfl⟩⟩; refine ⟨_, rfl, ?_⟩; (try (rw [drewN_self w45]; generalize hq_ : World.drewN w45 _ = w45; have n0_ : Aside0 (Kd.R (Kd.int .i64) 3 w45 w.heap.size (fun _ => True) (.slice (some ad518) x7_3.length co21) x7_3) := ⟨by rw [← hq_]; exact (xR HO_7.out)⟩; have n1_ : Aside0 (w45.heap[gb517]? = some (.cells #[.int .i64 ((rd_T62 l0 x41_2).f0), .int .i64 ((rd_T62 l0 x41_2).f1), .int .i64 ((rd_T62 l0 x41_2).f2), .int .i64 ((rd_T62 l0 x41_2).f3.f0), .bool ((rd_T62 l0 x41_2).f3.f1)] 62 (0, 0))) := ⟨by rw [← hq_]; exact (xK BK517.out)⟩; have n2_ : Aside0 (Below w.heap.size w w45) := ⟨by rw [← hq_]; exact (xB1 GE517.out HB.out)⟩; clear HO_7 BK517 HB hq_; have HO_7 := n0_; have BK517 := n1_; have HB := n2_; clear n0_ n1_ n2_)); have p42 : 0 ≤ (x47_3 : Int) := of_decide_eq_true (by first | (with_reducible assumption) | assumption); have q42 : (x47_3 : Int) < ((x7_3.length : Int) : Int) := of_decide_eq_true (by first | (with_reducible assumption) | assumption); obtain ⟨go42, co42, eo42, gb42, gl42, cl42, HG42⟩ := Kd.R_form HO_7.out (by omega); (first | cases eo42 | (injection eo42 with ea_ en_ ec_; (first | subst ea_ | (injection ea_ with ea_; subst ea_)); subst ec_; clear en_)); have GB42 := xA gb42; have GG42 := xA HG42; clear gb42 gl42 HG42; (first | simp only [add_plain] at hx518_0 | skip); obtain ⟨hx42_0, hf42_0⟩ := Kd.R_celln 0 HO_7.out (x47_3 : Int) p42 q42; replace p42 := eq_true p42; replace q42 := eq_true q42; obtain ⟨hy46_, hz46_⟩ := Kd.R_celln 0 HO_7.out (x47_3 : Int) (of_decide_eq_true (by first | (with_reducible assumption) | assumption)) (of_decide_eq_true (by first | (with_reducible assumption) | assumption)); have HP46 := Kd.R_putg HO_7.out (x47_3 : Int) (wrap64 ((rd x7_3 x47_3) + (wrap64 ((ji30) * x13_3))))) | ((with_reducible refine gate_store (t := 3) (p := 83) rfl ?_); refine store_event (t := 3) (p := 83) (v := ?vo_w47) (w1 := (w45.setCell ⟨go42, (x47_3 : Int).toNat, none⟩ (.int .i64 (wrap64 ((rd x7_3 x47_3) + (wrap64 ((ji30) * x13_3))))))) ?hg ?ho ?hn ?hr ?_; (case ho => rfl); (case hg => rfl); (case hn => rfl); (case hr => first | (go_simp; done) | (go_simp; rfl)); intro w47 hw; have hg : w45.grownBy w47 (some go42) := (by rw [hw]; exact HP46.2); have hp_ : Kd.R (Kd.int .i64) 3 w47 w.heap.size (fun _ => True) (.slice (some ⟨go42, 0, none⟩) x7_3.length co21) y522 := (by rw [hw, Ny522.out]; exact HP46.1); clear HP46; replace BK517 := xA (blk_grown (xK BK517.out) hg (Kd.R_ne HO_7.out BK517.out (by decide))); replace HO_7 := xA (hp_); replace HB := xA ((by rw [hw]; exact below_set (HB.out) GB42.out : Below w.heap.size w w47)); clear hg hw hp_))
         (try simp only [← hl7_3])
         go_roundg kj24
         case measure => have := HK1.out; have := HK2.out; have := HK3.out; have := HJ24.out; omega
         case rel => exact ⟨(y522), (wrap64 ((rd x7_3 x47_3) + (wrap64 ((ji30) * x13_3)))), (wrap64 (x47_3 + 1)), (by first | rfl | (simp; done) | (simp only [← hji30] <;> (first | rfl | simp)) | (simp [*]; done)), xs, H', ⟨by have := HK1.out; have := HK2.out; have := HK3.out; have := HJ24.out; omega⟩, ⟨by (try simp only [hl7_3]); (with_reducible repeat (first | apply Kd.R_alloc | apply Kd.R_drewN | apply Kd.R_drew)); exact HO_7.out⟩, ⟨by (try simp only [hl7_3]); (with_reducible repeat (first | refine blk_drewN ?_ _ | refine blk_drew ?_ | refine blk_alloc ?_ _)); exact BK517.out⟩, ⟨xB1 GE517.out HB.out⟩⟩
/-! ### impl_ExactChain: function 148 -/
def impl_ExactChain.f (k : Nat) (l0 : List (S62)) (l1 : List Int) : Option (List Int × Bool) := (impl_areParts.f k l0).bind fun t525 => (if t525 = true then ((impl_isSignal.f k l1).bind fun t526 => (if t526 = true then ((impl_exactChain.f k l0 l1).bind fun bt527 => (some (bt527.1, bt527.2))) else (some (([] : List Int), false)))) else (some (([] : List Int), false)))
theorem impl_ExactChain.mono : ∀ a0 a1 k, LeO (impl_ExactChain.f k a0 a1) (impl_ExactChain.f (k + 1) a0 a1) := by
 intro a0 a1 k
 have m0 := @impl_areParts.mono
 have m1 := @impl_exactChain.mono
 have m2 := @impl_isSignal.mono
 unfold impl_ExactChain.f
 exact xM
set_option maxHeartbeats 200000000 in
set_option maxRecDepth 100000 in
theorem impl_ExactChain.calls (k : Nat) (A0 : Option Addr) (c0 : Nat) (l0 : List (S62)) (A1 : Option Addr) (c1 : Nat) (l1 : List Int) (r1 : List Int) (r2 : Bool) (w : World) (hr0 : Kd.C k62 w A0 l0.length l0) (hc0 : l0.length ≤ c0) (hr1 : Kd.C (Kd.int .i64) w A1 l1.length l1) (hc1 : l1.length ≤ c1) (h : impl_ExactChain.f k l0 l1 = some (r1, r2)) :
  Calls Try.prog 148 #[.slice A0 l0.length c0, .slice A1 l1.length c1] w fun e w' => ∃ v0_ : Value, e = .returned (.tuple #[v0_, .bool r2]) ∧ Kd.R (Kd.int .i64) 3 w' w.heap.size (fun _ => True) v0_ r1 ∧ Below w.heap.size w w' := by
 have HR0 := xA hr0
 have HC0 := xA hc0
 clear hr0 hc0
 have HR1 := xA hr1
 have HC1 := xA hc1
 clear hr1 hc1
 have HB := xA (Below.refl w.heap.size w)
 have H : ((impl_areParts.f k l0).bind fun t525 => (if t525 = true then ((impl_isSignal.f k l1).bind fun t526 => (if t526 = true then ((impl_exactChain.f k l0 l1).bind fun bt527 => (some (bt527.1, bt527.2))) else (some (([] : List Int), false)))) else (some (([] : List Int), false)))) = some (r1, r2) := h
 clear h
 obtain ⟨t525, A3, H⟩ := xO H
 (try dsimp only at H)
 by_cases c4 : t525 = true
 rotate_left
 ·replace c4 := Bool.eq_false_iff.mpr c4
  subst c4
  rw [if_neg (show ¬ (false = true) by decide)] at H
  simp only [Option.some.injEq, Prod.mk.injEq] at H
  obtain ⟨rfl, rfl⟩ := H
  go_enter Try.func148, Try.ntmps148
  go_wp2_with (first | (refine xG (some 7) Try.func346 #[.slice A0 l0.length c0] ?_; (with_reducible refine (impl_areParts.calls k _ _ l0 false _ ?side1 ?side2 A3.out).mono ?_); (case side1 => exact xC HR0.out); (case side2 => exact HC0.out); rintro e w11 ⟨rfl, hb⟩; refine ⟨_, rfl, ?_⟩; replace HB := xA (below_step (xB HB.out) hb); (try clear hb)))
  go_ret2
  exact ⟨_, xr, by first | exact Kd.R_nil _ _ _ _ _ | exact Kd.N_nil _ _ _ _ _ | exact Kd.V_nil _ _ _ _ _ | exact Kd.Q_nil _ _ _ _ _ | exact Kd.S_nil _ _ _ _ _, xB HB.out⟩

 subst c4
 rw [if_pos rfl] at H
 obtain ⟨t526, A5, H⟩ := xO H
 (try dsimp only at H)
 by_cases c6 : t526 = true
 rotate_left
 ·replace c6 := Bool.eq_false_iff.mpr c6
  subst c6
  rw [if_neg (show ¬ (false = true) by decide)] at H
  simp only [Option.some.injEq, Prod.mk.injEq] at H
  obtain ⟨rfl, rfl⟩ := H
  go_enter Try.func148, Try.ntmps148
  go_wp2_with (first | (refine xG (some 7) Try.func346 #[.slice A0 l0.length c0] ?_; (with_reducible refine (impl_areParts.calls k _ _ l0 true _ ?side1 ?side2 A3.out).mono ?_); (case side1 => exact xC HR0.out); (case side2 => exact HC0.out); rintro e w10 ⟨rfl, hb⟩; refine ⟨_, rfl, ?_⟩; replace HB := xA (below_step (xB HB.out) hb); (try clear hb)) | (go_at_call 233; (with_reducible refine (impl_isSignal.calls k _ _ l1 false _ ?side1 ?side2 A5.out).mono ?_); (case side1 => exact xC (Kd.C_below HR1.out HB.out)); (case side2 => exact HC1.out); rintro e w' ⟨rfl, ⟨nd, rfl⟩⟩))
  go_ret2
  exact ⟨_, xr, by first | exact Kd.R_nil _ _ _ _ _ | exact Kd.N_nil _ _ _ _ _ | exact Kd.V_nil _ _ _ _ _ | exact Kd.Q_nil _ _ _ _ _ | exact Kd.S_nil _ _ _ _ _, xB HB.out⟩
 subst c6
 rw [if_pos rfl] at H
 replace H := Option.bind_eq_some_iff.mp H
 obtain ⟨⟨t527, t528⟩, A70, H⟩ := H
 (try dsimp only at H)
 have A7 := xA A70
 clear A70
 simp only [Option.some.injEq, Prod.mk.injEq] at H
 obtain ⟨rfl, rfl⟩ := H
 go_enter Try.func148, Try.ntmps148
 go_wp2_with (first | (refine xq rfl ?_; first | (refine xG (some 7) Try.func346 #[.slice A0 l0.length c0] ?_; (with_reducible refine (impl_areParts.calls k _ _ l0 true _ ?side1 ?side2 A3.out).mono ?_); (case side1 => exact xC HR0.out); (case side2 => exact HC0.out); rintro e w8 ⟨rfl, hb⟩; refine ⟨_, rfl, ?_⟩; replace HB := xA (below_step (xB HB.out) hb); (try clear hb)) | (refine xG (some 16) Try.func347 #[.slice A0 l0.length c0, .slice A1 l1.length c1] ?_; (with_reducible refine (impl_exactChain.calls k _ _ l0 _ _ l1 t527 t528 _ ?side1 ?side2 ?side3 ?side4 A7.out).mono ?_); (case side1 => repeat (first | exact (Kd.C_below HR0.out (xB HB.out)) | (with_reducible refine Kd.C_alloc ?_ _) | (with_reducible refine Kd.C_drewN ?_ _) | (with_reducible refine Kd.C_drew ?_))); (case side2 => exact HC0.out); (case side3 => repeat (first | exact (Kd.C_below HR1.out (xB HB.out)) | (with_reducible refine Kd.C_alloc ?_ _) | (with_reducible refine Kd.C_drewN ?_ _) | (with_reducible refine Kd.C_drew ?_))); (case side4 => exact HC1.out); rintro e w9 ⟨v529, rfl, ho0, hb⟩; refine ⟨_, rfl, ?_⟩; have HO530 := xA (Kd.R_lower ho0 (below_size (xB HB.out))); replace HB := xA (below_step (xB HB.out) hb); (try clear hb); (try clear ho0))) | (go_at_call 233; (with_reducible refine (impl_isSignal.calls k _ _ l1 true _ ?side1 ?side2 A5.out).mono ?_); (case side1 => exact xC (Kd.C_below HR1.out HB.out)); (case side2 => exact HC1.out); rintro e w' ⟨rfl, ⟨nd, rfl⟩⟩))
 go_ret2
 exact ⟨_, xr, xR HO530.out, xB HB.out⟩
end Go.Proofs.Ytjplcongellcmaa.PFnPairsRun
