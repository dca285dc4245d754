/- What each Go function that the statement FnPairsRun reaches answers, proved call by call. No condition beyond those that the theorems print. (Written by wip/tools/xprint.py of this repo, over the kit's print.) -/
import Derived.Test.YtjplcongellcmaaPFnPairsRunx0
import Derived.Test.YtjplcongellcmaaPFnPairsRunx2
namespace Go.Proofs.Ytjplcongellcmaa.PFnPairsRun
open Go.RowKit Go.Proofs.YtjplcongellcmaaW.PrintWords Go.Proofs.YtjplcongellcmaaW.PrintLast Go.Proofs.YtjplcongellcmaaW.PrintMore
attribute [local go_sem] max2_int min2_int max_two min_two max_three min_three max_four min_four   -- for this text's walks alone
set_option linter.unusedVariables false
set_option linter.unusedSimpArgs false
def x3a0 : Array Bool := #[Zz,Zz,Zz,Zz,Zz,Zz,Zz,Zz,Zz,Zz,Zz]
def x3a1 : Array Bool := #[Zz,Zz,Yy,Zz,Zz,Zz,Zz,Zz,Zz,Zz,Zz]
def x3a2 : Array Bool := #[Zz,Zz,Yy,Zz,Zz,Yy,Zz,Zz,Zz,Zz,Zz]
def x3a3 : Array Bool := #[Yy,Zz,Yy,Zz,Zz,Yy,Zz,Zz,Zz,Zz,Zz]
def x3a4 : Array Bool := #[Yy,Zz,Yy,Zz,Zz,Yy,Yy,Zz,Zz,Zz,Zz]
def x3a5 : Array Bool := #[Yy,Zz,Yy,Zz,Zz,Yy,Yy,Yy,Zz,Zz,Zz]
def x3a6 : Array Bool := #[Yy,Yy,Yy,Zz,Zz,Yy,Yy,Yy,Zz,Zz,Zz]
def x3a7 : Array Bool := #[Yy,Yy,Yy,Yy,Zz,Yy,Yy,Yy,Zz,Zz,Zz]
def x3a8 : Array Bool := #[Yy,Yy,Yy,Yy,Yy,Yy,Yy,Yy,Zz,Zz,Zz]
def x3a9 : Array Bool := #[Yy,Yy,Yy,Yy,Yy,Yy,Yy,Yy,Yy,Zz,Zz]
def x3a10 : Array Bool := #[Yy,Yy,Yy,Yy,Yy,Yy,Yy,Yy,Yy,Yy,Zz]
def x3a11 : Array Bool := #[Yy,Yy,Yy,Yy,Yy,Yy,Yy,Yy,Yy,Yy,Yy]

/-! ### spec_l1Cur_signal: function 214 -/
def spec_l1Cur_signal.l0 : Nat → Int → List Int → Int → List Int → Int → Int → Option (List Int × Int × Int)
 | 0, _, _, _, _, _, _ => none
 | k + 1, x2, x7, x8, x1000, x1001, x1002 => if x8 > 0 then ((spec_l1Cur_one.f x1000 x1001 x1002 4).bind fun bt134 => (if bt134.1 = true then (if x7.length < 17592186044416 then (spec_l1Cur_signal.l0 k x2 (x7 ++ [0]) (wrap64 (x8 - 1)) x1000 bt134.2.1 bt134.2.2) else (none)) else ((spec_l1Cur_pick.f x1000 bt134.2.1 bt134.2.2 (wrap64 ((wrap64 (2 * x2)) + 1))).bind fun bt140 => (if x7.length < 17592186044416 then (spec_l1Cur_signal.l0 k x2 (x7 ++ [wrap64 (bt140.1 - x2)]) (wrap64 (x8 - 1)) x1000 bt140.2.1 bt140.2.2) else (none))))) else ((spec_l1Cur_pick.f x1000 x1001 x1002 16).bind fun bt146 => (if bt146.1 = 0 then ((spec_l1Cur_among.f x1000 bt146.2.1 bt146.2.2 (([100000, (-100000), 100001, 4611686018427387904] : List Int))).bind fun bt152 => (if x7.length < 17592186044416 then (some ((x7 ++ [bt152.1]), bt152.2.1, bt152.2.2)) else (none))) else (if bt146.1 = 1 then ((spec_l1Cur_pick.f x1000 bt146.2.1 bt146.2.2 2).bind fun bt158 => (if 0 ≤ (wrap64 (64 + bt158.1)) then (if (wrap64 (64 + bt158.1) : Int).toNat ≤ 35184372088832 then (some ((List.replicate (wrap64 (64 + bt158.1) : Int).toNat 0), bt158.2.1, bt158.2.2)) else (none)) else (none))) else (some (x7, bt146.2.1, bt146.2.2)))))
def spec_l1Cur_signal.f (k : Nat) (s0_0 : List Int) (s0_1 : Int) (s0_2 : Int) (a1 : Int) (a2 : Int) : Option (List Int × Int × Int) := (spec_l1Cur_pick.f s0_0 s0_1 s0_2 (wrap64 (a1 + 1))).bind fun bt131 => (spec_l1Cur_signal.l0 k a2 ([] : List Int) bt131.1 s0_0 bt131.2.1 bt131.2.2)
theorem spec_l1Cur_signal.mono_l : ∀ k, (∀ y0 y1 y2 y3 y4 y5, LeO (spec_l1Cur_signal.l0 k y0 y1 y2 y3 y4 y5) (spec_l1Cur_signal.l0 (k + 1) y0 y1 y2 y3 y4 y5))
 | 0 => fun _ _ _ _ _ _ r h => by simp [spec_l1Cur_signal.l0] at h
 | k + 1 => by
  have ih0 := spec_l1Cur_signal.mono_l k
  intros
  unfold spec_l1Cur_signal.l0
  exact xM
theorem spec_l1Cur_signal.mono : ∀ a0 a1 a2 a3 a4 k, LeO (spec_l1Cur_signal.f k a0 a1 a2 a3 a4) (spec_l1Cur_signal.f (k + 1) a0 a1 a2 a3 a4) := by
 intro a0 a1 a2 a3 a4 k
 have ih0 := spec_l1Cur_signal.mono_l k
 unfold spec_l1Cur_signal.f
 exact xM
set_option maxHeartbeats 200000000 in
set_option maxRecDepth 100000 in
theorem spec_l1Cur_signal.calls (k : Nat) (g : Nat) (s0_0 : List Int) (s0_1 : Int) (s0_2 : Int) (a1 : Int) (a2 : Int) (r1 : List Int) (r2 : Int) (r3 : Int) (w0 w : World) (hI : IsS129 w0 w g s0_0 s0_1 s0_2) (hB : Below w0.heap.size w0 w) (h : spec_l1Cur_signal.f k s0_0 s0_1 s0_2 a1 a2 = some (r1, r2, r3)) :
  Calls Try.prog 214 #[.pointer (some ⟨g, 0, none⟩), .int .i64 a1, .int .i64 a2] w fun e w' => ∃ v0_ : Value, e = .returned (v0_) ∧ Kd.R (Kd.int .i64) 3 w' w.heap.size (fun _ => True) v0_ r1 ∧ IsS129 w0 w' g s0_0 r2 r3 ∧ Below w0.heap.size w0 w' ∧ KeepBut w w' g none := by
 have HI0 := xA hI
 have HK := xA (KeepBut.refl w g none)
 have HL := xA hB.size
 clear hI
 have HW0 := xA hB.size
 have HB := xA hB
 clear hB
 have H : ((spec_l1Cur_pick.f s0_0 s0_1 s0_2 (wrap64 (a1 + 1))).bind fun bt131 => (spec_l1Cur_signal.l0 k a2 ([] : List Int) bt131.1 s0_0 bt131.2.1 bt131.2.2)) = some (r1, r2, r3) := h
 clear h
 replace H := Option.bind_eq_some_iff.mp H
 obtain ⟨⟨t131, t132, t133⟩, A40, H⟩ := H
 (try dsimp only at H)
 have A4 := xA A40
 clear A40
 have H' := xA H
 clear H
 go_enter Try.func214, Try.ntmps214
 go_wp2_with (first | (refine xG (some 13) Try.func229 #[.pointer (some ⟨g, 0, none⟩), .int .i64 (wrap64 (a1 + 1))] ?_; (with_reducible refine (spec_l1Cur_pick.calls g s0_0 s0_1 s0_2 (wrap64 (a1 + 1)) t131 t132 t133 w0 _ ?side1 ?side2 A4.out).mono ?_); (case side1 => exact xJ129_12_0 HI0.out); (case side2 => exact xB1 (IsS129.ge HI0.out) HB.out); rintro e w5 ⟨rfl, hi, hb, hk⟩; refine ⟨_, rfl, ?_⟩; replace HK := xA (KeepBut.trans (xH0 HK.out) hk (.inl rfl)); replace HB := xA (hb); replace HI0 := xA (hi); (try clear hb hk hi)))
 go_loopg [7, 8] k (fun kq v7 v8 w' => ∃ (x7_1 : List Int) (x8_1 : Int) (x1001_1 : Int) (x1002_1 : Int), v8 = .int .i64 x8_1 ∧ Aside0 (spec_l1Cur_signal.l0 kq a2 x7_1 x8_1 s0_0 x1001_1 x1002_1 = some (r1, r2, r3)) ∧ Aside0 (kq ≤ k) ∧ Aside0 (Kd.R (Kd.int .i64) 3 w' w.heap.size (fun _ => True) v7 x7_1) ∧ Aside0 (IsS129 w0 w' g s0_0 x1001_1 x1002_1) ∧ Aside0 (KeepBut w w' g none) ∧ Aside0 (Below w0.heap.size w0 w'))
 case atStart => exact ⟨(([] : List Int)), (t131), (t132), (t133), xs, H', ⟨Nat.le_refl _⟩, ⟨by first | exact Kd.R_nil _ _ _ _ _ | exact Kd.N_nil _ _ _ _ _ | exact Kd.V_nil _ _ _ _ _ | exact Kd.Q_nil _ _ _ _ _ | exact Kd.S_nil _ _ _ _ _⟩, ⟨xJ129_12_0 HI0.out⟩, ⟨xH0 HK.out⟩, ⟨xB1 (IsS129.ge HI0.out) HB.out⟩⟩
 case round =>
  clear H'
  obtain ⟨x7_1, x8_1, x1001_1, x1002_1, rfl, HA, HK1, HO_7, HI0, HK, HB⟩ := hrel
  cases gk with
  | zero => exact absurd HA.out (by simp [spec_l1Cur_signal.l0])
  | succ k1 =>
   have H := HA.out
   clear HA
   simp only [spec_l1Cur_signal.l0] at H
   by_cases c6 : x8_1 > 0
   ·rw [if_pos c6] at H
    have c6b0 : decide (0 < x8_1) = true := decide_eq_true c6
    clear c6
    replace H := Option.bind_eq_some_iff.mp H
    obtain ⟨⟨t134, t135, t136⟩, A70, H⟩ := H
    (try dsimp only at H)
    have A7 := xA A70
    clear A70
    by_cases c8 : t134 = true
    ·subst c8
     rw [if_pos rfl] at H
     by_cases c9 : x7_1.length < 17592186044416
     rotate_left
     ·rw [if_neg c9] at H
      exact absurd H (by simp)
     rw [if_pos c9] at H
     have LMc9 := xA c9
     clear c9
     obtain ⟨y137, hy137⟩ : ∃ y_ : List Int, y_ = (x7_1 ++ [0]) := ⟨_, rfl⟩
     replace H : (spec_l1Cur_signal.l0 k1 a2 y137 (wrap64 (x8_1 - 1)) s0_0 t135 t136) = some (r1, r2, r3) := by first | (rw [hy137]; with_reducible exact H) | (have H2_ := (Option.bind_some _ _).symm.trans H; rw [hy137]; with_reducible exact H2_) | (have H2_ := (Option.bind_some _ _).symm.trans H; with_reducible exact H2_) | with_reducible exact H | (rw [hy137]; exact H) | exact H
     have Ny137 := xA hy137
     clear hy137
     have H' := xA H
     clear H
     go_wp2_with (first | (refine xG (some 19) Try.func227 #[.pointer (some ⟨g, 0, none⟩), .int .i64 4] ?_; (with_reducible refine (spec_l1Cur_one.calls g s0_0 x1001_1 x1002_1 4 true t135 t136 w0 _ ?side1 ?side2 A7.out).mono ?_); (case side1 => exact xJ129_12_0 HI0.out); (case side2 => exact xB1 (IsS129.ge HI0.out) HB.out); rintro e w10 ⟨rfl, hi, hb, hk⟩; refine ⟨_, rfl, ?_⟩; replace HO_7 := xA (Kd.R_mono (Kd.R_keep (IsS129.apart (show IsS129 w0 _ g s0_0 x1001_1 x1002_1 from xJ129_12_0 HI0.out) (xR HO_7.out) (by decide)) hk (fun _ h => h.2)) (fun _ h => h.1)); replace HK := xA (KeepBut.trans (xH0 HK.out) hk (.inl rfl)); replace HB := xA (hb); replace HI0 := xA (hi); (try clear hb hk hi)) | ((with_reducible refine gate_builtin (b := .append) (xs := #[.tmp 28, .tmp 30]) rfl ?_); at_builtin; refine Kd.R_append (Kd.int .i64) w.heap.size rfl (.tmp 28) (.tmp 30) 24 3 (.int .i64 0) 8 rfl Try.underlying24 info3 rfl (by decide) (by omega) u7 x7_1 0 [.int .i64 0] (fun _ => True) (fun _ => False) rfl rfl ?aP (fun _ hk => hk.elim) ?aF ?aO (Below.refl _ _) ?aS ?aL ?_; (case aP => exact rfl); (case aF => exact (fun _ _ => trivial)); (case aO => exact (xR HO_7.out)); (case aS => exact (keep_size (w := w) (g := g) (row := none) (xH0 HK.out))); (case aL => have := LMc9.out; omega); intro v138 w11 ho hb hg hat; rw [← Ny137.out] at ho; replace HB := xA (below_weaken (xB1 (IsS129.ge HI0.out) HB.out) HL.out hb); replace HI0 := xA (IsS129.grown (xJ129_12_0 HI0.out) hg (IsS129.own_ne HI0.out HO_7.out (by decide))); replace HK := xA (KeepBut.trans (xH0 HK.out) (KeepBut.of_grown hg g) (Kd.R_base2 HO_7.out)); have HO139 := xA (ho); clear HO_7; clear ho hb hg hat))
     go_roundg k1
     case measure => have := HK1.out; omega
     case rel => exact ⟨(y137), (wrap64 (x8_1 - 1)), (t135), (t136), xs, H', ⟨by have := HK1.out; omega⟩, ⟨xR HO139.out⟩, ⟨xJ129_12_0 HI0.out⟩, ⟨xH0 HK.out⟩, ⟨xB1 (IsS129.ge HI0.out) HB.out⟩⟩
    replace c8 := Bool.eq_false_iff.mpr c8
    subst c8
    rw [if_neg (show ¬ (false = true) by decide)] at H
    replace H := Option.bind_eq_some_iff.mp H
    obtain ⟨⟨t140, t141, t142⟩, A120, H⟩ := H
    (try dsimp only at H)
    have A12 := xA A120
    clear A120
    by_cases c13 : x7_1.length < 17592186044416
    rotate_left
    ·rw [if_neg c13] at H
     exact absurd H (by simp)
    rw [if_pos c13] at H
    have LMc13 := xA c13
    clear c13
    obtain ⟨y143, hy143⟩ : ∃ y_ : List Int, y_ = (x7_1 ++ [wrap64 (t140 - a2)]) := ⟨_, rfl⟩
    replace H : (spec_l1Cur_signal.l0 k1 a2 y143 (wrap64 (x8_1 - 1)) s0_0 t141 t142) = some (r1, r2, r3) := by first | (rw [hy143]; with_reducible exact H) | (have H2_ := (Option.bind_some _ _).symm.trans H; rw [hy143]; with_reducible exact H2_) | (have H2_ := (Option.bind_some _ _).symm.trans H; with_reducible exact H2_) | with_reducible exact H | (rw [hy143]; exact H) | exact H
    have Ny143 := xA hy143
    clear hy143
    have H' := xA H
    clear H
    go_wp2_with (first | (refine xq rfl ?_; first | (refine xG (some 19) Try.func227 #[.pointer (some ⟨g, 0, none⟩), .int .i64 4] ?_; (with_reducible refine (spec_l1Cur_one.calls g s0_0 x1001_1 x1002_1 4 false t135 t136 w0 _ ?side1 ?side2 A7.out).mono ?_); (case side1 => exact xJ129_12_0 HI0.out); (case side2 => exact xB1 (IsS129.ge HI0.out) HB.out); rintro e w14 ⟨rfl, hi, hb, hk⟩; refine ⟨_, rfl, ?_⟩; replace HO_7 := xA (Kd.R_mono (Kd.R_keep (IsS129.apart (show IsS129 w0 _ g s0_0 x1001_1 x1002_1 from xJ129_12_0 HI0.out) (xR HO_7.out) (by decide)) hk (fun _ h => h.2)) (fun _ h => h.1)); replace HK := xA (KeepBut.trans (xH0 HK.out) hk (.inl rfl)); replace HB := xA (hb); replace HI0 := xA (hi); (try clear hb hk hi)) | (refine xG (some 25) Try.func229 #[.pointer (some ⟨g, 0, none⟩), .int .i64 (wrap64 ((wrap64 (2 * a2)) + 1))] ?_; (with_reducible refine (spec_l1Cur_pick.calls g s0_0 t135 t136 (wrap64 ((wrap64 (2 * a2)) + 1)) t140 t141 t142 w0 _ ?side1 ?side2 A12.out).mono ?_); (case side1 => exact xJ129_12_0 HI0.out); (case side2 => exact xB1 (IsS129.ge HI0.out) HB.out); rintro e w15 ⟨rfl, hi, hb, hk⟩; refine ⟨_, rfl, ?_⟩; replace HO_7 := xA (Kd.R_mono (Kd.R_keep (IsS129.apart (show IsS129 w0 _ g s0_0 t135 t136 from xJ129_12_0 HI0.out) (xR HO_7.out) (by decide)) hk (fun _ h => h.2)) (fun _ h => h.1)); replace HK := xA (KeepBut.trans (xH0 HK.out) hk (.inl rfl)); replace HB := xA (hb); replace HI0 := xA (hi); (try clear hb hk hi))) | ((with_reducible refine gate_builtin (b := .append) (xs := #[.tmp 28, .tmp 30]) rfl ?_); at_builtin; refine Kd.R_append (Kd.int .i64) w.heap.size rfl (.tmp 28) (.tmp 30) 24 3 (.int .i64 0) 8 rfl Try.underlying24 info3 rfl (by decide) (by omega) u7 x7_1 (wrap64 (t140 - a2)) [.int .i64 (wrap64 (t140 - a2))] (fun _ => True) (fun _ => False) rfl rfl ?aP (fun _ hk => hk.elim) ?aF ?aO (Below.refl _ _) ?aS ?aL ?_; (case aP => exact rfl); (case aF => exact (fun _ _ => trivial)); (case aO => exact (xR HO_7.out)); (case aS => exact (keep_size (w := w) (g := g) (row := none) (xH0 HK.out))); (case aL => have := LMc13.out; omega); intro v144 w16 ho hb hg hat; rw [← Ny143.out] at ho; replace HB := xA (below_weaken (xB1 (IsS129.ge HI0.out) HB.out) HL.out hb); replace HI0 := xA (IsS129.grown (xJ129_12_0 HI0.out) hg (IsS129.own_ne HI0.out HO_7.out (by decide))); replace HK := xA (KeepBut.trans (xH0 HK.out) (KeepBut.of_grown hg g) (Kd.R_base2 HO_7.out)); have HO145 := xA (ho); clear HO_7; clear ho hb hg hat))
    go_roundg k1
    case measure => have := HK1.out; omega
    case rel => exact ⟨(y143), (wrap64 (x8_1 - 1)), (t141), (t142), xs, H', ⟨by have := HK1.out; omega⟩, ⟨xR HO145.out⟩, ⟨xJ129_12_0 HI0.out⟩, ⟨xH0 HK.out⟩, ⟨xB1 (IsS129.ge HI0.out) HB.out⟩⟩
   rw [if_neg c6] at H
   have c6b0 : decide (0 < x8_1) = false := decide_eq_false c6
   clear c6
   replace H := Option.bind_eq_some_iff.mp H
   obtain ⟨⟨t146, t147, t148⟩, A170, H⟩ := H
   (try dsimp only at H)
   have A17 := xA A170
   clear A170
   by_cases c18 : t146 = 0
   ·rw [if_pos c18] at H
    have c18b0 : (t146 == 0) = true := beq_iff_eq.mpr c18
    have c18b1 : (t146 != 0) = false := bne_eq_false_iff_eq.mpr c18
    clear c18
    obtain ⟨y149, hy149⟩ : ∃ y_ : List Int, y_ = (([100000, (-100000), 100001, 4611686018427387904] : List Int)) := ⟨_, rfl⟩
    replace H : ((spec_l1Cur_among.f s0_0 t147 t148 y149).bind fun bt152 => (if x7_1.length < 17592186044416 then (some ((x7_1 ++ [bt152.1]), bt152.2.1, bt152.2.2)) else (none))) = some (r1, r2, r3) := by first | (rw [hy149]; with_reducible exact H) | (have H2_ := (Option.bind_some _ _).symm.trans H; rw [hy149]; with_reducible exact H2_) | (have H2_ := (Option.bind_some _ _).symm.trans H; with_reducible exact H2_) | with_reducible exact H | (rw [hy149]; exact H) | exact H
    have Ny149 := xA hy149
    clear hy149
    replace H := Option.bind_eq_some_iff.mp H
    obtain ⟨⟨t152, t153, t154⟩, A190, H⟩ := H
    (try dsimp only at H)
    have A19 := xA A190
    clear A190
    by_cases c20 : x7_1.length < 17592186044416
    rotate_left
    ·rw [if_neg c20] at H
     exact absurd H (by simp)
    rw [if_pos c20] at H
    have LMc20 := xA c20
    clear c20
    obtain ⟨y155, hy155⟩ : ∃ y_ : List Int, y_ = (x7_1 ++ [t152]) := ⟨_, rfl⟩
    replace H : (some (y155, t153, t154)) = some (r1, r2, r3) := by first | (rw [hy155]; with_reducible exact H) | (have H2_ := (Option.bind_some _ _).symm.trans H; rw [hy155]; with_reducible exact H2_) | (have H2_ := (Option.bind_some _ _).symm.trans H; with_reducible exact H2_) | with_reducible exact H | (rw [hy155]; exact H) | exact H
    have Ny155 := xA hy155
    clear hy155
    simp only [Option.some.injEq, Prod.mk.injEq] at H
    obtain ⟨rfl, rfl, rfl⟩ := H
    go_wp2_with (first | (refine xq rfl ?_; first | (refine xG (some 33) Try.func229 #[.pointer (some ⟨g, 0, none⟩), .int .i64 16] ?_; (with_reducible refine (spec_l1Cur_pick.calls g s0_0 x1001_1 x1002_1 16 t146 t147 t148 w0 _ ?side1 ?side2 A17.out).mono ?_); (case side1 => exact xJ129_12_0 HI0.out); (case side2 => exact xB1 (IsS129.ge HI0.out) HB.out); rintro e w21 ⟨rfl, hi, hb, hk⟩; refine ⟨_, rfl, ?_⟩; replace HO_7 := xA (Kd.R_mono (Kd.R_keep (IsS129.apart (show IsS129 w0 _ g s0_0 x1001_1 x1002_1 from xJ129_12_0 HI0.out) (xR HO_7.out) (by decide)) hk (fun _ h => h.2)) (fun _ h => h.1)); replace HK := xA (KeepBut.trans (xH0 HK.out) hk (.inl rfl)); replace HB := xA (hb); replace HI0 := xA (hi); (try clear hb hk hi)) | (refine xG (some 39) Try.func228 #[.pointer (some ⟨g, 0, none⟩), .slice Ao24 y149.length co24] ?_; (with_reducible refine (spec_l1Cur_among.calls g s0_0 t147 t148 _ _ y149 t152 t153 t154 w0 _ ?side1 ?side2 ?side3 ?side4 ?side5 A19.out).mono ?_); (case side1 => exact xJ129_12_0 HI0.out); (case side2 => exact xB1 (IsS129.ge HI0.out) HB.out); (case side3 => exact xC ((Kd.R_reads' HO151.out).2.2)); (case side4 => exact (Kd.R_reads' HO151.out).2.1); (case side5 => exact far_slice (IsS129.own_ne HI0.out HO151.out (by decide))); rintro e w25 ⟨rfl, hi, hb, hk⟩; refine ⟨_, rfl, ?_⟩; replace HO_7 := xA (Kd.R_mono (Kd.R_keep (IsS129.apart (show IsS129 w0 _ g s0_0 t147 t148 from xJ129_12_0 HI0.out) (xR HO_7.out) (by decide)) hk (fun _ h => h.2)) (fun _ h => h.1)); replace HO151 := xA (Kd.R_mono (Kd.R_keep (IsS129.apart (show IsS129 w0 _ g s0_0 t147 t148 from xJ129_12_0 HI0.out) (xR HO151.out) (by decide)) hk (fun _ h => h.2)) (fun _ h => h.1)); replace HK := xA (KeepBut.trans (xH0 HK.out) hk (.inl rfl)); replace HB := xA (hb); replace HI0 := xA (hi); (try clear hb hk hi))) | ((with_reducible refine gate_dst (N := 38) rfl ?_); refine Kd.R_lit (Kd.int .i64) _ 3 ?hg (N := 38) ?hd (xs := ([100000, (-100000), 100001, 4611686018427387904] : List Int)) (inner := [.int .i64 100000, .int .i64 (-100000), .int .i64 100001, .int .i64 4611686018427387904]) (ok := fun _ => True) (okp := fun _ => True) ?hr ?hp (fun _ hk => hk) trivial (Below.refl _ _) (Nat.le_refl _) (by simp) ?_; (case hd => rfl); (case hg => rfl); (case hr => first | (go_simp; done) | (go_simp; rfl)); (case hp => exact (Reps.one (show Kd.M (Kd.int .i64) _ _ _ 100000 [.int .i64 100000] from rfl) (Reps.one (show Kd.M (Kd.int .i64) _ _ _ (-100000) [.int .i64 (-100000)] from rfl) (Reps.one (show Kd.M (Kd.int .i64) _ _ _ 100001 [.int .i64 100001] from rfl) (Reps.one (show Kd.M (Kd.int .i64) _ _ _ 4611686018427387904 [.int .i64 4611686018427387904] from rfl) (Reps.none _ _)))))); intro v150 w22 ho23 hb hg_ hnew_; clear hg_ hnew_; (first | rw [← Ny149.out] at ho23 | (simp only [Int.reduceToNat] at ho23; rw [← Ny149.out] at ho23)); have HO151 := xA (Kd.R_lower (Kd.R_new' ho23 (Kd.R_lt (xR HO_7.out))) (keep_size (w := w) (g := g) (row := none) (xH0 HK.out))); replace HO_7 := xA (Kd.R_elder' (xR HO_7.out) (Kd.R_base ho23) hb); replace HK := xA (KeepBut.trans (xH0 HK.out) (KeepBut.of_below hb g none) (.inl rfl)); replace HB := xA (below_step (xB1 (IsS129.ge HI0.out) HB.out) hb); replace HI0 := xA (IsS129.below (xJ129_12_0 HI0.out) hb); clear hb ho23; obtain ⟨Ao24, co24, eo24⟩ := Kd.R_slice HO151.out; subst eo24) | ((with_reducible refine gate_builtin (b := .append) (xs := #[.tmp 36, .tmp 40]) rfl ?_); at_builtin; refine Kd.R_append (Kd.int .i64) w.heap.size rfl (.tmp 36) (.tmp 40) 24 3 (.int .i64 0) 8 rfl Try.underlying24 info3 rfl (by decide) (by omega) u7 x7_1 t152 [.int .i64 t152] (fun k_ => some k_ ≠ (.slice Ao24 y149.length co24 : Value).ownBlock) (fun _ => False) rfl rfl ?aP (fun _ hk => hk.elim) ?aF ?aO (Below.refl _ _) ?aS ?aL ?_; (case aP => exact rfl); (case aF => exact (fun k_ hk => Kd.fresh' (Kd.R_lt (xR HO151.out)) k_ hk)); (case aO => exact (by (with_reducible repeat (first | apply Kd.R_alloc | apply Kd.R_drewN | apply Kd.R_drew)); exact Kd.R_mono HO_7.out (fun _ hk => hk.2))); (case aS => exact (keep_size (w := w) (g := g) (row := none) (xH0 HK.out))); (case aL => have := LMc20.out; omega); intro v156 w26 ho hb hg hat; rw [← Ny155.out] at ho; replace HO151 := xA (Kd.R_after (ok := (fun _ => True)) (xR HO151.out) hg hat); replace HB := xA (below_weaken (xB1 (IsS129.ge HI0.out) HB.out) HL.out hb); replace HI0 := xA (IsS129.grown (xJ129_12_0 HI0.out) hg (IsS129.own_ne HI0.out HO_7.out (by decide))); replace HK := xA (KeepBut.trans (xH0 HK.out) (KeepBut.of_grown hg g) (Kd.R_base2 HO_7.out)); have HO157 := xA (ho); clear HO_7; clear ho hb hg hat))
    go_ret
    exact ⟨_, xr, by (with_reducible repeat (first | apply Kd.R_alloc | apply Kd.R_drewN | apply Kd.R_drew)); exact Kd.R_mono HO157.out (fun _ hk => trivial), xJ129_12_0 HI0.out, xB1 (IsS129.ge HI0.out) HB.out, xH0 HK.out⟩
   rw [if_neg c18] at H
   have c18b0 : (t146 == 0) = false := beq_eq_false_iff_ne.mpr c18
   have c18b1 : (t146 != 0) = true := bne_iff_ne.mpr c18
   by_cases c27 : t146 = 1
   rotate_left
   ·rw [if_neg c27] at H
    have c27b0 : (t146 == 1) = false := beq_eq_false_iff_ne.mpr c27
    have c27b1 : (t146 != 1) = true := bne_iff_ne.mpr c27
    simp only [Option.some.injEq, Prod.mk.injEq] at H
    obtain ⟨rfl, rfl, rfl⟩ := H
    go_wp2_with (first | (refine xG (some 33) Try.func229 #[.pointer (some ⟨g, 0, none⟩), .int .i64 16] ?_; (with_reducible refine (spec_l1Cur_pick.calls g s0_0 x1001_1 x1002_1 16 t146 t147 t148 w0 _ ?side1 ?side2 A17.out).mono ?_); (case side1 => exact xJ129_12_0 HI0.out); (case side2 => exact xB1 (IsS129.ge HI0.out) HB.out); rintro e w36 ⟨rfl, hi, hb, hk⟩; refine ⟨_, rfl, ?_⟩; replace HO_7 := xA (Kd.R_mono (Kd.R_keep (IsS129.apart (show IsS129 w0 _ g s0_0 x1001_1 x1002_1 from xJ129_12_0 HI0.out) (xR HO_7.out) (by decide)) hk (fun _ h => h.2)) (fun _ h => h.1)); replace HK := xA (KeepBut.trans (xH0 HK.out) hk (.inl rfl)); replace HB := xA (hb); replace HI0 := xA (hi); (try clear hb hk hi)))
    go_ret
    exact ⟨_, xr, xR HO_7.out, xJ129_12_0 HI0.out, xB1 (IsS129.ge HI0.out) HB.out, xH0 HK.out⟩

   rw [if_pos c27] at H
   have c27b0 : (t146 == 1) = true := beq_iff_eq.mpr c27
   have c27b1 : (t146 != 1) = false := bne_eq_false_iff_eq.mpr c27
   clear c27
   replace H := Option.bind_eq_some_iff.mp H
   obtain ⟨⟨t158, t159, t160⟩, A280, H⟩ := H
   (try dsimp only at H)
   have A28 := xA A280
   clear A280
   obtain ⟨ji29, hji29⟩ : ∃ j_ : Int, (wrap64 (64 + t158)) = j_ := ⟨_, rfl⟩
   (first | rw [hji29] at H | simp only [hji29] at H)
   (try rw [hji29] at A17)
   (try rw [hji29] at A28)
   have hji29w : (IntKind.i64.wrap (64 + t158)) = ji29 := (i64_w _).trans hji29
   by_cases c30 : 0 ≤ (ji29)
   rotate_left
   ·rw [if_neg c30] at H
    exact absurd H (by simp)
   rw [if_pos c30] at H
   have c30b0 := eq_true c30
   have c30b1 : decide (0 ≤ (ji29)) = true := decide_eq_true c30
   clear c30
   by_cases c31 : (ji29 : Int).toNat ≤ 35184372088832
   rotate_left
   ·rw [if_neg c31] at H
    exact absurd H (by simp)
   rw [if_pos c31] at H
   have c31b0 := eq_true c31
   have c31b1 : decide ((ji29 : Int).toNat ≤ 35184372088832) = true := decide_eq_true c31
   clear c31
   obtain ⟨y161, hy161⟩ : ∃ y_ : List Int, y_ = (List.replicate (ji29 : Int).toNat 0) := ⟨_, rfl⟩
   replace H : (some (y161, t159, t160)) = some (r1, r2, r3) := by first | (rw [hy161]; with_reducible exact H) | (have H2_ := (Option.bind_some _ _).symm.trans H; rw [hy161]; with_reducible exact H2_) | (have H2_ := (Option.bind_some _ _).symm.trans H; with_reducible exact H2_) | with_reducible exact H | (rw [hy161]; exact H) | exact H
   have Ny161 := xA hy161
   clear hy161
   simp only [Option.some.injEq, Prod.mk.injEq] at H
   obtain ⟨rfl, rfl, rfl⟩ := H
   go_wp2_with (first | (refine xq rfl ?_; first | (refine xG (some 33) Try.func229 #[.pointer (some ⟨g, 0, none⟩), .int .i64 16] ?_; (with_reducible refine (spec_l1Cur_pick.calls g s0_0 x1001_1 x1002_1 16 t146 t147 t148 w0 _ ?side1 ?side2 A17.out).mono ?_); (case side1 => exact xJ129_12_0 HI0.out); (case side2 => exact xB1 (IsS129.ge HI0.out) HB.out); rintro e w32 ⟨rfl, hi, hb, hk⟩; refine ⟨_, rfl, ?_⟩; replace HO_7 := xA (Kd.R_mono (Kd.R_keep (IsS129.apart (show IsS129 w0 _ g s0_0 x1001_1 x1002_1 from xJ129_12_0 HI0.out) (xR HO_7.out) (by decide)) hk (fun _ h => h.2)) (fun _ h => h.1)); replace HK := xA (KeepBut.trans (xH0 HK.out) hk (.inl rfl)); replace HB := xA (hb); replace HI0 := xA (hi); (try clear hb hk hi)) | (refine xG (some 45) Try.func229 #[.pointer (some ⟨g, 0, none⟩), .int .i64 2] ?_; (with_reducible refine (spec_l1Cur_pick.calls g s0_0 t147 t148 2 t158 t159 t160 w0 _ ?side1 ?side2 A28.out).mono ?_); (case side1 => exact xJ129_12_0 HI0.out); (case side2 => exact xB1 (IsS129.ge HI0.out) HB.out); rintro e w33 ⟨rfl, hi, hb, hk⟩; refine ⟨_, rfl, ?_⟩; replace HO_7 := xA (Kd.R_mono (Kd.R_keep (IsS129.apart (show IsS129 w0 _ g s0_0 t147 t148 from xJ129_12_0 HI0.out) (xR HO_7.out) (by decide)) hk (fun _ h => h.2)) (fun _ h => h.1)); replace HK := xA (KeepBut.trans (xH0 HK.out) hk (.inl rfl)); replace HB := xA (hb); replace HI0 := xA (hi); (try clear hb hk hi))) | ((with_reducible refine gate_dst (N := 47) rfl ?_); refine Kd.R_make (Kd.int .i64) _ 3 rfl (N := 47) rfl 24 _ _ rfl ji29 rfl rfl Try.underlying24 (.int .i64 0) 8 info3 rfl (by decide) (by omega) 0 (ok := fun _ => True) (okp := fun _ => True) rfl (fun _ hk => hk) trivial (of_decide_eq_true (by first | (with_reducible assumption) | assumption)) (Nat.le_trans (Nat.mul_le_mul_right _ (of_decide_eq_true (by first | (with_reducible assumption) | assumption) : ji29.toNat ≤ 35184372088832)) (by omega)) (Below.refl _ _) (Nat.le_refl _) ?_; intro v162 w34 ho35 hb hg_ hnew_; clear hg_ hnew_; (first | rw [← Ny161.out] at ho35 | (simp only [Int.reduceToNat] at ho35; rw [← Ny161.out] at ho35)); have HO163 := xA (Kd.R_lower (Kd.R_new' ho35 (Kd.R_lt (xR HO_7.out))) (keep_size (w := w) (g := g) (row := none) (xH0 HK.out))); replace HO_7 := xA (Kd.R_elder' (xR HO_7.out) (Kd.R_base ho35) hb); replace HK := xA (KeepBut.trans (xH0 HK.out) (KeepBut.of_below hb g none) (.inl rfl)); replace HB := xA (below_step (xB1 (IsS129.ge HI0.out) HB.out) hb); replace HI0 := xA (IsS129.below (xJ129_12_0 HI0.out) hb); clear hb ho35))
   go_ret
   exact ⟨_, by first | rfl | (simp [errW_none, errW_some] <;> rfl) | (simp only [← hji29]; first | rfl | (simp [errW_none, errW_some] <;> rfl)) | (simp [*, errW_none, errW_some] <;> rfl), by (with_reducible repeat (first | apply Kd.R_alloc | apply Kd.R_drewN | apply Kd.R_drew)); exact Kd.R_mono HO163.out (fun _ hk => trivial), xJ129_12_0 HI0.out, xB1 (IsS129.ge HI0.out) HB.out, xH0 HK.out⟩
/-! ### spec_l1In: function 230 -/
def spec_l1In.f (a0 : Int) (a1 : Int) (a2 : Int) : Option (Bool) := if a0 ≥ a1 then (some (decide (a0 ≤ a2))) else (some false)
set_option maxHeartbeats 200000000 in
set_option maxRecDepth 100000 in
theorem spec_l1In.calls (a0 : Int) (a1 : Int) (a2 : Int) (r : Bool) (w : World) (h : spec_l1In.f a0 a1 a2 = some r) :
  Calls Try.prog 230 #[.int .i64 a0, .int .i64 a1, .int .i64 a2] w fun e w' => e = .returned (.bool r) ∧ Drawn0 w w' := by
 have H : (if a0 ≥ a1 then (some (decide (a0 ≤ a2))) else (some false)) = some r := h
 clear h
 by_cases c4 : a0 ≥ a1
 ·rw [if_pos c4] at H
  have c4b0 : decide (a1 ≤ a0) = true := decide_eq_true c4
  clear c4
  obtain rfl := Option.some.inj H
  go_enter Try.func230, Try.ntmps230
  go_wp2
  go_ret
  exact ⟨by first | rfl | (simp; done) | (simp [*]; done), by repeat (first | exact Drawn0.refl _ | apply Drawn0.step)⟩
 rw [if_neg c4] at H
 have c4b0 : decide (a1 ≤ a0) = false := decide_eq_false c4
 clear c4
 obtain rfl := Option.some.inj H
 go_enter Try.func230, Try.ntmps230
 go_wp2
 go_ret
 exact ⟨by first | rfl | (simp; done) | (simp [*]; done), by repeat (first | exact Drawn0.refl _ | apply Drawn0.step)⟩

/-! ### spec_wdGood: function 267 -/
def spec_wdGood.f (a0_0 : Int) (a0_1 : Bool) : Option (Bool) := (spec_l1In.f a0_0 2 16).bind fun t165 => (some t165)
set_option maxHeartbeats 200000000 in
set_option maxRecDepth 100000 in
theorem spec_wdGood.calls (a0_0 : Int) (a0_1 : Bool) (r : Bool) (w : World) (h : spec_wdGood.f a0_0 a0_1 = some r) :
  Calls Try.prog 267 #[.agg #[.int .i64 a0_0, .bool a0_1]] w fun e w' => e = .returned (.bool r) ∧ Below w.heap.size w w' := by
 have hu46 := Try.underlying46
 have HB := xA (Below.refl w.heap.size w)
 have H : ((spec_l1In.f a0_0 2 16).bind fun t165 => (some t165)) = some r := h
 clear h
 obtain ⟨t165, A2, H⟩ := xO H
 (try dsimp only at H)
 obtain rfl := Option.some.inj H
 go_enter Try.func267, Try.ntmps267
 go_wp2_with (first | (refine xg 1 rfl ?_; refine xV 1 #[.int .i64 a0_0, .bool a0_1] 46 ?_; intro gb164 hg w3 hbox hb; have BK164 := xA (hbox); have GW164 := xgw hg (below_size (xB HB.out)); have GE164 := GW164; replace HB := xA (below_step (xB HB.out) hb); clear hb hbox hg; replace hz164 := blk_cell BK164.out; replace hy164 := blk_frozen BK164.out) | (refine xG (some 5) Try.func230 #[.int .i64 a0_0, .int .i64 2, .int .i64 16] ?_; (with_reducible refine (spec_l1In.calls a0_0 2 16 t165 _ A2.out).mono ?_); rintro e w' ⟨rfl, ⟨nd, rfl⟩⟩; refine ⟨_, rfl, ?_⟩))
 go_ret
 exact ⟨xr, xB1 GE164.out HB.out⟩

/-! ### spec_wdLow: function 268 -/
def spec_wdLow.f (a0_0 : Int) (a0_1 : Bool) : Option (Int) := if 0 ≤ (wrap64 (a0_0 - 1)) then (some (wrap64 (-(shl .i64 1 (wrap64 (a0_0 - 1)))))) else (none)
set_option maxHeartbeats 200000000 in
set_option maxRecDepth 100000 in
theorem spec_wdLow.calls (a0_0 : Int) (a0_1 : Bool) (r : Int) (w : World) (h : spec_wdLow.f a0_0 a0_1 = some r) :
  Calls Try.prog 268 #[.agg #[.int .i64 a0_0, .bool a0_1]] w fun e w' => e = .returned (.int .i64 r) ∧ Below w.heap.size w w' := by
 have hu46 := Try.underlying46
 have HB := xA (Below.refl w.heap.size w)
 have H : (if 0 ≤ (wrap64 (a0_0 - 1)) then (some (wrap64 (-(shl .i64 1 (wrap64 (a0_0 - 1)))))) else (none)) = some r := h
 clear h
 obtain ⟨ji2, hji2⟩ : ∃ j_ : Int, (wrap64 (a0_0 - 1)) = j_ := ⟨_, rfl⟩
 (first | rw [hji2] at H | simp only [hji2] at H)
 have hji2w : (IntKind.i64.wrap (a0_0 - 1)) = ji2 := (i64_w _).trans hji2
 by_cases c3 : 0 ≤ (ji2)
 rotate_left
 ·rw [if_neg c3] at H
  exact absurd H (by simp)

 rw [if_pos c3] at H
 have c3b0 := eq_true c3
 have c3b1 : decide (0 ≤ (ji2)) = true := decide_eq_true c3
 clear c3
 obtain ⟨ji4, hji4⟩ : ∃ j_ : Int, (shl .i64 1 (ji2)) = j_ := ⟨_, rfl⟩
 (first | rw [hji4] at H | simp only [hji4] at H)
 have hji4_ : (IntKind.i64.wrap (1 * 2 ^ min (ji2).toNat 64)) = ji4 := hji4
 have hji4z : (ji2) ≤ 64 → (IntKind.i64.wrap (1 * 2 ^ (ji2).toNat)) = ji4 := shl_small hji4
 have hji4u : (IntKind.i64.wrap (2 ^ min (ji2).toNat 64)) = ji4 := by have h_ := hji4_; rw [Int.one_mul] at h_; exact h_
 have hji4v : (ji2) ≤ 64 → (IntKind.i64.wrap (2 ^ (ji2).toNat)) = ji4 := fun hle_ => by have h_ := hji4z hle_; rw [Int.one_mul] at h_; exact h_
 have hji4y : (wrap64 (1 * 2 ^ min (ji2).toNat 64)) = ji4 := (i64_w _).symm.trans hji4_
 have hji4x : (ji2) ≤ 64 → (wrap64 (1 * 2 ^ (ji2).toNat)) = ji4 := fun h_ => (i64_w _).symm.trans (hji4z h_)
 obtain rfl := Option.some.inj H
 go_enter Try.func268, Try.ntmps268
 go_wp2_with (first | (refine xg 1 rfl ?_; refine xV 1 #[.int .i64 a0_0, .bool a0_1] 46 ?_; intro gb166 hg w5 hbox hb; have BK166 := xA (hbox); have GW166 := xgw hg (below_size (xB HB.out)); have GE166 := GW166; replace HB := xA (below_step (xB HB.out) hb); clear hb hbox hg; obtain ⟨hcz6_0, hcz6_1, hfz6_0, hfz6_1⟩ := xZ2 BK166.out))
 go_ret
 exact ⟨by first | rfl | (simp [errW_none, errW_some] <;> rfl) | (simp only [← hji2, ← hji4]; first | rfl | (simp [errW_none, errW_some] <;> rfl)) | (simp [*, errW_none, errW_some] <;> rfl), xB1 GE166.out HB.out⟩
/-! ### spec_wdHigh: function 269 -/
def spec_wdHigh.f (a0_0 : Int) (a0_1 : Bool) : Option (Int) := if 0 ≤ (wrap64 (a0_0 - 1)) then (some (wrap64 ((shl .i64 1 (wrap64 (a0_0 - 1))) - 1))) else (none)
set_option maxHeartbeats 200000000 in
set_option maxRecDepth 100000 in
theorem spec_wdHigh.calls (a0_0 : Int) (a0_1 : Bool) (r : Int) (w : World) (h : spec_wdHigh.f a0_0 a0_1 = some r) :
  Calls Try.prog 269 #[.agg #[.int .i64 a0_0, .bool a0_1]] w fun e w' => e = .returned (.int .i64 r) ∧ Below w.heap.size w w' := by
 have hu46 := Try.underlying46
 have HB := xA (Below.refl w.heap.size w)
 have H : (if 0 ≤ (wrap64 (a0_0 - 1)) then (some (wrap64 ((shl .i64 1 (wrap64 (a0_0 - 1))) - 1))) else (none)) = some r := h
 clear h
 obtain ⟨ji2, hji2⟩ : ∃ j_ : Int, (wrap64 (a0_0 - 1)) = j_ := ⟨_, rfl⟩
 (first | rw [hji2] at H | simp only [hji2] at H)
 have hji2w : (IntKind.i64.wrap (a0_0 - 1)) = ji2 := (i64_w _).trans hji2
 by_cases c3 : 0 ≤ (ji2)
 rotate_left
 ·rw [if_neg c3] at H
  exact absurd H (by simp)

 rw [if_pos c3] at H
 have c3b0 := eq_true c3
 have c3b1 : decide (0 ≤ (ji2)) = true := decide_eq_true c3
 clear c3
 obtain ⟨ji4, hji4⟩ : ∃ j_ : Int, (shl .i64 1 (ji2)) = j_ := ⟨_, rfl⟩
 (first | rw [hji4] at H | simp only [hji4] at H)
 have hji4_ : (IntKind.i64.wrap (1 * 2 ^ min (ji2).toNat 64)) = ji4 := hji4
 have hji4z : (ji2) ≤ 64 → (IntKind.i64.wrap (1 * 2 ^ (ji2).toNat)) = ji4 := shl_small hji4
 have hji4u : (IntKind.i64.wrap (2 ^ min (ji2).toNat 64)) = ji4 := by have h_ := hji4_; rw [Int.one_mul] at h_; exact h_
 have hji4v : (ji2) ≤ 64 → (IntKind.i64.wrap (2 ^ (ji2).toNat)) = ji4 := fun hle_ => by have h_ := hji4z hle_; rw [Int.one_mul] at h_; exact h_
 have hji4y : (wrap64 (1 * 2 ^ min (ji2).toNat 64)) = ji4 := (i64_w _).symm.trans hji4_
 have hji4x : (ji2) ≤ 64 → (wrap64 (1 * 2 ^ (ji2).toNat)) = ji4 := fun h_ => (i64_w _).symm.trans (hji4z h_)
 obtain rfl := Option.some.inj H
 go_enter Try.func269, Try.ntmps269
 go_wp2_with (first | (refine xg 1 rfl ?_; refine xV 1 #[.int .i64 a0_0, .bool a0_1] 46 ?_; intro gb167 hg w5 hbox hb; have BK167 := xA (hbox); have GW167 := xgw hg (below_size (xB HB.out)); have GE167 := GW167; replace HB := xA (below_step (xB HB.out) hb); clear hb hbox hg; obtain ⟨hcz6_0, hcz6_1, hfz6_0, hfz6_1⟩ := xZ2 BK167.out))
 go_ret
 exact ⟨by first | rfl | (simp [errW_none, errW_some] <;> rfl) | (simp only [← hji2, ← hji4]; first | rfl | (simp [errW_none, errW_some] <;> rfl)) | (simp [*, errW_none, errW_some] <;> rfl), xB1 GE167.out HB.out⟩
/-! ### spec_l1Cur_number: function 382 -/
def spec_l1Cur_number.f (s0_0 : List Int) (s0_1 : Int) (s0_2 : Int) : Option (Int × Int × Int) := (spec_l1Cur_pick.f s0_0 s0_1 s0_2 14).bind fun bt168 => (if bt168.1 = 0 then ((spec_l1Cur_among.f s0_0 bt168.2.1 bt168.2.2 (([1000000000000, (-1000000000000), 1000000000001, (-4611686018427387904), 549755813888] : List Int))).bind fun bt174 => (some (bt174.1, bt174.2.1, bt174.2.2))) else (if bt168.1 = 1 then ((spec_l1Cur_pick.f s0_0 bt168.2.1 bt168.2.2 256).bind fun bt177 => ((spec_l1Cur_pick.f s0_0 bt177.2.1 bt177.2.2 256).bind fun bt180 => (some (wrap64 ((wrap64 ((wrap64 ((wrap64 (bt177.1 * 256)) + bt180.1)) * 256)) - 5000000), bt180.2.1, bt180.2.2)))) else ((spec_l1Cur_pick.f s0_0 bt168.2.1 bt168.2.2 200).bind fun bt183 => (some (wrap64 (bt183.1 - 100), bt183.2.1, bt183.2.2)))))
set_option maxHeartbeats 200000000 in
set_option maxRecDepth 100000 in
theorem spec_l1Cur_number.calls (g : Nat) (s0_0 : List Int) (s0_1 : Int) (s0_2 : Int) (r1 : Int) (r2 : Int) (r3 : Int) (w0 w : World) (hI : IsS129 w0 w g s0_0 s0_1 s0_2) (hB : Below w0.heap.size w0 w) (h : spec_l1Cur_number.f s0_0 s0_1 s0_2 = some (r1, r2, r3)) :
  Calls Try.prog 382 #[.pointer (some ⟨g, 0, none⟩)] w fun e w' => e = .returned (.int .i64 r1) ∧ IsS129 w0 w' g s0_0 r2 r3 ∧ Below w0.heap.size w0 w' ∧ KeepBut w w' g none := by
 have HI0 := xA hI
 have HK := xA (KeepBut.refl w g none)
 have HL := xA hB.size
 clear hI
 have HW0 := xA hB.size
 have HB := xA hB
 clear hB
 have H : ((spec_l1Cur_pick.f s0_0 s0_1 s0_2 14).bind fun bt168 => (if bt168.1 = 0 then ((spec_l1Cur_among.f s0_0 bt168.2.1 bt168.2.2 (([1000000000000, (-1000000000000), 1000000000001, (-4611686018427387904), 549755813888] : List Int))).bind fun bt174 => (some (bt174.1, bt174.2.1, bt174.2.2))) else (if bt168.1 = 1 then ((spec_l1Cur_pick.f s0_0 bt168.2.1 bt168.2.2 256).bind fun bt177 => ((spec_l1Cur_pick.f s0_0 bt177.2.1 bt177.2.2 256).bind fun bt180 => (some (wrap64 ((wrap64 ((wrap64 ((wrap64 (bt177.1 * 256)) + bt180.1)) * 256)) - 5000000), bt180.2.1, bt180.2.2)))) else ((spec_l1Cur_pick.f s0_0 bt168.2.1 bt168.2.2 200).bind fun bt183 => (some (wrap64 (bt183.1 - 100), bt183.2.1, bt183.2.2)))))) = some (r1, r2, r3) := h
 clear h
 replace H := Option.bind_eq_some_iff.mp H
 obtain ⟨⟨t168, t169, t170⟩, A20, H⟩ := H
 (try dsimp only at H)
 have A2 := xA A20
 clear A20
 by_cases c3 : t168 = 0
 ·rw [if_pos c3] at H
  have c3b0 : (t168 == 0) = true := beq_iff_eq.mpr c3
  have c3b1 : (t168 != 0) = false := bne_eq_false_iff_eq.mpr c3
  clear c3
  obtain ⟨y171, hy171⟩ : ∃ y_ : List Int, y_ = (([1000000000000, (-1000000000000), 1000000000001, (-4611686018427387904), 549755813888] : List Int)) := ⟨_, rfl⟩
  replace H : ((spec_l1Cur_among.f s0_0 t169 t170 y171).bind fun bt174 => (some (bt174.1, bt174.2.1, bt174.2.2))) = some (r1, r2, r3) := by first | (rw [hy171]; with_reducible exact H) | (have H2_ := (Option.bind_some _ _).symm.trans H; rw [hy171]; with_reducible exact H2_) | (have H2_ := (Option.bind_some _ _).symm.trans H; with_reducible exact H2_) | with_reducible exact H | (rw [hy171]; exact H) | exact H
  have Ny171 := xA hy171
  clear hy171
  replace H := Option.bind_eq_some_iff.mp H
  obtain ⟨⟨t174, t175, t176⟩, A40, H⟩ := H
  (try dsimp only at H)
  have A4 := xA A40
  clear A40
  simp only [Option.some.injEq, Prod.mk.injEq] at H
  obtain ⟨rfl, rfl, rfl⟩ := H
  go_enter Try.func382, Try.ntmps382
  go_wp2_with (first | (refine xq rfl ?_; first | (refine xG (some 4) Try.func229 #[.pointer (some ⟨g, 0, none⟩), .int .i64 14] ?_; (with_reducible refine (spec_l1Cur_pick.calls g s0_0 s0_1 s0_2 14 t168 t169 t170 w0 _ ?side1 ?side2 A2.out).mono ?_); (case side1 => exact xJ129_12_0 HI0.out); (case side2 => exact xB1 (IsS129.ge HI0.out) HB.out); rintro e w5 ⟨rfl, hi, hb, hk⟩; refine ⟨_, rfl, ?_⟩; replace HK := xA (KeepBut.trans (xH0 HK.out) hk (.inl rfl)); replace HB := xA (hb); replace HI0 := xA (hi); (try clear hb hk hi)) | (refine xG (some 9) Try.func228 #[.pointer (some ⟨g, 0, none⟩), .slice Ao8 y171.length co8] ?_; (with_reducible refine (spec_l1Cur_among.calls g s0_0 t169 t170 _ _ y171 t174 t175 t176 w0 _ ?side1 ?side2 ?side3 ?side4 ?side5 A4.out).mono ?_); (case side1 => exact xJ129_12_0 HI0.out); (case side2 => exact xB1 (IsS129.ge HI0.out) HB.out); (case side3 => exact xC ((Kd.R_reads' HO173.out).2.2)); (case side4 => exact (Kd.R_reads' HO173.out).2.1); (case side5 => exact far_slice (IsS129.own_ne HI0.out HO173.out (by decide))); rintro e w9 ⟨rfl, hi, hb, hk⟩; refine ⟨_, rfl, ?_⟩; replace HO173 := xA (Kd.R_mono (Kd.R_keep (IsS129.apart (show IsS129 w0 _ g s0_0 t169 t170 from xJ129_12_0 HI0.out) (xR HO173.out) (by decide)) hk (fun _ h => h.2)) (fun _ h => h.1)); replace HK := xA (KeepBut.trans (xH0 HK.out) hk (.inl rfl)); replace HB := xA (hb); replace HI0 := xA (hi); (try clear hb hk hi))) | ((with_reducible refine gate_dst (N := 8) rfl ?_); refine Kd.R_lit (Kd.int .i64) _ 3 ?hg (N := 8) ?hd (xs := ([1000000000000, (-1000000000000), 1000000000001, (-4611686018427387904), 549755813888] : List Int)) (inner := [.int .i64 1000000000000, .int .i64 (-1000000000000), .int .i64 1000000000001, .int .i64 (-4611686018427387904), .int .i64 549755813888]) (ok := fun _ => True) (okp := fun _ => True) ?hr ?hp (fun _ hk => hk) trivial (Below.refl _ _) (Nat.le_refl _) (by simp) ?_; (case hd => rfl); (case hg => rfl); (case hr => first | (go_simp; done) | (go_simp; rfl)); (case hp => exact (Reps.one (show Kd.M (Kd.int .i64) _ _ _ 1000000000000 [.int .i64 1000000000000] from rfl) (Reps.one (show Kd.M (Kd.int .i64) _ _ _ (-1000000000000) [.int .i64 (-1000000000000)] from rfl) (Reps.one (show Kd.M (Kd.int .i64) _ _ _ 1000000000001 [.int .i64 1000000000001] from rfl) (Reps.one (show Kd.M (Kd.int .i64) _ _ _ (-4611686018427387904) [.int .i64 (-4611686018427387904)] from rfl) (Reps.one (show Kd.M (Kd.int .i64) _ _ _ 549755813888 [.int .i64 549755813888] from rfl) (Reps.none _ _))))))); intro v172 w6 ho7 hb hg_ hnew_; clear hg_ hnew_; (first | rw [← Ny171.out] at ho7 | (simp only [Int.reduceToNat] at ho7; rw [← Ny171.out] at ho7)); have HO173 := xA (Kd.R_lower ho7 (keep_size (w := w) (g := g) (row := none) (xH0 HK.out))); replace HK := xA (KeepBut.trans (xH0 HK.out) (KeepBut.of_below hb g none) (.inl rfl)); replace HB := xA (below_step (xB1 (IsS129.ge HI0.out) HB.out) hb); replace HI0 := xA (IsS129.below (xJ129_12_0 HI0.out) hb); clear hb ho7; obtain ⟨Ao8, co8, eo8⟩ := Kd.R_slice HO173.out; subst eo8))
  go_ret
  exact ⟨xr, xJ129_12_0 HI0.out, xB1 (IsS129.ge HI0.out) HB.out, xH0 HK.out⟩
 rw [if_neg c3] at H
 have c3b0 : (t168 == 0) = false := beq_eq_false_iff_ne.mpr c3
 have c3b1 : (t168 != 0) = true := bne_iff_ne.mpr c3
 by_cases c10 : t168 = 1
 rotate_left
 ·rw [if_neg c10] at H
  have c10b0 : (t168 == 1) = false := beq_eq_false_iff_ne.mpr c10
  have c10b1 : (t168 != 1) = true := bne_iff_ne.mpr c10
  replace H := Option.bind_eq_some_iff.mp H
  obtain ⟨⟨t183, t184, t185⟩, A160, H⟩ := H
  (try dsimp only at H)
  have A16 := xA A160
  clear A160
  simp only [Option.some.injEq, Prod.mk.injEq] at H
  obtain ⟨rfl, rfl, rfl⟩ := H
  go_enter Try.func382, Try.ntmps382
  go_wp2_with (first | (refine xq rfl ?_; first | (refine xG (some 4) Try.func229 #[.pointer (some ⟨g, 0, none⟩), .int .i64 14] ?_; (with_reducible refine (spec_l1Cur_pick.calls g s0_0 s0_1 s0_2 14 t168 t169 t170 w0 _ ?side1 ?side2 A2.out).mono ?_); (case side1 => exact xJ129_12_0 HI0.out); (case side2 => exact xB1 (IsS129.ge HI0.out) HB.out); rintro e w17 ⟨rfl, hi, hb, hk⟩; refine ⟨_, rfl, ?_⟩; replace HK := xA (KeepBut.trans (xH0 HK.out) hk (.inl rfl)); replace HB := xA (hb); replace HI0 := xA (hi); (try clear hb hk hi)) | (refine xG (some 21) Try.func229 #[.pointer (some ⟨g, 0, none⟩), .int .i64 200] ?_; (with_reducible refine (spec_l1Cur_pick.calls g s0_0 t169 t170 200 t183 t184 t185 w0 _ ?side1 ?side2 A16.out).mono ?_); (case side1 => exact xJ129_12_0 HI0.out); (case side2 => exact xB1 (IsS129.ge HI0.out) HB.out); rintro e w18 ⟨rfl, hi, hb, hk⟩; refine ⟨_, rfl, ?_⟩; replace HK := xA (KeepBut.trans (xH0 HK.out) hk (.inl rfl)); replace HB := xA (hb); replace HI0 := xA (hi); (try clear hb hk hi))))
  go_ret
  exact ⟨xr, xJ129_12_0 HI0.out, xB1 (IsS129.ge HI0.out) HB.out, xH0 HK.out⟩

 rw [if_pos c10] at H
 have c10b0 : (t168 == 1) = true := beq_iff_eq.mpr c10
 have c10b1 : (t168 != 1) = false := bne_eq_false_iff_eq.mpr c10
 clear c10
 replace H := Option.bind_eq_some_iff.mp H
 obtain ⟨⟨t177, t178, t179⟩, A110, H⟩ := H
 (try dsimp only at H)
 have A11 := xA A110
 clear A110
 replace H := Option.bind_eq_some_iff.mp H
 obtain ⟨⟨t180, t181, t182⟩, A120, H⟩ := H
 (try dsimp only at H)
 have A12 := xA A120
 clear A120
 simp only [Option.some.injEq, Prod.mk.injEq] at H
 obtain ⟨rfl, rfl, rfl⟩ := H
 go_enter Try.func382, Try.ntmps382
 go_wp2_with (first | (refine xq rfl ?_; first | (refine xG (some 4) Try.func229 #[.pointer (some ⟨g, 0, none⟩), .int .i64 14] ?_; (with_reducible refine (spec_l1Cur_pick.calls g s0_0 s0_1 s0_2 14 t168 t169 t170 w0 _ ?side1 ?side2 A2.out).mono ?_); (case side1 => exact xJ129_12_0 HI0.out); (case side2 => exact xB1 (IsS129.ge HI0.out) HB.out); rintro e w13 ⟨rfl, hi, hb, hk⟩; refine ⟨_, rfl, ?_⟩; replace HK := xA (KeepBut.trans (xH0 HK.out) hk (.inl rfl)); replace HB := xA (hb); replace HI0 := xA (hi); (try clear hb hk hi)) | (refine xG (some 13) Try.func229 #[.pointer (some ⟨g, 0, none⟩), .int .i64 256] ?_; (with_reducible refine (spec_l1Cur_pick.calls g s0_0 t169 t170 256 t177 t178 t179 w0 _ ?side1 ?side2 A11.out).mono ?_); (case side1 => exact xJ129_12_0 HI0.out); (case side2 => exact xB1 (IsS129.ge HI0.out) HB.out); rintro e w14 ⟨rfl, hi, hb, hk⟩; refine ⟨_, rfl, ?_⟩; replace HK := xA (KeepBut.trans (xH0 HK.out) hk (.inl rfl)); replace HB := xA (hb); replace HI0 := xA (hi); (try clear hb hk hi)) | (refine xG (some 16) Try.func229 #[.pointer (some ⟨g, 0, none⟩), .int .i64 256] ?_; (with_reducible refine (spec_l1Cur_pick.calls g s0_0 t178 t179 256 t180 t181 t182 w0 _ ?side1 ?side2 A12.out).mono ?_); (case side1 => exact xJ129_12_0 HI0.out); (case side2 => exact xB1 (IsS129.ge HI0.out) HB.out); rintro e w15 ⟨rfl, hi, hb, hk⟩; refine ⟨_, rfl, ?_⟩; replace HK := xA (KeepBut.trans (xH0 HK.out) hk (.inl rfl)); replace HB := xA (hb); replace HI0 := xA (hi); (try clear hb hk hi))))
 go_ret
 exact ⟨xr, xJ129_12_0 HI0.out, xB1 (IsS129.ge HI0.out) HB.out, xH0 HK.out⟩
/-! ### spec_l1Cur_inWord: function 282 -/
def spec_l1Cur_inWord.j0 : Nat → Bool → List Int → Int → Int → Int → Bool → Option (Int × Int × Int)
 | 0, _, _, _, _, _, _ => none
 | k + 1, x11, x1000, x1001, x1002, x187000, x187001 => if x11 = true then ((spec_l1Cur_number.f x1000 x1001 x1002).bind fun bt191 => (some (bt191.1, bt191.2.1, bt191.2.2))) else ((spec_l1Cur_pick.f x1000 x1001 x1002 5).bind fun bt194 => (if bt194.1 = 0 then ((spec_wdLow.f x187000 x187001).bind fun t197 => (some (t197, bt194.2.1, bt194.2.2))) else (if bt194.1 = 1 then ((spec_wdHigh.f x187000 x187001).bind fun t198 => (some (t198, bt194.2.1, bt194.2.2))) else ((spec_wdLow.f x187000 x187001).bind fun t199 => ((spec_l1Cur_pick.f x1000 bt194.2.1 bt194.2.2 256).bind fun bt200 => (if 0 ≤ x187000 then (if (shl .i64 1 x187000) = 0 then (none) else (some (wrap64 (t199 + (Int.tmod (wrap64 (bt200.1 * 257)) (shl .i64 1 x187000))), bt200.2.1, bt200.2.2))) else (none)))))))
def spec_l1Cur_inWord.f (k : Nat) (s0_0 : List Int) (s0_1 : Int) (s0_2 : Int) (a1_0 : Int) (a1_1 : Bool) : Option (Int × Int × Int) := (spec_wdGood.f a1_0 a1_1).bind fun t187 => (if t187 = true then ((spec_l1Cur_one.f s0_0 s0_1 s0_2 12).bind fun bt188 => (spec_l1Cur_inWord.j0 k bt188.1 s0_0 bt188.2.1 bt188.2.2 a1_0 a1_1)) else (spec_l1Cur_inWord.j0 k true s0_0 s0_1 s0_2 a1_0 a1_1))
theorem spec_l1Cur_inWord.mono_l : ∀ k, (∀ y0 y1 y2 y3 y4 y5, LeO (spec_l1Cur_inWord.j0 k y0 y1 y2 y3 y4 y5) (spec_l1Cur_inWord.j0 (k + 1) y0 y1 y2 y3 y4 y5))
 | 0 => fun _ _ _ _ _ _ r h => by simp [spec_l1Cur_inWord.j0] at h
 | k + 1 => by
  have ih0 := spec_l1Cur_inWord.mono_l k
  intros
  unfold spec_l1Cur_inWord.j0
  exact xM
theorem spec_l1Cur_inWord.mono : ∀ a0 a1 a2 a3 a4 k, LeO (spec_l1Cur_inWord.f k a0 a1 a2 a3 a4) (spec_l1Cur_inWord.f (k + 1) a0 a1 a2 a3 a4) := by
 intro a0 a1 a2 a3 a4 k
 have ih0 := spec_l1Cur_inWord.mono_l k
 unfold spec_l1Cur_inWord.f
 exact xM
def spec_l1Cur_inWord.T8 : Bool × List (List Nat × List Nat) := (true, [([], []), ([0], [0]), ([], []), ([2, 1], [2]), ([3], [3]), ([], []), ([5], [5]), ([6], [6]), ([4, 7], [4, 7]), ([1, 8], [1, 8]), ([9, 3, 0, 1, 2, 3, 4, 5, 6, 7, 8, 9], [9])])
def spec_l1Cur_inWord.B8 : List Nat := [0, 1, 0, 7, 15, 0, 32, 96, 255, 511, 1023]
theorem spec_l1Cur_inWord.tab8 : rtab .any (opsOf Try.f282 8) = spec_l1Cur_inWord.T8 := by kernel_rfl
theorem spec_l1Cur_inWord.bits8 : waitsOk spec_l1Cur_inWord.T8.2 spec_l1Cur_inWord.B8 = true := by kernel_rfl
set_option maxHeartbeats 200000000 in
set_option maxRecDepth 100000 in
theorem spec_l1Cur_inWord.calls (k : Nat) (g : Nat) (s0_0 : List Int) (s0_1 : Int) (s0_2 : Int) (a1_0 : Int) (a1_1 : Bool) (r1 : Int) (r2 : Int) (r3 : Int) (w0 w : World) (hI : IsS129 w0 w g s0_0 s0_1 s0_2) (hB : Below w0.heap.size w0 w) (h : spec_l1Cur_inWord.f k s0_0 s0_1 s0_2 a1_0 a1_1 = some (r1, r2, r3)) :
  Calls Try.prog 282 #[.pointer (some ⟨g, 0, none⟩), .agg #[.int .i64 a1_0, .bool a1_1]] w fun e w' => e = .returned (.int .i64 r1) ∧ IsS129 w0 w' g s0_0 r2 r3 ∧ Below w0.heap.size w0 w' ∧ KeepBut w w' g none := by
 have hu46 := Try.underlying46
 have HI0 := xA hI
 have HK := xA (KeepBut.refl w g none)
 have HL := xA hB.size
 clear hI
 have HW0 := xA hB.size
 have HB := xA hB
 clear hB
 have H : ((spec_wdGood.f a1_0 a1_1).bind fun t187 => (if t187 = true then ((spec_l1Cur_one.f s0_0 s0_1 s0_2 12).bind fun bt188 => (spec_l1Cur_inWord.j0 k bt188.1 s0_0 bt188.2.1 bt188.2.2 a1_0 a1_1)) else (spec_l1Cur_inWord.j0 k true s0_0 s0_1 s0_2 a1_0 a1_1))) = some (r1, r2, r3) := h
 clear h
 have HC3 := xA H
 clear H
 go_enter Try.func282, Try.ntmps282
 go_upto_region 1 with (first | (refine xg 3 rfl ?_; refine xV 3 #[.int .i64 a1_0, .bool a1_1] 46 ?_; intro gb186 hg w4 hbox hb; replace HB := xA (below_step (xB1 (IsS129.ge HI0.out) HB.out) hb); have BK186 := xA (hbox); have GW186 := xA ((by rw [hg]; exact (keep_size (w := w) (g := g) (row := none) (xH0 HK.out)) : w.heap.size ≤ gb186)); have GE186 := xA ((Nat.le_trans HW0.out (by rw [hg]; exact (keep_size (w := w) (g := g) (row := none) (xH0 HK.out)) : w.heap.size ≤ gb186) : w0.heap.size ≤ gb186)); replace HK := xA (KeepBut.trans (xH0 HK.out) (KeepBut.of_below hb g none) (.inl rfl)); have NB0_186 := xA ((by rw [hg]; exact Nat.ne_of_lt (IsS129.lt (show IsS129 w0 _ g s0_0 s0_1 s0_2 from xJ129_12_0 HI0.out)) : g ≠ gb186)); have NB186_0 := xA ((by rw [hg]; exact Nat.ne_of_gt (IsS129.lt (show IsS129 w0 _ g s0_0 s0_1 s0_2 from xJ129_12_0 HI0.out)) : gb186 ≠ g)); replace HI0 := xA (IsS129.below (xJ129_12_0 HI0.out) hb); clear hb hbox hg))
 (try simp only [Act.put, List.setIfInBounds_toArray, List.set_cons_zero, List.set_cons_succ])
 go_cut [11] from 5 to 5 (fun v11 wc => ∃ (kq : Nat) (x11_2 : Bool) (x1001_2 : Int) (x1002_2 : Int), v11 = .bool x11_2 ∧ Aside0 (spec_l1Cur_inWord.j0 kq x11_2 s0_0 x1001_2 x1002_2 a1_0 a1_1 = some (r1, r2, r3)) ∧ Aside0 (kq ≤ k) ∧ Aside0 (wc.heap[gb186]? = some (.cells #[.int .i64 a1_0, .bool a1_1] 46 (0, 0))) ∧ Aside0 (IsS129 w0 wc g s0_0 x1001_2 x1002_2) ∧ Aside0 (KeepBut w wc g none) ∧ Aside0 (Below w0.heap.size w0 wc))
 case first => as_aux_lemma =>
  have H := HC3.out
  clear HC3
  obtain ⟨t187, A5, H⟩ := xO H
  (try dsimp only at H)
  by_cases c6 : t187 = true
  rotate_left
  ·replace c6 := Bool.eq_false_iff.mpr c6
   subst c6
   rw [if_neg (show ¬ (false = true) by decide)] at H
   have H' := xA H
   clear H
   have hnb12 := NB186_0.out
   have hnc12 := NB0_186.out
   replace hz186 := blk_cell BK186.out; replace hy186 := blk_frozen BK186.out
   go_wp2_with (first | (refine xG (some 6) Try.func267 #[.agg #[.int .i64 a1_0, .bool a1_1]] ?_; (with_reducible refine (spec_wdGood.calls a1_0 a1_1 false _ A5.out).mono ?_); rintro e w14 ⟨rfl, hb⟩; refine ⟨_, rfl, ?_⟩; replace BK186 := xkb BK186 hb; replace HK := xA (KeepBut.trans (xH1 GW186.out HK.out) (KeepBut.of_below hb g none) (.inl rfl)); replace HB := xA (below_step (xB2 (IsS129.ge HI0.out) GE186.out HB.out) hb); replace HI0 := xA (IsS129.below (xJ129_12_1 NB0_186.out HI0.out) hb); (try clear hb)))
   go_meet
   case rel => exact ⟨_, (true), (s0_1), (s0_2), xs, H', ⟨by first | omega | exact Nat.le_refl _⟩, ⟨xK BK186.out⟩, ⟨xJ129_12_1 NB0_186.out HI0.out⟩, ⟨xH1 GW186.out HK.out⟩, ⟨xB2 (IsS129.ge HI0.out) GE186.out HB.out⟩⟩
  subst c6
  rw [if_pos rfl] at H
  replace H := Option.bind_eq_some_iff.mp H
  obtain ⟨⟨t188, t189, t190⟩, A70, H⟩ := H
  (try dsimp only at H)
  have A7 := xA A70
  clear A70
  have H' := xA H
  clear H
  have hnb8 := NB186_0.out
  have hnc8 := NB0_186.out
  replace hz186 := blk_cell BK186.out; replace hy186 := blk_frozen BK186.out
  go_wp2_with (first | (refine xG (some 6) Try.func267 #[.agg #[.int .i64 a1_0, .bool a1_1]] ?_; (with_reducible refine (spec_wdGood.calls a1_0 a1_1 true _ A5.out).mono ?_); rintro e w10 ⟨rfl, hb⟩; refine ⟨_, rfl, ?_⟩; replace BK186 := xkb BK186 hb; replace HK := xA (KeepBut.trans (xH1 GW186.out HK.out) (KeepBut.of_below hb g none) (.inl rfl)); replace HB := xA (below_step (xB2 (IsS129.ge HI0.out) GE186.out HB.out) hb); replace HI0 := xA (IsS129.below (xJ129_12_1 NB0_186.out HI0.out) hb); (try clear hb)) | (go_at_call 227; (with_reducible refine (spec_l1Cur_one.calls g s0_0 s0_1 s0_2 12 t188 t189 t190 w0 _ ?side1 ?side2 A7.out).mono ?_); (case side1 => exact xJ129_12_1 NB0_186.out HI0.out); (case side2 => exact xB2 (IsS129.ge HI0.out) GE186.out HB.out); rintro e w11 ⟨rfl, hi, hb, hk⟩; replace BK186 := xkk hk BK186 NB186_0; replace HK := xA (KeepBut.trans (xH1 GW186.out HK.out) hk (.inl rfl)); replace HB := xA (hb); replace HI0 := xA (hi); (try clear hb hk hi)))
  go_meet
  case rel => exact ⟨_, (t188), (t189), (t190), xs, H', ⟨by first | omega | exact Nat.le_refl _⟩, ⟨xK BK186.out⟩, ⟨xJ129_12_1 NB0_186.out HI0.out⟩, ⟨xH1 GW186.out HK.out⟩, ⟨xB2 (IsS129.ge HI0.out) GE186.out HB.out⟩⟩
 case rest => as_aux_lemma =>
  clear HC3
  obtain ⟨kq, x11_2, x1001_2, x1002_2, rfl, HA, HJ2, BK186, HI0, HK, HB⟩ := hcut
  cases kq with
  | zero => exact absurd HA.out (by simp [spec_l1Cur_inWord.j0])
  | succ kj2 =>
   have H := HA.out
   clear HA
   simp only [spec_l1Cur_inWord.j0] at H
   by_cases c15 : x11_2 = true
   ·subst c15
    rw [if_pos rfl] at H
    replace H := Option.bind_eq_some_iff.mp H
    obtain ⟨⟨t191, t192, t193⟩, A160, H⟩ := H
    (try dsimp only at H)
    have A16 := xA A160
    clear A160
    simp only [Option.some.injEq, Prod.mk.injEq] at H
    obtain ⟨rfl, rfl, rfl⟩ := H
    go_wp2_with (first | (refine xG (some 13) Try.func382 #[.pointer (some ⟨g, 0, none⟩)] ?_; (with_reducible refine (spec_l1Cur_number.calls g s0_0 x1001_2 x1002_2 t191 t192 t193 w0 _ ?side1 ?side2 A16.out).mono ?_); (case side1 => exact xJ129_12_1 NB0_186.out HI0.out); (case side2 => exact xB2 (IsS129.ge HI0.out) GE186.out HB.out); rintro e w17 ⟨rfl, hi, hb, hk⟩; refine ⟨_, rfl, ?_⟩; replace BK186 := xkk hk BK186 NB186_0; replace HK := xA (KeepBut.trans (xH1 GW186.out HK.out) hk (.inl rfl)); replace HB := xA (hb); replace HI0 := xA (hi); (try clear hb hk hi)))
    go_ret
    exact ⟨xr, xJ129_12_1 NB0_186.out HI0.out, xB2 (IsS129.ge HI0.out) GE186.out HB.out, xH1 GW186.out HK.out⟩
   replace c15 := Bool.eq_false_iff.mpr c15
   subst c15
   rw [if_neg (show ¬ (false = true) by decide)] at H
   replace H := Option.bind_eq_some_iff.mp H
   obtain ⟨⟨t194, t195, t196⟩, A180, H⟩ := H
   (try dsimp only at H)
   have A18 := xA A180
   clear A180
   by_cases c19 : t194 = 0
   ·rw [if_pos c19] at H
    have c19b0 : (t194 == 0) = true := beq_iff_eq.mpr c19
    have c19b1 : (t194 != 0) = false := bne_eq_false_iff_eq.mpr c19
    clear c19
    obtain ⟨t197, A20, H⟩ := xO H
    (try dsimp only at H)
    simp only [Option.some.injEq, Prod.mk.injEq] at H
    obtain ⟨rfl, rfl, rfl⟩ := H
    go_wp2_with (first | (refine xq rfl ?_; first | (refine xG (some 15) Try.func229 #[.pointer (some ⟨g, 0, none⟩), .int .i64 5] ?_; (with_reducible refine (spec_l1Cur_pick.calls g s0_0 x1001_2 x1002_2 5 t194 t195 t196 w0 _ ?side1 ?side2 A18.out).mono ?_); (case side1 => exact xJ129_12_1 NB0_186.out HI0.out); (case side2 => exact xB2 (IsS129.ge HI0.out) GE186.out HB.out); rintro e w21 ⟨rfl, hi, hb, hk⟩; refine ⟨_, rfl, ?_⟩; replace BK186 := xkk hk BK186 NB186_0; replace HK := xA (KeepBut.trans (xH1 GW186.out HK.out) hk (.inl rfl)); replace HB := xA (hb); replace HI0 := xA (hi); (try clear hb hk hi); have hnb22 := NB186_0.out; have hnc22 := NB0_186.out; replace hz186 := blk_cell BK186.out; replace hy186 := blk_frozen BK186.out) | (refine xG (some 19) Try.func268 #[.agg #[.int .i64 a1_0, .bool a1_1]] ?_; (with_reducible refine (spec_wdLow.calls a1_0 a1_1 t197 _ A20.out).mono ?_); rintro e w24 ⟨rfl, hb⟩; refine ⟨_, rfl, ?_⟩; replace BK186 := xkb BK186 hb; replace HK := xA (KeepBut.trans (xH1 GW186.out HK.out) (KeepBut.of_below hb g none) (.inl rfl)); replace HB := xA (below_step (xB2 (IsS129.ge HI0.out) GE186.out HB.out) hb); replace HI0 := xA (IsS129.below (xJ129_12_1 NB0_186.out HI0.out) hb); (try clear hb))))
    go_ret
    exact ⟨xr, xJ129_12_1 NB0_186.out HI0.out, xB2 (IsS129.ge HI0.out) GE186.out HB.out, xH1 GW186.out HK.out⟩
   rw [if_neg c19] at H
   have c19b0 : (t194 == 0) = false := beq_eq_false_iff_ne.mpr c19
   have c19b1 : (t194 != 0) = true := bne_iff_ne.mpr c19
   by_cases c25 : t194 = 1
   ·rw [if_pos c25] at H
    have c25b0 : (t194 == 1) = true := beq_iff_eq.mpr c25
    have c25b1 : (t194 != 1) = false := bne_eq_false_iff_eq.mpr c25
    clear c25
    obtain ⟨t198, A26, H⟩ := xO H
    (try dsimp only at H)
    simp only [Option.some.injEq, Prod.mk.injEq] at H
    obtain ⟨rfl, rfl, rfl⟩ := H
    go_wp2_with (first | (refine xq rfl ?_; first | (refine xG (some 15) Try.func229 #[.pointer (some ⟨g, 0, none⟩), .int .i64 5] ?_; (with_reducible refine (spec_l1Cur_pick.calls g s0_0 x1001_2 x1002_2 5 t194 t195 t196 w0 _ ?side1 ?side2 A18.out).mono ?_); (case side1 => exact xJ129_12_1 NB0_186.out HI0.out); (case side2 => exact xB2 (IsS129.ge HI0.out) GE186.out HB.out); rintro e w27 ⟨rfl, hi, hb, hk⟩; refine ⟨_, rfl, ?_⟩; replace BK186 := xkk hk BK186 NB186_0; replace HK := xA (KeepBut.trans (xH1 GW186.out HK.out) hk (.inl rfl)); replace HB := xA (hb); replace HI0 := xA (hi); (try clear hb hk hi); have hnb28 := NB186_0.out; have hnc28 := NB0_186.out; replace hz186 := blk_cell BK186.out; replace hy186 := blk_frozen BK186.out) | (refine xG (some 23) Try.func269 #[.agg #[.int .i64 a1_0, .bool a1_1]] ?_; (with_reducible refine (spec_wdHigh.calls a1_0 a1_1 t198 _ A26.out).mono ?_); rintro e w30 ⟨rfl, hb⟩; refine ⟨_, rfl, ?_⟩; replace BK186 := xkb BK186 hb; replace HK := xA (KeepBut.trans (xH1 GW186.out HK.out) (KeepBut.of_below hb g none) (.inl rfl)); replace HB := xA (below_step (xB2 (IsS129.ge HI0.out) GE186.out HB.out) hb); replace HI0 := xA (IsS129.below (xJ129_12_1 NB0_186.out HI0.out) hb); (try clear hb))))
    go_ret
    exact ⟨xr, xJ129_12_1 NB0_186.out HI0.out, xB2 (IsS129.ge HI0.out) GE186.out HB.out, xH1 GW186.out HK.out⟩
   rw [if_neg c25] at H
   have c25b0 : (t194 == 1) = false := beq_eq_false_iff_ne.mpr c25
   have c25b1 : (t194 != 1) = true := bne_iff_ne.mpr c25
   obtain ⟨t199, A31, H⟩ := xO H
   (try dsimp only at H)
   replace H := Option.bind_eq_some_iff.mp H
   obtain ⟨⟨t200, t201, t202⟩, A320, H⟩ := H
   (try dsimp only at H)
   have A32 := xA A320
   clear A320
   by_cases c33 : 0 ≤ a1_0
   rotate_left
   ·rw [if_neg c33] at H
    exact absurd H (by simp)

   rw [if_pos c33] at H
   have c33b0 := eq_true c33
   have c33b1 : decide (0 ≤ a1_0) = true := decide_eq_true c33
   clear c33
   obtain ⟨ji34, hji34⟩ : ∃ j_ : Int, (shl .i64 1 a1_0) = j_ := ⟨_, rfl⟩
   (first | rw [hji34] at H | simp only [hji34] at H)
   (try rw [hji34] at A18)
   (try rw [hji34] at A31)
   (try rw [hji34] at A32)
   have hji34_ : (IntKind.i64.wrap (1 * 2 ^ min a1_0.toNat 64)) = ji34 := hji34
   have hji34z : a1_0 ≤ 64 → (IntKind.i64.wrap (1 * 2 ^ a1_0.toNat)) = ji34 := shl_small hji34
   have hji34u : (IntKind.i64.wrap (2 ^ min a1_0.toNat 64)) = ji34 := by have h_ := hji34_; rw [Int.one_mul] at h_; exact h_
   have hji34v : a1_0 ≤ 64 → (IntKind.i64.wrap (2 ^ a1_0.toNat)) = ji34 := fun hle_ => by have h_ := hji34z hle_; rw [Int.one_mul] at h_; exact h_
   have hji34y : (wrap64 (1 * 2 ^ min a1_0.toNat 64)) = ji34 := (i64_w _).symm.trans hji34_
   have hji34x : a1_0 ≤ 64 → (wrap64 (1 * 2 ^ a1_0.toNat)) = ji34 := fun h_ => (i64_w _).symm.trans (hji34z h_)
   by_cases c35 : (ji34) = 0
   ·rw [if_pos c35] at H
    exact absurd H (by simp)
   rw [if_neg c35] at H
   have c35b0 : ((ji34) == 0) = false := beq_eq_false_iff_ne.mpr c35
   have c35b1 : ((ji34) != 0) = true := bne_iff_ne.mpr c35
   simp only [Option.some.injEq, Prod.mk.injEq] at H
   obtain ⟨rfl, rfl, rfl⟩ := H
   try go_wp2_with (first | (refine xG (some 15) Try.func229 #[.pointer (some ⟨g, 0, none⟩), .int .i64 5] ?_; (with_reducible refine (spec_l1Cur_pick.calls g s0_0 x1001_2 x1002_2 5 t194 t195 t196 w0 _ ?side1 ?side2 A18.out).mono ?_); (case side1 => exact xJ129_12_1 NB0_186.out HI0.out); (case side2 => exact xB2 (IsS129.ge HI0.out) GE186.out HB.out); rintro e w36 ⟨rfl, hi, hb, hk⟩; refine ⟨_, rfl, ?_⟩; replace BK186 := xkk hk BK186 NB186_0; replace HK := xA (KeepBut.trans (xH1 GW186.out HK.out) hk (.inl rfl)); replace HB := xA (hb); replace HI0 := xA (hi); (try clear hb hk hi)))
   replace BK186 := xA (blk_drew BK186.out)
   replace HI0 := xA (IsS129.drew HI0.out)
   replace HK := xA (keep_drew HK.out)
   replace HB := xA (below_drew1 HB.out)
   refine start_ (n := 11) (S := fun w' => w'.cell? ⟨gb186, 0, none⟩ = some (.int .i64 a1_0) ∧ w'.cell? ⟨gb186, 1, none⟩ = some (.bool a1_1)) (ds := []) x3a0 (by kernel_rfl) rfl rfl ⟨(blk_cell BK186.out 0).trans rfl, (blk_cell BK186.out 1).trans rfl⟩ (fun hHeld => ?_); refine with_tabW spec_l1Cur_inWord.tab8 spec_l1Cur_inWord.bits8 (fun HT_ HW_ => ?_)
   generalize w36.drew = w37 at BK186 HI0 HK HB hHeld ⊢
   refine xP 2 26 x3a1 ?_
   refine xP 5 29 x3a2 ?_
   refine xT2 hHeld 0 24 x3a3 ?_
   refine xT2 hHeld 6 30 x3a4 ?_
   refine xP 7 31 x3a5 ?_
   refine xU 1 25 x3a6 (fun K hK => ?_)
   refine xY Try.func268 #[.agg #[.int .i64 a1_0, .bool a1_1]] ?_
   with_reducible refine (spec_wdLow.calls a1_0 a1_1 t199 _ A31.out).mono ?_
   rintro e w38 ⟨rfl, hb⟩
   refine ⟨_, rfl, ?_⟩
   replace BK186 := xkb BK186 hb
   replace HK := xA (KeepBut.trans (xH1 GW186.out HK.out) (KeepBut.of_below hb g none) (.inl rfl))
   replace HB := xA (below_step (xB2 (IsS129.ge HI0.out) GE186.out HB.out) hb)
   replace HI0 := xA (IsS129.below (xJ129_12_1 NB0_186.out HI0.out) hb)
   (try clear hb); (try clear hb2); (try clear hk); (try clear hi)
   refine hK.out _ _ ⟨(blk_cell BK186.out 0).trans rfl, (blk_cell BK186.out 1).trans rfl⟩ (fun hHeld => ?_)
   clear hK K
   refine xN ?_
   refine xU 3 27 x3a7 (fun K hK => ?_)
   refine xY Try.func229 #[.pointer (some ⟨g, 0, none⟩), .int .i64 256] ?_
   with_reducible refine (spec_l1Cur_pick.calls g s0_0 t195 t196 256 t200 t201 t202 w0 _ ?side1 ?side2 A32.out).mono ?_
   (case side1 => exact xJ129_12_1 NB0_186.out HI0.out)
   (case side2 => exact xB2 (IsS129.ge HI0.out) GE186.out HB.out)
   rintro e w39 ⟨rfl, hi, hb, hk⟩
   refine ⟨_, rfl, ?_⟩
   replace BK186 := xkk hk BK186 NB186_0
   replace HK := xA (KeepBut.trans (xH1 GW186.out HK.out) hk (.inl rfl))
   replace HB := xA (hb)
   replace HI0 := xA (hi)
   (try clear hb); (try clear hb2); (try clear hk); (try clear hi)
   refine hK.out _ _ ⟨(blk_cell BK186.out 0).trans rfl, (blk_cell BK186.out 1).trans rfl⟩ (fun hHeld => ?_)
   clear hK K
   refine xN ?_
   refine xP 4 28 x3a8 ?_
   refine xP 8 32 x3a9 ?_
   refine xP 9 33 x3a10 ?_
   refine xP 10 4 x3a11 ?_
   refine xDn ?_
   try go_wp2
   go_ret
   exact ⟨by first | rfl | (simp [errW_none, errW_some] <;> rfl) | (simp only [← hji34]; first | rfl | (simp [errW_none, errW_some] <;> rfl)) | (simp [*, errW_none, errW_some] <;> rfl), xJ129_12_1 NB0_186.out HI0.out, xB2 (IsS129.ge HI0.out) GE186.out HB.out, xH1 GW186.out HK.out⟩
/-! ### spec_l1Cur_word: function 265 -/
def spec_l1Cur_word.f (s0_0 : List Int) (s0_1 : Int) (s0_2 : Int) : Option (Int × Bool × Int × Int) := (spec_l1Cur_one.f s0_0 s0_1 s0_2 12).bind fun bt204 => (if bt204.1 = true then ((spec_l1Cur_among.f s0_0 bt204.2.1 bt204.2.2 (([(-1), 1, 2, 16, 17, 4611686018427387904] : List Int))).bind fun bt210 => ((spec_l1Cur_one.f s0_0 bt210.2.1 bt210.2.2 2).bind fun bt213 => (some (bt210.1, bt213.1, bt213.2.1, bt213.2.2)))) else ((spec_l1Cur_pick.f s0_0 bt204.2.1 bt204.2.2 7).bind fun bt216 => ((spec_l1Cur_one.f s0_0 bt216.2.1 bt216.2.2 2).bind fun bt219 => (some (wrap64 (2 + bt216.1), bt219.1, bt219.2.1, bt219.2.2)))))
set_option maxHeartbeats 200000000 in
set_option maxRecDepth 100000 in
theorem spec_l1Cur_word.calls (g : Nat) (s0_0 : List Int) (s0_1 : Int) (s0_2 : Int) (r1 : Int) (r2 : Bool) (r3 : Int) (r4 : Int) (w0 w : World) (hI : IsS129 w0 w g s0_0 s0_1 s0_2) (hB : Below w0.heap.size w0 w) (h : spec_l1Cur_word.f s0_0 s0_1 s0_2 = some (r1, r2, r3, r4)) :
  Calls Try.prog 265 #[.pointer (some ⟨g, 0, none⟩)] w fun e w' => e = .returned (.agg #[.int .i64 r1, .bool r2]) ∧ IsS129 w0 w' g s0_0 r3 r4 ∧ Below w0.heap.size w0 w' ∧ KeepBut w w' g none := by
 have hu46 := Try.underlying46
 have HI0 := xA hI
 have HK := xA (KeepBut.refl w g none)
 have HL := xA hB.size
 clear hI
 have HW0 := xA hB.size
 have HB := xA hB
 clear hB
 have H : ((spec_l1Cur_one.f s0_0 s0_1 s0_2 12).bind fun bt204 => (if bt204.1 = true then ((spec_l1Cur_among.f s0_0 bt204.2.1 bt204.2.2 (([(-1), 1, 2, 16, 17, 4611686018427387904] : List Int))).bind fun bt210 => ((spec_l1Cur_one.f s0_0 bt210.2.1 bt210.2.2 2).bind fun bt213 => (some (bt210.1, bt213.1, bt213.2.1, bt213.2.2)))) else ((spec_l1Cur_pick.f s0_0 bt204.2.1 bt204.2.2 7).bind fun bt216 => ((spec_l1Cur_one.f s0_0 bt216.2.1 bt216.2.2 2).bind fun bt219 => (some (wrap64 (2 + bt216.1), bt219.1, bt219.2.1, bt219.2.2)))))) = some (r1, r2, r3, r4) := h
 clear h
 replace H := Option.bind_eq_some_iff.mp H
 obtain ⟨⟨t204, t205, t206⟩, A20, H⟩ := H
 (try dsimp only at H)
 have A2 := xA A20
 clear A20
 by_cases c3 : t204 = true
 rotate_left
 ·replace c3 := Bool.eq_false_iff.mpr c3
  subst c3
  rw [if_neg (show ¬ (false = true) by decide)] at H
  replace H := Option.bind_eq_some_iff.mp H
  obtain ⟨⟨t216, t217, t218⟩, A150, H⟩ := H
  (try dsimp only at H)
  have A15 := xA A150
  clear A150
  replace H := Option.bind_eq_some_iff.mp H
  obtain ⟨⟨t219, t220, t221⟩, A160, H⟩ := H
  (try dsimp only at H)
  have A16 := xA A160
  clear A160
  simp only [Option.some.injEq, Prod.mk.injEq] at H
  obtain ⟨rfl, rfl, rfl, rfl⟩ := H
  go_enter Try.func265, Try.ntmps265
  go_wp2_with (first | (refine xq rfl ?_; first | (refine xG (some 4) Try.func227 #[.pointer (some ⟨g, 0, none⟩), .int .i64 12] ?_; (with_reducible refine (spec_l1Cur_one.calls g s0_0 s0_1 s0_2 12 false t205 t206 w0 _ ?side1 ?side2 A2.out).mono ?_); (case side1 => exact xJ129_12_1 NB0_203.out HI0.out); (case side2 => exact xB2 (IsS129.ge HI0.out) GE203.out HB.out); rintro e w18 ⟨rfl, hi, hb, hk⟩; refine ⟨_, rfl, ?_⟩; replace BK203 := xkk hk BK203 NB203_0; replace HK := xA (KeepBut.trans (xH1 GW203.out HK.out) hk (.inl rfl)); replace HB := xA (hb); replace HI0 := xA (hi); (try clear hb hk hi)) | (refine xG (some 12) Try.func229 #[.pointer (some ⟨g, 0, none⟩), .int .i64 7] ?_; (with_reducible refine (spec_l1Cur_pick.calls g s0_0 t205 t206 7 t216 t217 t218 w0 _ ?side1 ?side2 A15.out).mono ?_); (case side1 => exact xJ129_12_1 NB0_203.out HI0.out); (case side2 => exact xB2 (IsS129.ge HI0.out) GE203.out HB.out); rintro e w19 ⟨rfl, hi, hb, hk⟩; refine ⟨_, rfl, ?_⟩; replace BK203 := xkk hk BK203 NB203_0; replace HK := xA (KeepBut.trans (xH1 GW203.out HK.out) hk (.inl rfl)); replace HB := xA (hb); replace HI0 := xA (hi); (try clear hb hk hi)) | (refine xG (some 15) Try.func227 #[.pointer (some ⟨g, 0, none⟩), .int .i64 2] ?_; (with_reducible refine (spec_l1Cur_one.calls g s0_0 t217 t218 2 t219 t220 t221 w0 _ ?side1 ?side2 A16.out).mono ?_); (case side1 => exact xJ129_12_1 NB0_203.out HI0.out); (case side2 => exact xB2 (IsS129.ge HI0.out) GE203.out HB.out); rintro e w20 ⟨rfl, hi, hb, hk⟩; refine ⟨_, rfl, ?_⟩; replace BK203 := xkk hk BK203 NB203_0; replace HK := xA (KeepBut.trans (xH1 GW203.out HK.out) hk (.inl rfl)); replace HB := xA (hb); replace HI0 := xA (hi); (try clear hb hk hi); have hnb21 := NB203_0.out; have hnc21 := NB0_203.out; replace hz203 := blk_cell BK203.out; replace hy203 := blk_frozen BK203.out)) | (refine xg 2 rfl ?_; refine xV 2 #[.int .i64 0, .bool false] 46 ?_; intro gb203 hg w17 hbox hb; replace HB := xA (below_step (xB1 (IsS129.ge HI0.out) HB.out) hb); have BK203 := xA (hbox); have GW203 := xA ((by rw [hg]; exact (keep_size (w := w) (g := g) (row := none) (xH0 HK.out)) : w.heap.size ≤ gb203)); have GE203 := xA ((Nat.le_trans HW0.out (by rw [hg]; exact (keep_size (w := w) (g := g) (row := none) (xH0 HK.out)) : w.heap.size ≤ gb203) : w0.heap.size ≤ gb203)); replace HK := xA (KeepBut.trans (xH0 HK.out) (KeepBut.of_below hb g none) (.inl rfl)); have NB0_203 := xA ((by rw [hg]; exact Nat.ne_of_lt (IsS129.lt (show IsS129 w0 _ g s0_0 s0_1 s0_2 from xJ129_12_0 HI0.out)) : g ≠ gb203)); have NB203_0 := xA ((by rw [hg]; exact Nat.ne_of_gt (IsS129.lt (show IsS129 w0 _ g s0_0 s0_1 s0_2 from xJ129_12_0 HI0.out)) : gb203 ≠ g)); replace HI0 := xA (IsS129.below (xJ129_12_0 HI0.out) hb); clear hb hbox hg))
  refine bodyPost_ret (results_cell_row rfl _ _ gb203 46 #[.int .i64 (wrap64 (2 + t216)), .bool t219] (0, 0) _ rfl (xPt0 BK203.out) Try.underlying46 rfl (by kernel_rfl)) rfl ?_
  exact ⟨xr, xJ129_12_1 NB0_203.out HI0.out, xB2 (IsS129.ge HI0.out) GE203.out HB.out, xH1 GW203.out HK.out⟩

 subst c3
 rw [if_pos rfl] at H
 obtain ⟨y207, hy207⟩ : ∃ y_ : List Int, y_ = (([(-1), 1, 2, 16, 17, 4611686018427387904] : List Int)) := ⟨_, rfl⟩
 replace H : ((spec_l1Cur_among.f s0_0 t205 t206 y207).bind fun bt210 => ((spec_l1Cur_one.f s0_0 bt210.2.1 bt210.2.2 2).bind fun bt213 => (some (bt210.1, bt213.1, bt213.2.1, bt213.2.2)))) = some (r1, r2, r3, r4) := by first | (rw [hy207]; with_reducible exact H) | (have H2_ := (Option.bind_some _ _).symm.trans H; rw [hy207]; with_reducible exact H2_) | (have H2_ := (Option.bind_some _ _).symm.trans H; with_reducible exact H2_) | with_reducible exact H | (rw [hy207]; exact H) | exact H
 have Ny207 := xA hy207
 clear hy207
 replace H := Option.bind_eq_some_iff.mp H
 obtain ⟨⟨t210, t211, t212⟩, A40, H⟩ := H
 (try dsimp only at H)
 have A4 := xA A40
 clear A40
 replace H := Option.bind_eq_some_iff.mp H
 obtain ⟨⟨t213, t214, t215⟩, A50, H⟩ := H
 (try dsimp only at H)
 have A5 := xA A50
 clear A50
 simp only [Option.some.injEq, Prod.mk.injEq] at H
 obtain ⟨rfl, rfl, rfl, rfl⟩ := H
 go_enter Try.func265, Try.ntmps265
 go_wp2_with (first | (refine xq rfl ?_; first | (refine xG (some 4) Try.func227 #[.pointer (some ⟨g, 0, none⟩), .int .i64 12] ?_; (with_reducible refine (spec_l1Cur_one.calls g s0_0 s0_1 s0_2 12 true t205 t206 w0 _ ?side1 ?side2 A2.out).mono ?_); (case side1 => exact xJ129_12_1 NB0_203.out HI0.out); (case side2 => exact xB2 (IsS129.ge HI0.out) GE203.out HB.out); rintro e w7 ⟨rfl, hi, hb, hk⟩; refine ⟨_, rfl, ?_⟩; replace BK203 := xkk hk BK203 NB203_0; replace HK := xA (KeepBut.trans (xH1 GW203.out HK.out) hk (.inl rfl)); replace HB := xA (hb); replace HI0 := xA (hi); (try clear hb hk hi)) | (refine xG (some 7) Try.func228 #[.pointer (some ⟨g, 0, none⟩), .slice Ao10 y207.length co10] ?_; (with_reducible refine (spec_l1Cur_among.calls g s0_0 t205 t206 _ _ y207 t210 t211 t212 w0 _ ?side1 ?side2 ?side3 ?side4 ?side5 A4.out).mono ?_); (case side1 => exact xJ129_12_1 NB0_203.out HI0.out); (case side2 => exact xB2 (IsS129.ge HI0.out) GE203.out HB.out); (case side3 => exact xC ((Kd.R_reads' HO209.out).2.2)); (case side4 => exact (Kd.R_reads' HO209.out).2.1); (case side5 => exact far_slice (IsS129.own_ne HI0.out HO209.out (by decide))); rintro e w11 ⟨rfl, hi, hb, hk⟩; refine ⟨_, rfl, ?_⟩; replace BK203 := xkk hk BK203 NB203_0; replace HO209 := xA (Kd.R_mono (Kd.R_keep (IsS129.apart (show IsS129 w0 _ g s0_0 t205 t206 from xJ129_12_1 NB0_203.out HI0.out) (xR HO209.out) (by decide)) hk (fun _ h => h.2)) (fun _ h => h.1)); replace HK := xA (KeepBut.trans (xH1 GW203.out HK.out) hk (.inl rfl)); replace HB := xA (hb); replace HI0 := xA (hi); (try clear hb hk hi)) | (refine xG (some 9) Try.func227 #[.pointer (some ⟨g, 0, none⟩), .int .i64 2] ?_; (with_reducible refine (spec_l1Cur_one.calls g s0_0 t211 t212 2 t213 t214 t215 w0 _ ?side1 ?side2 A5.out).mono ?_); (case side1 => exact xJ129_12_1 NB0_203.out HI0.out); (case side2 => exact xB2 (IsS129.ge HI0.out) GE203.out HB.out); rintro e w12 ⟨rfl, hi, hb, hk⟩; refine ⟨_, rfl, ?_⟩; replace BK203 := xkk hk BK203 NB203_0; replace HO209 := xA (Kd.R_mono (Kd.R_keep (IsS129.apart (show IsS129 w0 _ g s0_0 t211 t212 from xJ129_12_1 NB0_203.out HI0.out) (xR HO209.out) (by decide)) hk (fun _ h => h.2)) (fun _ h => h.1)); replace HK := xA (KeepBut.trans (xH1 GW203.out HK.out) hk (.inl rfl)); replace HB := xA (hb); replace HI0 := xA (hi); (try clear hb hk hi); have hnb13 := NB203_0.out; have hnc13 := NB0_203.out; replace hz203 := blk_cell BK203.out; replace hy203 := blk_frozen BK203.out)) | (refine xg 2 rfl ?_; refine xV 2 #[.int .i64 0, .bool false] 46 ?_; intro gb203 hg w6 hbox hb; replace HB := xA (below_step (xB1 (IsS129.ge HI0.out) HB.out) hb); have BK203 := xA (hbox); have GW203 := xA ((by rw [hg]; exact (keep_size (w := w) (g := g) (row := none) (xH0 HK.out)) : w.heap.size ≤ gb203)); have GE203 := xA ((Nat.le_trans HW0.out (by rw [hg]; exact (keep_size (w := w) (g := g) (row := none) (xH0 HK.out)) : w.heap.size ≤ gb203) : w0.heap.size ≤ gb203)); replace HK := xA (KeepBut.trans (xH0 HK.out) (KeepBut.of_below hb g none) (.inl rfl)); have NB0_203 := xA ((by rw [hg]; exact Nat.ne_of_lt (IsS129.lt (show IsS129 w0 _ g s0_0 s0_1 s0_2 from xJ129_12_0 HI0.out)) : g ≠ gb203)); have NB203_0 := xA ((by rw [hg]; exact Nat.ne_of_gt (IsS129.lt (show IsS129 w0 _ g s0_0 s0_1 s0_2 from xJ129_12_0 HI0.out)) : gb203 ≠ g)); replace HI0 := xA (IsS129.below (xJ129_12_0 HI0.out) hb); clear hb hbox hg) | ((with_reducible refine gate_dst (N := 6) rfl ?_); refine Kd.R_lit (Kd.int .i64) _ 3 ?hg (N := 6) ?hd (xs := ([(-1), 1, 2, 16, 17, 4611686018427387904] : List Int)) (inner := [.int .i64 (-1), .int .i64 1, .int .i64 2, .int .i64 16, .int .i64 17, .int .i64 4611686018427387904]) (ok := fun _ => True) (okp := fun _ => True) ?hr ?hp (fun _ hk => hk) trivial (Below.refl _ _) (Nat.le_refl _) (by simp) ?_; (case hd => rfl); (case hg => rfl); (case hr => first | (go_simp; done) | (go_simp; rfl)); (case hp => exact (Reps.one (show Kd.M (Kd.int .i64) _ _ _ (-1) [.int .i64 (-1)] from rfl) (Reps.one (show Kd.M (Kd.int .i64) _ _ _ 1 [.int .i64 1] from rfl) (Reps.one (show Kd.M (Kd.int .i64) _ _ _ 2 [.int .i64 2] from rfl) (Reps.one (show Kd.M (Kd.int .i64) _ _ _ 16 [.int .i64 16] from rfl) (Reps.one (show Kd.M (Kd.int .i64) _ _ _ 17 [.int .i64 17] from rfl) (Reps.one (show Kd.M (Kd.int .i64) _ _ _ 4611686018427387904 [.int .i64 4611686018427387904] from rfl) (Reps.none _ _)))))))); intro v208 w8 ho9 hb hg_ hnew_; clear hg_ hnew_; (first | rw [← Ny207.out] at ho9 | (simp only [Int.reduceToNat] at ho9; rw [← Ny207.out] at ho9)); have HO209 := xA (Kd.R_lower ho9 (keep_size (w := w) (g := g) (row := none) (xH1 GW203.out HK.out))); replace BK203 := xkb BK203 hb; replace HK := xA (KeepBut.trans (xH1 GW203.out HK.out) (KeepBut.of_below hb g none) (.inl rfl)); replace HB := xA (below_step (xB2 (IsS129.ge HI0.out) GE203.out HB.out) hb); replace HI0 := xA (IsS129.below (xJ129_12_1 NB0_203.out HI0.out) hb); clear hb ho9; obtain ⟨Ao10, co10, eo10⟩ := Kd.R_slice HO209.out; subst eo10))
 refine bodyPost_ret (results_cell_row rfl _ _ gb203 46 #[.int .i64 t210, .bool t213] (0, 0) _ rfl (xPt0 BK203.out) Try.underlying46 rfl (by kernel_rfl)) rfl ?_
 exact ⟨xr, xJ129_12_1 NB0_203.out HI0.out, xB2 (IsS129.ge HI0.out) GE203.out HB.out, xH1 GW203.out HK.out⟩
end Go.Proofs.Ytjplcongellcmaa.PFnPairsRun
