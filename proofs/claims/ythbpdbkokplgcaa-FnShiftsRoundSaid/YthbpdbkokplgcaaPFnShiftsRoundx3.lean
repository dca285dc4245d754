/- What each Go function that the statement FnShiftsRound reaches answers, proved call by call. No condition beyond those that the theorems print. (Written by wip/tools/xprint.py of this repo, over the kit's print.) -/
import Derived.Test.YthbpdbkokplgcaaPFnShiftsRoundx0
import Derived.Test.YthbpdbkokplgcaaPFnShiftsRoundx1
import Derived.Test.YthbpdbkokplgcaaPFnShiftsRoundx2
namespace Go.Proofs.Ythbpdbkokplgcaa.PFnShiftsRound
open Go.RowKit Go.Proofs.YthbpdbkokplgcaaW.PrintWords Go.Proofs.YthbpdbkokplgcaaW.PrintLast Go.Proofs.YthbpdbkokplgcaaW.PrintMore
attribute [local go_sem] max2_int min2_int max_two min_two max_three min_three max_four min_four   -- for this text's walks alone
set_option linter.unusedVariables false
set_option linter.unusedSimpArgs false

/-! ### laws_FnShiftsRound: function 7 -/
mutual
def laws_FnShiftsRound.j0 : Nat → Int → Int → Int → Int → Bool → Int → Bool → Option (Bool)
 | 0, _, _, _, _, _, _, _ => none
 | k + 1, x5, x6, x7, x8, x9, x12, x80 => if x80 = true then (some false) else (if x9 = true then (if 0 ≤ x6 then ((impl_RoundShift.f k x5 x6 0).bind fun bt191 => (if (wrap64 ((wrap64 (x8 * (shl .i64 1 x6))) + x12)) = x5 then (if bt191.2 = true then (if x8 = bt191.1 then (laws_FnShiftsRound.j1 k x5 x6 x7 x8 x12 (shl .i64 1 x6) false) else (laws_FnShiftsRound.j1 k x5 x6 x7 x8 x12 (shl .i64 1 x6) (x8 != (wrap64 (bt191.1 + 1))))) else (laws_FnShiftsRound.j1 k x5 x6 x7 x8 x12 (shl .i64 1 x6) true)) else (laws_FnShiftsRound.j1 k x5 x6 x7 x8 x12 (shl .i64 1 x6) true))) else (none)) else (some true))
def laws_FnShiftsRound.j1 : Nat → Int → Int → Int → Int → Int → Int → Bool → Option (Bool)
 | 0, _, _, _, _, _, _, _ => none
 | k + 1, x5, x6, x7, x8, x12, x16, x111 => if x111 = true then (some false) else (if x7 = 0 then (if x12 < 0 then (some false) else (if x12 ≥ x16 then (some false) else (laws_FnShiftsRound.j2 k x5 x6 x7 x8))) else (if x7 = 1 then (if (wrap64 (2 * x12)) < (wrap64 (-x16)) then (some false) else (if (wrap64 (2 * x12)) ≥ x16 then (if x16 > 1 then (some false) else (if x16 = 1 then (if x12 = 0 then (laws_FnShiftsRound.j2 k x5 x6 x7 x8) else (some false)) else (laws_FnShiftsRound.j2 k x5 x6 x7 x8))) else (if x16 = 1 then (if x12 = 0 then (laws_FnShiftsRound.j2 k x5 x6 x7 x8) else (some false)) else (laws_FnShiftsRound.j2 k x5 x6 x7 x8)))) else ((laws_iSize.f x12).bind fun t193 => (if t193 ≥ x16 then (some false) else (if x5 > 0 then (if x12 < 0 then (some false) else (if x5 < 0 then (if x12 > 0 then (some false) else (laws_FnShiftsRound.j2 k x5 x6 x7 x8)) else (laws_FnShiftsRound.j2 k x5 x6 x7 x8))) else (if x5 < 0 then (if x12 > 0 then (some false) else (laws_FnShiftsRound.j2 k x5 x6 x7 x8)) else (laws_FnShiftsRound.j2 k x5 x6 x7 x8)))))))
def laws_FnShiftsRound.j2 : Nat → Int → Int → Int → Int → Option (Bool)
 | 0, _, _, _, _ => none
 | k + 1, x5, x6, x7, x8 => if x7 = 2 then (laws_FnShiftsRound.j3 k x5 x6 x7 x8 (decide (x5 > (-1000000000000)))) else (laws_FnShiftsRound.j3 k x5 x6 x7 x8 false)
def laws_FnShiftsRound.j3 : Nat → Int → Int → Int → Int → Bool → Option (Bool)
 | 0, _, _, _, _, _ => none
 | k + 1, x5, x6, x7, x8, x172 => if x172 = true then ((impl_RoundShift.f k (wrap64 (-x5)) x6 x7).bind fun bt194 => (if bt194.2 = true then (if bt194.1 = (wrap64 (-x8)) then (some true) else (some false)) else (some false))) else (some true)
end
def laws_FnShiftsRound.f (k : Nat) (l0 : List Int) (l1 : List Int) : Option (Bool) := (laws_big.f l0 l1).bind fun t179 => (if t179 = true then (some true) else ((spec_DrawRoundShift.f l0).bind fun bt180 => ((impl_RoundShift.f k bt180.1 bt180.2.1 bt180.2.2).bind fun bt183 => ((spec_RoundShift.f k bt180.1 bt180.2.1 bt180.2.2).bind fun bt185 => ((impl_RestOfShift.f k bt180.1 bt180.2.1 bt180.2.2).bind fun bt187 => ((spec_RestOfShift.f k bt180.1 bt180.2.1 bt180.2.2).bind fun bt189 => (if (bt183.2 != bt185.2) = true then (laws_FnShiftsRound.j0 k bt180.1 bt180.2.1 bt180.2.2 bt183.1 bt183.2 bt187.1 true) else (if bt183.1 = bt185.1 then (if (bt187.2 != bt189.2) = true then (laws_FnShiftsRound.j0 k bt180.1 bt180.2.1 bt180.2.2 bt183.1 bt183.2 bt187.1 true) else (if bt187.1 = bt189.1 then (laws_FnShiftsRound.j0 k bt180.1 bt180.2.1 bt180.2.2 bt183.1 bt183.2 bt187.1 (bt187.2 != bt183.2)) else (laws_FnShiftsRound.j0 k bt180.1 bt180.2.1 bt180.2.2 bt183.1 bt183.2 bt187.1 true))) else (laws_FnShiftsRound.j0 k bt180.1 bt180.2.1 bt180.2.2 bt183.1 bt183.2 bt187.1 true)))))))))
theorem laws_FnShiftsRound.mono_l : ∀ k, (∀ y0 y1 y2 y3 y4 y5 y6, LeO (laws_FnShiftsRound.j0 k y0 y1 y2 y3 y4 y5 y6) (laws_FnShiftsRound.j0 (k + 1) y0 y1 y2 y3 y4 y5 y6)) ∧ (∀ y0 y1 y2 y3 y4 y5 y6, LeO (laws_FnShiftsRound.j1 k y0 y1 y2 y3 y4 y5 y6) (laws_FnShiftsRound.j1 (k + 1) y0 y1 y2 y3 y4 y5 y6)) ∧ (∀ y0 y1 y2 y3, LeO (laws_FnShiftsRound.j2 k y0 y1 y2 y3) (laws_FnShiftsRound.j2 (k + 1) y0 y1 y2 y3)) ∧ (∀ y0 y1 y2 y3 y4, LeO (laws_FnShiftsRound.j3 k y0 y1 y2 y3 y4) (laws_FnShiftsRound.j3 (k + 1) y0 y1 y2 y3 y4))
 | 0 => ⟨fun _ _ _ _ _ _ _ r h => by simp [laws_FnShiftsRound.j0] at h, fun _ _ _ _ _ _ _ r h => by simp [laws_FnShiftsRound.j1] at h, fun _ _ _ _ r h => by simp [laws_FnShiftsRound.j2] at h, fun _ _ _ _ _ r h => by simp [laws_FnShiftsRound.j3] at h⟩
 | k + 1 => by
  obtain ⟨ih0, ih1, ih2, ih3⟩ := laws_FnShiftsRound.mono_l k
  refine ⟨?_, ?_, ?_, ?_⟩
  ·intro y0 y1 y2 y3 y4 y5 y6
   unfold laws_FnShiftsRound.j0
   repeat' first
   | (with_reducible exact ih0 _ _ _ _ _ _ _)
   | (with_reducible exact ih1 _ _ _ _ _ _ _)
   | (with_reducible exact ih2 _ _ _ _)
   | (with_reducible exact ih3 _ _ _ _ _)
   | (with_reducible exact impl_RestOfShift.mono _ _ _ _)
   | (with_reducible exact impl_RoundShift.mono _ _ _ _)
   | (with_reducible exact spec_RestOfShift.mono _ _ _ _)
   | (with_reducible exact spec_RoundShift.mono _ _ _ _)
   | (with_reducible exact LeO.refl _)
   | (with_reducible exact LeO.none _)
   | (with_reducible refine LeO.ite ?_ ?_)
   | (with_reducible refine LeO.bind ?_ (fun _ => ?_))
   | exact ih0 _ _ _ _ _ _ _
   | exact ih1 _ _ _ _ _ _ _
   | exact ih2 _ _ _ _
   | exact ih3 _ _ _ _ _
   | exact impl_RestOfShift.mono _ _ _ _
   | exact impl_RoundShift.mono _ _ _ _
   | exact spec_RestOfShift.mono _ _ _ _
   | exact spec_RoundShift.mono _ _ _ _
   | exact LeO.none _
   | refine LeO.ite ?_ ?_
   | refine LeO.bind ?_ (fun _ => ?_)
  ·intro y0 y1 y2 y3 y4 y5 y6
   unfold laws_FnShiftsRound.j1
   repeat' first
   | (with_reducible exact ih0 _ _ _ _ _ _ _)
   | (with_reducible exact ih1 _ _ _ _ _ _ _)
   | (with_reducible exact ih2 _ _ _ _)
   | (with_reducible exact ih3 _ _ _ _ _)
   | (with_reducible exact impl_RestOfShift.mono _ _ _ _)
   | (with_reducible exact impl_RoundShift.mono _ _ _ _)
   | (with_reducible exact spec_RestOfShift.mono _ _ _ _)
   | (with_reducible exact spec_RoundShift.mono _ _ _ _)
   | (with_reducible exact LeO.refl _)
   | (with_reducible exact LeO.none _)
   | (with_reducible refine LeO.ite ?_ ?_)
   | (with_reducible refine LeO.bind ?_ (fun _ => ?_))
   | exact ih0 _ _ _ _ _ _ _
   | exact ih1 _ _ _ _ _ _ _
   | exact ih2 _ _ _ _
   | exact ih3 _ _ _ _ _
   | exact impl_RestOfShift.mono _ _ _ _
   | exact impl_RoundShift.mono _ _ _ _
   | exact spec_RestOfShift.mono _ _ _ _
   | exact spec_RoundShift.mono _ _ _ _
   | exact LeO.none _
   | refine LeO.ite ?_ ?_
   | refine LeO.bind ?_ (fun _ => ?_)
  ·intro y0 y1 y2 y3
   unfold laws_FnShiftsRound.j2
   repeat' first
   | (with_reducible exact ih0 _ _ _ _ _ _ _)
   | (with_reducible exact ih1 _ _ _ _ _ _ _)
   | (with_reducible exact ih2 _ _ _ _)
   | (with_reducible exact ih3 _ _ _ _ _)
   | (with_reducible exact impl_RestOfShift.mono _ _ _ _)
   | (with_reducible exact impl_RoundShift.mono _ _ _ _)
   | (with_reducible exact spec_RestOfShift.mono _ _ _ _)
   | (with_reducible exact spec_RoundShift.mono _ _ _ _)
   | (with_reducible exact LeO.refl _)
   | (with_reducible exact LeO.none _)
   | (with_reducible refine LeO.ite ?_ ?_)
   | (with_reducible refine LeO.bind ?_ (fun _ => ?_))
   | exact ih0 _ _ _ _ _ _ _
   | exact ih1 _ _ _ _ _ _ _
   | exact ih2 _ _ _ _
   | exact ih3 _ _ _ _ _
   | exact impl_RestOfShift.mono _ _ _ _
   | exact impl_RoundShift.mono _ _ _ _
   | exact spec_RestOfShift.mono _ _ _ _
   | exact spec_RoundShift.mono _ _ _ _
   | exact LeO.none _
   | refine LeO.ite ?_ ?_
   | refine LeO.bind ?_ (fun _ => ?_)
  ·intro y0 y1 y2 y3 y4
   unfold laws_FnShiftsRound.j3
   repeat' first
   | (with_reducible exact ih0 _ _ _ _ _ _ _)
   | (with_reducible exact ih1 _ _ _ _ _ _ _)
   | (with_reducible exact ih2 _ _ _ _)
   | (with_reducible exact ih3 _ _ _ _ _)
   | (with_reducible exact impl_RestOfShift.mono _ _ _ _)
   | (with_reducible exact impl_RoundShift.mono _ _ _ _)
   | (with_reducible exact spec_RestOfShift.mono _ _ _ _)
   | (with_reducible exact spec_RoundShift.mono _ _ _ _)
   | (with_reducible exact LeO.refl _)
   | (with_reducible exact LeO.none _)
   | (with_reducible refine LeO.ite ?_ ?_)
   | (with_reducible refine LeO.bind ?_ (fun _ => ?_))
   | exact ih0 _ _ _ _ _ _ _
   | exact ih1 _ _ _ _ _ _ _
   | exact ih2 _ _ _ _
   | exact ih3 _ _ _ _ _
   | exact impl_RestOfShift.mono _ _ _ _
   | exact impl_RoundShift.mono _ _ _ _
   | exact spec_RestOfShift.mono _ _ _ _
   | exact spec_RoundShift.mono _ _ _ _
   | exact LeO.none _
   | refine LeO.ite ?_ ?_
   | refine LeO.bind ?_ (fun _ => ?_)
theorem laws_FnShiftsRound.mono : ∀ a0 a1 k, LeO (laws_FnShiftsRound.f k a0 a1) (laws_FnShiftsRound.f (k + 1) a0 a1) := by
 intro a0 a1 k
 obtain ⟨ih0, ih1, ih2, ih3⟩ := laws_FnShiftsRound.mono_l k
 unfold laws_FnShiftsRound.f
 repeat' first
   | (with_reducible exact ih0 _ _ _ _ _ _ _)
   | (with_reducible exact ih1 _ _ _ _ _ _ _)
   | (with_reducible exact ih2 _ _ _ _)
   | (with_reducible exact ih3 _ _ _ _ _)
   | (with_reducible exact impl_RestOfShift.mono _ _ _ _)
   | (with_reducible exact impl_RoundShift.mono _ _ _ _)
   | (with_reducible exact spec_RestOfShift.mono _ _ _ _)
   | (with_reducible exact spec_RoundShift.mono _ _ _ _)
   | (with_reducible exact LeO.refl _)
   | (with_reducible exact LeO.none _)
   | (with_reducible refine LeO.ite ?_ ?_)
   | (with_reducible refine LeO.bind ?_ (fun _ => ?_))
   | exact ih0 _ _ _ _ _ _ _
   | exact ih1 _ _ _ _ _ _ _
   | exact ih2 _ _ _ _
   | exact ih3 _ _ _ _ _
   | exact impl_RestOfShift.mono _ _ _ _
   | exact impl_RoundShift.mono _ _ _ _
   | exact spec_RestOfShift.mono _ _ _ _
   | exact spec_RoundShift.mono _ _ _ _
   | exact LeO.none _
   | refine LeO.ite ?_ ?_
   | refine LeO.bind ?_ (fun _ => ?_)
set_option maxHeartbeats 8000000 in
set_option maxRecDepth 100000 in
theorem laws_FnShiftsRound.calls (k : Nat) (A0 : Option Addr) (c0 : Nat) (l0 : List Int) (A1 : Option Addr) (c1 : Nat) (l1 : List Int) (r : Bool) (w : World) (hr0 : Kd.C (Kd.int .u8) w A0 l0.length l0) (hc0 : l0.length ≤ c0) (hr1 : Kd.C (Kd.int .u8) w A1 l1.length l1) (hc1 : l1.length ≤ c1) (h : laws_FnShiftsRound.f k l0 l1 = some r) (hr_ : r = true) :
  Calls Try.prog 7 #[.slice A0 l0.length c0, .slice A1 l1.length c1] w fun e w' => e = .returned (.bool r) ∧ Below w.heap.size w w' := by
 have HRT := Aside0.mk hr_
 clear hr_
 have HR0 := Aside0.mk hr0
 have HC0 := Aside0.mk hc0
 clear hr0 hc0
 have HR1 := Aside0.mk hr1
 have HC1 := Aside0.mk hc1
 clear hr1 hc1
 have HB := Aside0.mk (Below.refl w.heap.size w)
 have H : ((laws_big.f l0 l1).bind fun t179 => (if t179 = true then (some true) else ((spec_DrawRoundShift.f l0).bind fun bt180 => ((impl_RoundShift.f k bt180.1 bt180.2.1 bt180.2.2).bind fun bt183 => ((spec_RoundShift.f k bt180.1 bt180.2.1 bt180.2.2).bind fun bt185 => ((impl_RestOfShift.f k bt180.1 bt180.2.1 bt180.2.2).bind fun bt187 => ((spec_RestOfShift.f k bt180.1 bt180.2.1 bt180.2.2).bind fun bt189 => (if (bt183.2 != bt185.2) = true then (laws_FnShiftsRound.j0 k bt180.1 bt180.2.1 bt180.2.2 bt183.1 bt183.2 bt187.1 true) else (if bt183.1 = bt185.1 then (if (bt187.2 != bt189.2) = true then (laws_FnShiftsRound.j0 k bt180.1 bt180.2.1 bt180.2.2 bt183.1 bt183.2 bt187.1 true) else (if bt187.1 = bt189.1 then (laws_FnShiftsRound.j0 k bt180.1 bt180.2.1 bt180.2.2 bt183.1 bt183.2 bt187.1 (bt187.2 != bt183.2)) else (laws_FnShiftsRound.j0 k bt180.1 bt180.2.1 bt180.2.2 bt183.1 bt183.2 bt187.1 true))) else (laws_FnShiftsRound.j0 k bt180.1 bt180.2.1 bt180.2.2 bt183.1 bt183.2 bt187.1 true)))))))))) = some r := h
 clear h
 replace H := Option.bind_eq_some_iff.mp H
 obtain ⟨t179, A30, H⟩ := H
 (try dsimp only at H)
 have A3 := Aside0.mk A30
 clear A30
 by_cases c4 : t179 = true
 ·subst c4
  have H1 := H
  rw [if_pos rfl] at H1
  clear H
  have H := H1
  clear H1
  obtain rfl := Option.some.inj H
  go_enter Try.func7, Try.ntmps7
  go_wp2_with (first | ((with_reducible refine gate_callee (f := 27) rfl ?_); refine goesL_ (some 23) rfl rfl Try.func27 (by kernel_rfl) rfl #[.slice A0 l0.length c0, .slice A1 l1.length c1] rfl (by (try simp only [List.map_toArray, List.map_cons, List.map_nil]); first | done | rfl | (simp only [List.length_drop, List.length_take]; rfl)) ?_; (with_reducible refine (laws_big.calls _ _ l0 _ _ l1 true _ ?side1 ?side2 ?side3 ?side4 A3.out).mono ?_); (case side1 => repeat (first | exact HR0.out | (with_reducible refine Kd.C_alloc ?_ _) | (with_reducible refine Kd.C_drewN ?_ _) | (with_reducible refine Kd.C_drew ?_))); (case side2 => exact HC0.out); (case side3 => repeat (first | exact HR1.out | (with_reducible refine Kd.C_alloc ?_ _) | (with_reducible refine Kd.C_drewN ?_ _) | (with_reducible refine Kd.C_drew ?_))); (case side4 => exact HC1.out); rintro e w' ⟨rfl, ⟨nd, rfl⟩⟩; refine ⟨_, rfl, ?_⟩))
  go_ret
  exact ⟨by first | rfl | (simp [errW_none, errW_some] <;> rfl) | (simp [*, errW_none, errW_some] <;> rfl), by repeat (first | (with_reducible first | exact HB.out | apply below_alloc | apply pw_below_drewN | apply below_drew1) | exact HB.out)⟩
 ·replace c4 := Bool.eq_false_iff.mpr c4
  subst c4
  have H1 := H
  rw [if_neg (show ¬ (false = true) by decide)] at H1
  clear H
  have H := H1
  clear H1
  replace H := Option.bind_eq_some_iff.mp H
  obtain ⟨⟨t180, t181, t182⟩, A50, H⟩ := H
  (try dsimp only at H)
  have A5 := Aside0.mk A50
  clear A50
  replace H := Option.bind_eq_some_iff.mp H
  obtain ⟨⟨t183, t184⟩, A60, H⟩ := H
  (try dsimp only at H)
  have A6 := Aside0.mk A60
  clear A60
  replace H := Option.bind_eq_some_iff.mp H
  obtain ⟨⟨t185, t186⟩, A70, H⟩ := H
  (try dsimp only at H)
  have A7 := Aside0.mk A70
  clear A70
  replace H := Option.bind_eq_some_iff.mp H
  obtain ⟨⟨t187, t188⟩, A80, H⟩ := H
  (try dsimp only at H)
  have A8 := Aside0.mk A80
  clear A80
  replace H := Option.bind_eq_some_iff.mp H
  obtain ⟨⟨t189, t190⟩, A90, H⟩ := H
  (try dsimp only at H)
  have A9 := Aside0.mk A90
  clear A90
  have HC10 := Aside0.mk H
  clear H
  go_enter Try.func7, Try.ntmps7
  go_upto_region 8 with (first | ((with_reducible refine gate_callee (f := 27) rfl ?_); refine goesL_ (some 23) rfl rfl Try.func27 (by kernel_rfl) rfl #[.slice A0 l0.length c0, .slice A1 l1.length c1] rfl (by (try simp only [List.map_toArray, List.map_cons, List.map_nil]); first | done | rfl | (simp only [List.length_drop, List.length_take]; rfl)) ?_; (with_reducible refine (laws_big.calls _ _ l0 _ _ l1 false _ ?side1 ?side2 ?side3 ?side4 A3.out).mono ?_); (case side1 => repeat (first | exact HR0.out | (with_reducible refine Kd.C_alloc ?_ _) | (with_reducible refine Kd.C_drewN ?_ _) | (with_reducible refine Kd.C_drew ?_))); (case side2 => exact HC0.out); (case side3 => repeat (first | exact HR1.out | (with_reducible refine Kd.C_alloc ?_ _) | (with_reducible refine Kd.C_drewN ?_ _) | (with_reducible refine Kd.C_drew ?_))); (case side4 => exact HC1.out); rintro e w' ⟨rfl, ⟨nd, rfl⟩⟩; refine ⟨_, rfl, ?_⟩) | ((with_reducible refine gate_callee (f := 28) rfl ?_); refine goesL_ (some 26) rfl rfl Try.func28 (by kernel_rfl) rfl #[.slice A0 l0.length c0] rfl (by (try simp only [List.map_toArray, List.map_cons, List.map_nil]); first | done | rfl | (simp only [List.length_drop, List.length_take]; rfl)) ?_; (with_reducible refine (spec_DrawRoundShift.calls _ _ l0 t180 t181 t182 _ ?side1 ?side2 A5.out).mono ?_); (case side1 => repeat (first | exact HR0.out | (with_reducible refine Kd.C_alloc ?_ _) | (with_reducible refine Kd.C_drewN ?_ _) | (with_reducible refine Kd.C_drew ?_))); (case side2 => exact HC0.out); rintro e w11 ⟨rfl, hb⟩; refine ⟨_, rfl, ?_⟩; have n0_ := Aside0.mk (below_step (by repeat (first | (with_reducible first | exact HB.out | apply below_alloc | apply pw_below_drewN | apply below_drew1) | exact HB.out)) hb); clear HB; have HB := n0_; clear n0_; (try clear hb); (try clear hb2); (try clear hk); (try clear hi)) | ((with_reducible refine gate_callee (f := 29) rfl ?_); refine goesL_ (some 34) rfl rfl Try.func29 (by kernel_rfl) rfl #[.int .i64 t180, .int .i64 t181, .int .i64 t182] rfl (by (try simp only [List.map_toArray, List.map_cons, List.map_nil]); first | done | rfl | (simp only [List.length_drop, List.length_take]; rfl)) ?_; (with_reducible refine (impl_RoundShift.calls k t180 t181 t182 t183 t184 _ A6.out).mono ?_); rintro e w' ⟨rfl, ⟨nd, rfl⟩⟩; refine ⟨_, rfl, ?_⟩) | ((with_reducible refine gate_callee (f := 30) rfl ?_); refine goesL_ (some 41) rfl rfl Try.func30 (by kernel_rfl) rfl #[.int .i64 t180, .int .i64 t181, .int .i64 t182] rfl (by (try simp only [List.map_toArray, List.map_cons, List.map_nil]); first | done | rfl | (simp only [List.length_drop, List.length_take]; rfl)) ?_; (with_reducible refine (spec_RoundShift.calls k t180 t181 t182 t185 t186 _ A7.out).mono ?_); rintro e w' ⟨rfl, ⟨nd, rfl⟩⟩; refine ⟨_, rfl, ?_⟩) | ((with_reducible refine gate_callee (f := 31) rfl ?_); refine goesL_ (some 48) rfl rfl Try.func31 (by kernel_rfl) rfl #[.int .i64 t180, .int .i64 t181, .int .i64 t182] rfl (by (try simp only [List.map_toArray, List.map_cons, List.map_nil]); first | done | rfl | (simp only [List.length_drop, List.length_take]; rfl)) ?_; (with_reducible refine (impl_RestOfShift.calls k t180 t181 t182 t187 t188 _ A8.out).mono ?_); rintro e w' ⟨rfl, ⟨nd, rfl⟩⟩; refine ⟨_, rfl, ?_⟩) | ((with_reducible refine gate_callee (f := 32) rfl ?_); refine goesL_ (some 55) rfl rfl Try.func32 (by kernel_rfl) rfl #[.int .i64 t180, .int .i64 t181, .int .i64 t182] rfl (by (try simp only [List.map_toArray, List.map_cons, List.map_nil]); first | done | rfl | (simp only [List.length_drop, List.length_take]; rfl)) ?_; (with_reducible refine (spec_RestOfShift.calls k t180 t181 t182 t189 t190 _ A9.out).mono ?_); rintro e w' ⟨rfl, ⟨nd, rfl⟩⟩; refine ⟨_, rfl, ?_⟩))
  (try simp only [Act.put, List.setIfInBounds_toArray, List.set_cons_zero, List.set_cons_succ])
  go_cut [80] (fun v80 wc => ∃ (kq : Nat) (x80_9 : Bool), v80 = .bool x80_9 ∧ Aside0 (laws_FnShiftsRound.j0 kq t180 t181 t182 t183 t184 t187 x80_9 = some r) ∧ Aside0 (kq ≤ k) ∧ Aside0 (Below w.heap.size w wc))
  case first => as_aux_lemma =>
   have H := HC10.out
   clear HC10
   by_cases c12 : (t184 != t186) = true
   ·rw [if_pos c12] at H
    have c12b0 : (t184 != t186) = true := c12
    (try (have c12b1 : decide (t184 = t186) = false := by simpa using c12))
    (try (have c12b2 : (t184 == t186) = false := by simpa using c12))
    (try (have c12b3 : ¬ (t184 = t186) := by simpa using c12))
    clear c12
    (first | rw [c12b0] | (simp only [i64_w, i32_w]; rw [c12b0]) | skip)
    exact absurd H (by have hr_ := HRT.out; cases k <;> simp [laws_FnShiftsRound.j0, hr_])
   ·rw [if_neg c12] at H
    have c12b0 : (t184 != t186) = false := by simpa using c12
    (try (have c12b1 : decide (t184 = t186) = true := by simpa using c12))
    (try (have c12b2 : (t184 == t186) = true := by simpa using c12))
    clear c12
    (first | rw [c12b0] | (simp only [i64_w, i32_w]; rw [c12b0]) | skip)
    by_cases c13 : t183 = t185
    ·rw [if_pos c13] at H
     have c13b0 : (t183 == t185) = true := beq_iff_eq.mpr c13
     have c13b1 : (t183 != t185) = false := bne_eq_false_iff_eq.mpr c13
     clear c13
     by_cases c14 : (t188 != t190) = true
     ·rw [if_pos c14] at H
      have c14b0 : (t188 != t190) = true := c14
      (try (have c14b1 : decide (t188 = t190) = false := by simpa using c14))
      (try (have c14b2 : (t188 == t190) = false := by simpa using c14))
      (try (have c14b3 : ¬ (t188 = t190) := by simpa using c14))
      clear c14
      exact absurd H (by have hr_ := HRT.out; cases k <;> simp [laws_FnShiftsRound.j0, hr_])
     ·rw [if_neg c14] at H
      have c14b0 : (t188 != t190) = false := by simpa using c14
      (try (have c14b1 : decide (t188 = t190) = true := by simpa using c14))
      (try (have c14b2 : (t188 == t190) = true := by simpa using c14))
      clear c14
      by_cases c15 : t187 = t189
      ·rw [if_pos c15] at H
       have c15b0 : (t187 == t189) = true := beq_iff_eq.mpr c15
       have c15b1 : (t187 != t189) = false := bne_eq_false_iff_eq.mpr c15
       clear c15
       have H' := Aside0.mk H
       clear H
       go_wp2
       go_meet
       case rel => exact ⟨_, ((t188 != t184)), (by first | rfl | (simp; done) | (simp [*]; done)), H', ⟨by first | omega | exact Nat.le_refl _⟩, ⟨by repeat (first | (with_reducible first | exact HB.out | apply below_alloc | apply pw_below_drewN | apply below_drew1) | exact HB.out)⟩⟩
      ·rw [if_neg c15] at H
       have c15b0 : (t187 == t189) = false := beq_eq_false_iff_ne.mpr c15
       have c15b1 : (t187 != t189) = true := bne_iff_ne.mpr c15
       exact absurd H (by have hr_ := HRT.out; cases k <;> simp [laws_FnShiftsRound.j0, hr_])
    ·rw [if_neg c13] at H
     have c13b0 : (t183 == t185) = false := beq_eq_false_iff_ne.mpr c13
     have c13b1 : (t183 != t185) = true := bne_iff_ne.mpr c13
     exact absurd H (by have hr_ := HRT.out; cases k <;> simp [laws_FnShiftsRound.j0, hr_])
  case rest => as_aux_lemma =>
   clear HC10
   try clear c1
   try clear c2
   try clear p2
   try clear c3
   try clear c4
   try clear c7
   try clear c12
   try clear c12b0
   try clear c12b1
   try clear c12b2
   try clear c13
   try clear c13b0
   try clear c13b1
   try clear c14
   try clear c14b0
   try clear c14b1
   try clear c14b2
   try clear c15
   try clear c15b0
   try clear c15b1
   obtain ⟨kq, x80_9, rfl, HA, HJ9, HB⟩ := hcut
   cases kq with
   | zero => exact absurd HA.out (by simp [laws_FnShiftsRound.j0])
   | succ kj9 =>
    have H := HA.out
    clear HA
    simp only [laws_FnShiftsRound.j0] at H
    by_cases c16 : x80_9 = true
    ·subst c16
     have H1 := H
     rw [if_pos rfl] at H1
     clear H
     have H := H1
     clear H1
     exact absurd ((Option.some.inj H).trans HRT.out) (by decide)
    ·replace c16 := Bool.eq_false_iff.mpr c16
     subst c16
     have H1 := H
     rw [if_neg (show ¬ (false = true) by decide)] at H1
     clear H
     have H := H1
     clear H1
     by_cases c17 : t184 = true
     ·subst c17
      have H1 := H
      rw [if_pos rfl] at H1
      clear H
      have H := H1
      clear H1
      by_cases c18 : 0 ≤ t181
      ·rw [if_pos c18] at H
       have c18b0 := eq_true c18
       have c18b1 : decide (0 ≤ t181) = true := decide_eq_true c18
       clear c18
       obtain ⟨ji19, hji19⟩ : ∃ j_ : Int, (shl .i64 1 t181) = j_ := ⟨_, rfl⟩
       replace H : ((impl_RoundShift.f kj9 t180 t181 0).bind fun bt191 => (if (wrap64 ((wrap64 (t183 * (ji19))) + t187)) = t180 then (if bt191.2 = true then (if t183 = bt191.1 then (laws_FnShiftsRound.j1 kj9 t180 t181 t182 t183 t187 ji19 false) else (laws_FnShiftsRound.j1 kj9 t180 t181 t182 t183 t187 ji19 (t183 != (wrap64 (bt191.1 + 1))))) else (laws_FnShiftsRound.j1 kj9 t180 t181 t182 t183 t187 ji19 true)) else (laws_FnShiftsRound.j1 kj9 t180 t181 t182 t183 t187 ji19 true))) = some r := by first | (rw [hji19] at H; exact H) | (simp only [hji19] at H ⊢; exact H)
       have hji19_ : (IntKind.i64.wrap (1 * 2 ^ min t181.toNat 64)) = ji19 := hji19
       have hji19z : t181 ≤ 64 → (IntKind.i64.wrap (1 * 2 ^ t181.toNat)) = ji19 := shl_small hji19
       have hji19u : (IntKind.i64.wrap (2 ^ min t181.toNat 64)) = ji19 := by have h_ := hji19_; rw [Int.one_mul] at h_; exact h_
       have hji19v : t181 ≤ 64 → (IntKind.i64.wrap (2 ^ t181.toNat)) = ji19 := fun hle_ => by have h_ := hji19z hle_; rw [Int.one_mul] at h_; exact h_
       have hji19y : (wrap64 (1 * 2 ^ min t181.toNat 64)) = ji19 := (i64_w _).symm.trans hji19_
       have hji19x : t181 ≤ 64 → (wrap64 (1 * 2 ^ t181.toNat)) = ji19 := fun h_ => (i64_w _).symm.trans (hji19z h_)
       replace H := Option.bind_eq_some_iff.mp H
       obtain ⟨⟨t191, t192⟩, A200, H⟩ := H
       (try dsimp only at H)
       have A20 := Aside0.mk A200
       clear A200
       have HC21 := Aside0.mk H
       clear H
       go_upto_region 13 with (first | ((with_reducible refine gate_callee (f := 29) rfl ?_); refine goesL_ (some 87) rfl rfl Try.func29 (by kernel_rfl) rfl #[.int .i64 t180, .int .i64 t181, .int .i64 0] rfl (by (try simp only [List.map_toArray, List.map_cons, List.map_nil]); first | done | rfl | (simp only [List.length_drop, List.length_take]; rfl)) ?_; (with_reducible refine (impl_RoundShift.calls kj9 t180 t181 0 t191 t192 _ A20.out).mono ?_); rintro e w' ⟨rfl, ⟨nd, rfl⟩⟩; refine ⟨_, rfl, ?_⟩))
       (try simp only [Act.put, List.setIfInBounds_toArray, List.set_cons_zero, List.set_cons_succ])
       go_cut [111] (fun v111 wc => ∃ (kq : Nat) (x111_20 : Bool), v111 = .bool x111_20 ∧ Aside0 (laws_FnShiftsRound.j1 kq t180 t181 t182 t183 t187 ji19 x111_20 = some r) ∧ Aside0 (kq ≤ kj9) ∧ Aside0 (Below w.heap.size w wc))
       case first => as_aux_lemma =>
        have H := HC21.out
        clear HC21
        by_cases c22 : (wrap64 ((wrap64 (t183 * (ji19))) + t187)) = t180
        ·rw [if_pos c22] at H
         have c22b0 : ((wrap64 ((wrap64 (t183 * (ji19))) + t187)) == t180) = true := beq_iff_eq.mpr c22
         have c22b1 : ((wrap64 ((wrap64 (t183 * (ji19))) + t187)) != t180) = false := bne_eq_false_iff_eq.mpr c22
         clear c22
         (first | rw [c22b0] | (simp only [i64_w, i32_w]; rw [c22b0]) | skip)
         by_cases c23 : t192 = true
         ·subst c23
          have H1 := H
          rw [if_pos rfl] at H1
          clear H
          have H := H1
          clear H1
          by_cases c24 : t183 = t191
          ·rw [if_pos c24] at H
           have c24b0 : (t183 == t191) = true := beq_iff_eq.mpr c24
           have c24b1 : (t183 != t191) = false := bne_eq_false_iff_eq.mpr c24
           clear c24
           have H' := Aside0.mk H
           clear H
           go_wp2
           go_meet
           case rel => exact ⟨_, (false), (by first | rfl | (simp; done) | (simp [*]; done)), H', ⟨by have := HJ9.out; first | omega | exact Nat.le_refl _⟩, ⟨by repeat (first | (with_reducible first | exact HB.out | apply below_alloc | apply pw_below_drewN | apply below_drew1) | exact HB.out)⟩⟩
          ·rw [if_neg c24] at H
           have c24b0 : (t183 == t191) = false := beq_eq_false_iff_ne.mpr c24
           have c24b1 : (t183 != t191) = true := bne_iff_ne.mpr c24
           have H' := Aside0.mk H
           clear H
           go_wp2
           go_meet
           case rel => exact ⟨_, ((t183 != (wrap64 (t191 + 1)))), (by first | rfl | (simp; done) | (simp [*]; done)), H', ⟨by have := HJ9.out; first | omega | exact Nat.le_refl _⟩, ⟨by repeat (first | (with_reducible first | exact HB.out | apply below_alloc | apply pw_below_drewN | apply below_drew1) | exact HB.out)⟩⟩
         ·replace c23 := Bool.eq_false_iff.mpr c23
          subst c23
          have H1 := H
          rw [if_neg (show ¬ (false = true) by decide)] at H1
          clear H
          have H := H1
          clear H1
          exact absurd H (by have hr_ := HRT.out; cases kj9 <;> simp [laws_FnShiftsRound.j1, hr_])
        ·rw [if_neg c22] at H
         have c22b0 : ((wrap64 ((wrap64 (t183 * (ji19))) + t187)) == t180) = false := beq_eq_false_iff_ne.mpr c22
         have c22b1 : ((wrap64 ((wrap64 (t183 * (ji19))) + t187)) != t180) = true := bne_iff_ne.mpr c22
         (first | rw [c22b0] | (simp only [i64_w, i32_w]; rw [c22b0]) | skip)
         exact absurd H (by have hr_ := HRT.out; cases kj9 <;> simp [laws_FnShiftsRound.j1, hr_])
       case rest => as_aux_lemma =>
        clear HC21
        try clear c1
        try clear c2
        try clear p2
        try clear c3
        try clear c4
        try clear p6
        try clear c7
        try clear c12
        try clear c12b0
        try clear c12b1
        try clear c12b2
        try clear c13
        try clear c13b0
        try clear c13b1
        try clear c14
        try clear c14b0
        try clear c14b1
        try clear c14b2
        try clear c15
        try clear c15b0
        try clear c15b1
        try clear c16
        try clear c17
        try clear c18
        try clear c18b0
        try clear c18b1
        try clear c22
        try clear c22b0
        try clear c22b1
        try clear c23
        try clear c24
        try clear c24b0
        try clear c24b1
        try clear p2
        obtain ⟨kq, x111_20, rfl, HA, HJ20, HB⟩ := hcut
        cases kq with
        | zero => exact absurd HA.out (by simp [laws_FnShiftsRound.j1])
        | succ kj20 =>
         have H := HA.out
         clear HA
         simp only [laws_FnShiftsRound.j1] at H
         by_cases c25 : x111_20 = true
         ·subst c25
          have H1 := H
          rw [if_pos rfl] at H1
          clear H
          have H := H1
          clear H1
          exact absurd ((Option.some.inj H).trans HRT.out) (by decide)
         ·replace c25 := Bool.eq_false_iff.mpr c25
          subst c25
          have H1 := H
          rw [if_neg (show ¬ (false = true) by decide)] at H1
          clear H
          have H := H1
          clear H1
          have HC26 := Aside0.mk H
          clear H
          go_upto_block 0 with (fail)
          go_cut [] (fun wc => ∃ (kq : Nat), Aside0 (laws_FnShiftsRound.j2 kq t180 t181 t182 t183 = some r) ∧ Aside0 (kq ≤ kj20) ∧ Aside0 (Below w.heap.size w wc))
          case first => as_aux_lemma =>
           have H := HC26.out
           clear HC26
           by_cases c27 : t182 = 0
           ·rw [if_pos c27] at H
            have c27b0 : (t182 == 0) = true := beq_iff_eq.mpr c27
            have c27b1 : (t182 != 0) = false := bne_eq_false_iff_eq.mpr c27
            clear c27
            (first | rw [c27b0] | (simp only [i64_w, i32_w]; rw [c27b0]) | skip)
            by_cases c28 : t187 < 0
            ·rw [if_pos c28] at H
             have c28b0 : decide (t187 < 0) = true := decide_eq_true c28
             clear c28
             exact absurd ((Option.some.inj H).trans HRT.out) (by decide)
            ·rw [if_neg c28] at H
             have c28b0 : decide (t187 < 0) = false := decide_eq_false c28
             clear c28
             by_cases c29 : t187 ≥ ji19
             ·rw [if_pos c29] at H
              have c29b0 : decide (ji19 ≤ t187) = true := decide_eq_true c29
              clear c29
              exact absurd ((Option.some.inj H).trans HRT.out) (by decide)
             ·rw [if_neg c29] at H
              have c29b0 : decide (ji19 ≤ t187) = false := decide_eq_false c29
              clear c29
              have H' := Aside0.mk H
              clear H
              go_wp2
              go_meet
              case rel => exact ⟨_, H', ⟨by have := HJ9.out; have := HJ20.out; first | omega | exact Nat.le_refl _⟩, ⟨by repeat (first | (with_reducible first | exact HB.out | apply below_alloc | apply pw_below_drewN | apply below_drew1) | exact HB.out)⟩⟩
           ·rw [if_neg c27] at H
            have c27b0 : (t182 == 0) = false := beq_eq_false_iff_ne.mpr c27
            have c27b1 : (t182 != 0) = true := bne_iff_ne.mpr c27
            (first | rw [c27b0] | (simp only [i64_w, i32_w]; rw [c27b0]) | skip)
            by_cases c30 : t182 = 1
            ·rw [if_pos c30] at H
             have c30b0 : (t182 == 1) = true := beq_iff_eq.mpr c30
             have c30b1 : (t182 != 1) = false := bne_eq_false_iff_eq.mpr c30
             clear c30
             by_cases c31 : (wrap64 (2 * t187)) < (wrap64 (-ji19))
             ·rw [if_pos c31] at H
              have c31b0 : decide ((wrap64 (2 * t187)) < (wrap64 (-ji19))) = true := decide_eq_true c31
              clear c31
              exact absurd ((Option.some.inj H).trans HRT.out) (by decide)
             ·rw [if_neg c31] at H
              have c31b0 : decide ((wrap64 (2 * t187)) < (wrap64 (-ji19))) = false := decide_eq_false c31
              clear c31
              by_cases c32 : (wrap64 (2 * t187)) ≥ ji19
              ·rw [if_pos c32] at H
               have c32b0 : decide (ji19 ≤ (wrap64 (2 * t187))) = true := decide_eq_true c32
               clear c32
               by_cases c33 : ji19 > 1
               ·rw [if_pos c33] at H
                have c33b0 : decide (1 < ji19) = true := decide_eq_true c33
                clear c33
                exact absurd ((Option.some.inj H).trans HRT.out) (by decide)
               ·rw [if_neg c33] at H
                have c33b0 : decide (1 < ji19) = false := decide_eq_false c33
                clear c33
                by_cases c34 : ji19 = 1
                ·rw [if_pos c34] at H
                 have c34b0 : (ji19 == 1) = true := beq_iff_eq.mpr c34
                 have c34b1 : (ji19 != 1) = false := bne_eq_false_iff_eq.mpr c34
                 clear c34
                 by_cases c35 : t187 = 0
                 ·rw [if_pos c35] at H
                  have c35b0 : (t187 == 0) = true := beq_iff_eq.mpr c35
                  have c35b1 : (t187 != 0) = false := bne_eq_false_iff_eq.mpr c35
                  clear c35
                  have H' := Aside0.mk H
                  clear H
                  go_wp2
                  go_meet
                  case rel => exact ⟨_, H', ⟨by have := HJ9.out; have := HJ20.out; first | omega | exact Nat.le_refl _⟩, ⟨by repeat (first | (with_reducible first | exact HB.out | apply below_alloc | apply pw_below_drewN | apply below_drew1) | exact HB.out)⟩⟩
                 ·rw [if_neg c35] at H
                  have c35b0 : (t187 == 0) = false := beq_eq_false_iff_ne.mpr c35
                  have c35b1 : (t187 != 0) = true := bne_iff_ne.mpr c35
                  exact absurd ((Option.some.inj H).trans HRT.out) (by decide)
                ·rw [if_neg c34] at H
                 have c34b0 : (ji19 == 1) = false := beq_eq_false_iff_ne.mpr c34
                 have c34b1 : (ji19 != 1) = true := bne_iff_ne.mpr c34
                 have H' := Aside0.mk H
                 clear H
                 go_wp2
                 go_meet
                 case rel => exact ⟨_, H', ⟨by have := HJ9.out; have := HJ20.out; first | omega | exact Nat.le_refl _⟩, ⟨by repeat (first | (with_reducible first | exact HB.out | apply below_alloc | apply pw_below_drewN | apply below_drew1) | exact HB.out)⟩⟩
              ·rw [if_neg c32] at H
               have c32b0 : decide (ji19 ≤ (wrap64 (2 * t187))) = false := decide_eq_false c32
               clear c32
               by_cases c36 : ji19 = 1
               ·rw [if_pos c36] at H
                have c36b0 : (ji19 == 1) = true := beq_iff_eq.mpr c36
                have c36b1 : (ji19 != 1) = false := bne_eq_false_iff_eq.mpr c36
                clear c36
                by_cases c37 : t187 = 0
                ·rw [if_pos c37] at H
                 have c37b0 : (t187 == 0) = true := beq_iff_eq.mpr c37
                 have c37b1 : (t187 != 0) = false := bne_eq_false_iff_eq.mpr c37
                 clear c37
                 have H' := Aside0.mk H
                 clear H
                 go_wp2
                 go_meet
                 case rel => exact ⟨_, H', ⟨by have := HJ9.out; have := HJ20.out; first | omega | exact Nat.le_refl _⟩, ⟨by repeat (first | (with_reducible first | exact HB.out | apply below_alloc | apply pw_below_drewN | apply below_drew1) | exact HB.out)⟩⟩
                ·rw [if_neg c37] at H
                 have c37b0 : (t187 == 0) = false := beq_eq_false_iff_ne.mpr c37
                 have c37b1 : (t187 != 0) = true := bne_iff_ne.mpr c37
                 exact absurd ((Option.some.inj H).trans HRT.out) (by decide)
               ·rw [if_neg c36] at H
                have c36b0 : (ji19 == 1) = false := beq_eq_false_iff_ne.mpr c36
                have c36b1 : (ji19 != 1) = true := bne_iff_ne.mpr c36
                have H' := Aside0.mk H
                clear H
                go_wp2
                go_meet
                case rel => exact ⟨_, H', ⟨by have := HJ9.out; have := HJ20.out; first | omega | exact Nat.le_refl _⟩, ⟨by repeat (first | (with_reducible first | exact HB.out | apply below_alloc | apply pw_below_drewN | apply below_drew1) | exact HB.out)⟩⟩
            ·rw [if_neg c30] at H
             have c30b0 : (t182 == 1) = false := beq_eq_false_iff_ne.mpr c30
             have c30b1 : (t182 != 1) = true := bne_iff_ne.mpr c30
             replace H := Option.bind_eq_some_iff.mp H
             obtain ⟨t193, A380, H⟩ := H
             (try dsimp only at H)
             have A38 := Aside0.mk A380
             clear A380
             by_cases c39 : t193 ≥ ji19
             ·rw [if_pos c39] at H
              have c39b0 : decide (ji19 ≤ t193) = true := decide_eq_true c39
              clear c39
              exact absurd ((Option.some.inj H).trans HRT.out) (by decide)
             ·rw [if_neg c39] at H
              have c39b0 : decide (ji19 ≤ t193) = false := decide_eq_false c39
              clear c39
              by_cases c40 : t180 > 0
              ·rw [if_pos c40] at H
               have c40b0 : decide (0 < t180) = true := decide_eq_true c40
               clear c40
               by_cases c41 : t187 < 0
               ·rw [if_pos c41] at H
                have c41b0 : decide (t187 < 0) = true := decide_eq_true c41
                clear c41
                exact absurd ((Option.some.inj H).trans HRT.out) (by decide)
               ·rw [if_neg c41] at H
                have c41b0 : decide (t187 < 0) = false := decide_eq_false c41
                clear c41
                by_cases c42 : t180 < 0
                ·rw [if_pos c42] at H
                 have c42b0 : decide (t180 < 0) = true := decide_eq_true c42
                 clear c42
                 by_cases c43 : t187 > 0
                 ·rw [if_pos c43] at H
                  have c43b0 : decide (0 < t187) = true := decide_eq_true c43
                  clear c43
                  exact absurd ((Option.some.inj H).trans HRT.out) (by decide)
                 ·rw [if_neg c43] at H
                  have c43b0 : decide (0 < t187) = false := decide_eq_false c43
                  clear c43
                  have H' := Aside0.mk H
                  clear H
                  go_wp2_with (first | ((with_reducible refine gate_callee (f := 33) rfl ?_); refine goesL_ (some 114) rfl rfl Try.func33 (by kernel_rfl) rfl #[.int .i64 t187] rfl (by (try simp only [List.map_toArray, List.map_cons, List.map_nil]); first | done | rfl | (simp only [List.length_drop, List.length_take]; rfl)) ?_; (with_reducible refine (laws_iSize.calls t187 t193 _ A38.out).mono ?_); rintro e w' ⟨rfl, ⟨nd, rfl⟩⟩; refine ⟨_, rfl, ?_⟩))
                  go_meet
                  case rel => exact ⟨_, H', ⟨by have := HJ9.out; have := HJ20.out; first | omega | exact Nat.le_refl _⟩, ⟨by repeat (first | (with_reducible first | exact HB.out | apply below_alloc | apply pw_below_drewN | apply below_drew1) | exact HB.out)⟩⟩
                ·rw [if_neg c42] at H
                 have c42b0 : decide (t180 < 0) = false := decide_eq_false c42
                 clear c42
                 have H' := Aside0.mk H
                 clear H
                 go_wp2_with (first | ((with_reducible refine gate_callee (f := 33) rfl ?_); refine goesL_ (some 114) rfl rfl Try.func33 (by kernel_rfl) rfl #[.int .i64 t187] rfl (by (try simp only [List.map_toArray, List.map_cons, List.map_nil]); first | done | rfl | (simp only [List.length_drop, List.length_take]; rfl)) ?_; (with_reducible refine (laws_iSize.calls t187 t193 _ A38.out).mono ?_); rintro e w' ⟨rfl, ⟨nd, rfl⟩⟩; refine ⟨_, rfl, ?_⟩))
                 go_meet
                 case rel => exact ⟨_, H', ⟨by have := HJ9.out; have := HJ20.out; first | omega | exact Nat.le_refl _⟩, ⟨by repeat (first | (with_reducible first | exact HB.out | apply below_alloc | apply pw_below_drewN | apply below_drew1) | exact HB.out)⟩⟩
              ·rw [if_neg c40] at H
               have c40b0 : decide (0 < t180) = false := decide_eq_false c40
               clear c40
               by_cases c44 : t180 < 0
               ·rw [if_pos c44] at H
                have c44b0 : decide (t180 < 0) = true := decide_eq_true c44
                clear c44
                by_cases c45 : t187 > 0
                ·rw [if_pos c45] at H
                 have c45b0 : decide (0 < t187) = true := decide_eq_true c45
                 clear c45
                 exact absurd ((Option.some.inj H).trans HRT.out) (by decide)
                ·rw [if_neg c45] at H
                 have c45b0 : decide (0 < t187) = false := decide_eq_false c45
                 clear c45
                 have H' := Aside0.mk H
                 clear H
                 go_wp2_with (first | ((with_reducible refine gate_callee (f := 33) rfl ?_); refine goesL_ (some 114) rfl rfl Try.func33 (by kernel_rfl) rfl #[.int .i64 t187] rfl (by (try simp only [List.map_toArray, List.map_cons, List.map_nil]); first | done | rfl | (simp only [List.length_drop, List.length_take]; rfl)) ?_; (with_reducible refine (laws_iSize.calls t187 t193 _ A38.out).mono ?_); rintro e w' ⟨rfl, ⟨nd, rfl⟩⟩; refine ⟨_, rfl, ?_⟩))
                 go_meet
                 case rel => exact ⟨_, H', ⟨by have := HJ9.out; have := HJ20.out; first | omega | exact Nat.le_refl _⟩, ⟨by repeat (first | (with_reducible first | exact HB.out | apply below_alloc | apply pw_below_drewN | apply below_drew1) | exact HB.out)⟩⟩
               ·rw [if_neg c44] at H
                have c44b0 : decide (t180 < 0) = false := decide_eq_false c44
                clear c44
                have H' := Aside0.mk H
                clear H
                go_wp2_with (first | ((with_reducible refine gate_callee (f := 33) rfl ?_); refine goesL_ (some 114) rfl rfl Try.func33 (by kernel_rfl) rfl #[.int .i64 t187] rfl (by (try simp only [List.map_toArray, List.map_cons, List.map_nil]); first | done | rfl | (simp only [List.length_drop, List.length_take]; rfl)) ?_; (with_reducible refine (laws_iSize.calls t187 t193 _ A38.out).mono ?_); rintro e w' ⟨rfl, ⟨nd, rfl⟩⟩; refine ⟨_, rfl, ?_⟩))
                go_meet
                case rel => exact ⟨_, H', ⟨by have := HJ9.out; have := HJ20.out; first | omega | exact Nat.le_refl _⟩, ⟨by repeat (first | (with_reducible first | exact HB.out | apply below_alloc | apply pw_below_drewN | apply below_drew1) | exact HB.out)⟩⟩
          case rest => as_aux_lemma =>
           clear HC26
           try clear c1
           try clear c2
           try clear p2
           try clear c3
           try clear c4
           try clear p6
           try clear c7
           try clear c12
           try clear c12b0
           try clear c12b1
           try clear c12b2
           try clear c13
           try clear c13b0
           try clear c13b1
           try clear c14
           try clear c14b0
           try clear c14b1
           try clear c14b2
           try clear c15
           try clear c15b0
           try clear c15b1
           try clear c16
           try clear c17
           try clear c18
           try clear c18b0
           try clear c18b1
           try clear c22
           try clear c22b0
           try clear c22b1
           try clear c23
           try clear c24
           try clear c24b0
           try clear c24b1
           try clear c25
           try clear c27
           try clear c27b0
           try clear c27b1
           try clear c28
           try clear c28b0
           try clear c29
           try clear c29b0
           try clear c30
           try clear c30b0
           try clear c30b1
           try clear c31
           try clear c31b0
           try clear c32
           try clear c32b0
           try clear c33
           try clear c33b0
           try clear c34
           try clear c34b0
           try clear c34b1
           try clear c35
           try clear c35b0
           try clear c35b1
           try clear c36
           try clear c36b0
           try clear c36b1
           try clear c37
           try clear c37b0
           try clear c37b1
           try clear c39
           try clear c39b0
           try clear c40
           try clear c40b0
           try clear c41
           try clear c41b0
           try clear c42
           try clear c42b0
           try clear c43
           try clear c43b0
           try clear c44
           try clear c44b0
           try clear c45
           try clear c45b0
           try clear p2
           try clear p6
           obtain ⟨kq, HA, HJ25, HB⟩ := hcut
           cases kq with
           | zero => exact absurd HA.out (by simp [laws_FnShiftsRound.j2])
           | succ kj25 =>
            have H := HA.out
            clear HA
            simp only [laws_FnShiftsRound.j2] at H
            have HC46 := Aside0.mk H
            clear H
            go_upto_region 24 with (fail)
            go_cut [172] (fun v172 wc => ∃ (kq : Nat) (x172_45 : Bool), v172 = .bool x172_45 ∧ Aside0 (laws_FnShiftsRound.j3 kq t180 t181 t182 t183 x172_45 = some r) ∧ Aside0 (kq ≤ kj25) ∧ Aside0 (Below w.heap.size w wc))
            case first => as_aux_lemma =>
             have H := HC46.out
             clear HC46
             by_cases c47 : t182 = 2
             ·rw [if_pos c47] at H
              have c47b0 : (t182 == 2) = true := beq_iff_eq.mpr c47
              have c47b1 : (t182 != 2) = false := bne_eq_false_iff_eq.mpr c47
              clear c47
              (first | rw [c47b0] | (simp only [i64_w, i32_w]; rw [c47b0]) | skip)
              have H' := Aside0.mk H
              clear H
              go_wp2
              go_meet
              case rel => exact ⟨_, (decide (t180 > (-1000000000000))), (by first | rfl | (simp; done) | (simp [*]; done)), H', ⟨by have := HJ9.out; have := HJ20.out; have := HJ25.out; first | omega | exact Nat.le_refl _⟩, ⟨by repeat (first | (with_reducible first | exact HB.out | apply below_alloc | apply pw_below_drewN | apply below_drew1) | exact HB.out)⟩⟩
             ·rw [if_neg c47] at H
              have c47b0 : (t182 == 2) = false := beq_eq_false_iff_ne.mpr c47
              have c47b1 : (t182 != 2) = true := bne_iff_ne.mpr c47
              (first | rw [c47b0] | (simp only [i64_w, i32_w]; rw [c47b0]) | skip)
              have H' := Aside0.mk H
              clear H
              go_wp2
              go_meet
              case rel => exact ⟨_, (false), (by first | rfl | (simp; done) | (simp [*]; done)), H', ⟨by have := HJ9.out; have := HJ20.out; have := HJ25.out; first | omega | exact Nat.le_refl _⟩, ⟨by repeat (first | (with_reducible first | exact HB.out | apply below_alloc | apply pw_below_drewN | apply below_drew1) | exact HB.out)⟩⟩
            case rest => as_aux_lemma =>
             clear HC46
             try clear c1
             try clear c2
             try clear p2
             try clear c3
             try clear c4
             try clear p6
             try clear c7
             try clear c12
             try clear c12b0
             try clear c12b1
             try clear c12b2
             try clear c13
             try clear c13b0
             try clear c13b1
             try clear c14
             try clear c14b0
             try clear c14b1
             try clear c14b2
             try clear c15
             try clear c15b0
             try clear c15b1
             try clear c16
             try clear c17
             try clear c18
             try clear c18b0
             try clear c18b1
             try clear c22
             try clear c22b0
             try clear c22b1
             try clear c23
             try clear c24
             try clear c24b0
             try clear c24b1
             try clear c25
             try clear c27
             try clear c27b0
             try clear c27b1
             try clear c28
             try clear c28b0
             try clear c29
             try clear c29b0
             try clear c30
             try clear c30b0
             try clear c30b1
             try clear c31
             try clear c31b0
             try clear c32
             try clear c32b0
             try clear c33
             try clear c33b0
             try clear c34
             try clear c34b0
             try clear c34b1
             try clear c35
             try clear c35b0
             try clear c35b1
             try clear c36
             try clear c36b0
             try clear c36b1
             try clear c37
             try clear c37b0
             try clear c37b1
             try clear c39
             try clear c39b0
             try clear c40
             try clear c40b0
             try clear c41
             try clear c41b0
             try clear c42
             try clear c42b0
             try clear c43
             try clear c43b0
             try clear c44
             try clear c44b0
             try clear c45
             try clear c45b0
             try clear c47
             try clear c47b0
             try clear c47b1
             try clear p2
             try clear p6
             obtain ⟨kq, x172_45, rfl, HA, HJ45, HB⟩ := hcut
             cases kq with
             | zero => exact absurd HA.out (by simp [laws_FnShiftsRound.j3])
             | succ kj45 =>
              have H := HA.out
              clear HA
              simp only [laws_FnShiftsRound.j3] at H
              by_cases c48 : x172_45 = true
              ·subst c48
               have H1 := H
               rw [if_pos rfl] at H1
               clear H
               have H := H1
               clear H1
               replace H := Option.bind_eq_some_iff.mp H
               obtain ⟨⟨t194, t195⟩, A490, H⟩ := H
               (try dsimp only at H)
               have A49 := Aside0.mk A490
               clear A490
               by_cases c50 : t195 = true
               ·subst c50
                have H1 := H
                rw [if_pos rfl] at H1
                clear H
                have H := H1
                clear H1
                by_cases c51 : t194 = (wrap64 (-t183))
                ·rw [if_pos c51] at H
                 have c51b0 : (t194 == (wrap64 (-t183))) = true := beq_iff_eq.mpr c51
                 have c51b1 : (t194 != (wrap64 (-t183))) = false := bne_eq_false_iff_eq.mpr c51
                 clear c51
                 obtain rfl := Option.some.inj H
                 go_wp2_with (first | ((with_reducible refine gate_callee (f := 29) rfl ?_); refine goesL_ (some 178) rfl rfl Try.func29 (by kernel_rfl) rfl #[.int .i64 (wrap64 (-t180)), .int .i64 t181, .int .i64 t182] rfl (by (try simp only [List.map_toArray, List.map_cons, List.map_nil]); first | done | rfl | (simp only [List.length_drop, List.length_take]; rfl)) ?_; (with_reducible refine (impl_RoundShift.calls kj45 (wrap64 (-t180)) t181 t182 t194 true _ A49.out).mono ?_); rintro e w' ⟨rfl, ⟨nd, rfl⟩⟩; refine ⟨_, rfl, ?_⟩))
                 go_ret
                 exact ⟨by first | rfl | (simp [errW_none, errW_some] <;> rfl) | (simp only [← hji19]; first | rfl | (simp [errW_none, errW_some] <;> rfl)) | (simp [*, errW_none, errW_some] <;> rfl), by repeat (first | (with_reducible first | exact HB.out | apply below_alloc | apply pw_below_drewN | apply below_drew1) | exact HB.out)⟩
                ·rw [if_neg c51] at H
                 have c51b0 : (t194 == (wrap64 (-t183))) = false := beq_eq_false_iff_ne.mpr c51
                 have c51b1 : (t194 != (wrap64 (-t183))) = true := bne_iff_ne.mpr c51
                 exact absurd ((Option.some.inj H).trans HRT.out) (by decide)
               ·replace c50 := Bool.eq_false_iff.mpr c50
                subst c50
                have H1 := H
                rw [if_neg (show ¬ (false = true) by decide)] at H1
                clear H
                have H := H1
                clear H1
                exact absurd ((Option.some.inj H).trans HRT.out) (by decide)
              ·replace c48 := Bool.eq_false_iff.mpr c48
               subst c48
               have H1 := H
               rw [if_neg (show ¬ (false = true) by decide)] at H1
               clear H
               have H := H1
               clear H1
               obtain rfl := Option.some.inj H
               go_wp2
               go_ret
               exact ⟨by first | rfl | (simp [errW_none, errW_some] <;> rfl) | (simp only [← hji19]; first | rfl | (simp [errW_none, errW_some] <;> rfl)) | (simp [*, errW_none, errW_some] <;> rfl), by repeat (first | (with_reducible first | exact HB.out | apply below_alloc | apply pw_below_drewN | apply below_drew1) | exact HB.out)⟩
      ·rw [if_neg c18] at H
       exact absurd H (by simp)
     ·replace c17 := Bool.eq_false_iff.mpr c17
      subst c17
      have H1 := H
      rw [if_neg (show ¬ (false = true) by decide)] at H1
      clear H
      have H := H1
      clear H1
      obtain rfl := Option.some.inj H
      go_wp2
      go_ret
      exact ⟨by first | rfl | (simp [errW_none, errW_some] <;> rfl) | (simp [*, errW_none, errW_some] <;> rfl), by repeat (first | (with_reducible first | exact HB.out | apply below_alloc | apply pw_below_drewN | apply below_drew1) | exact HB.out)⟩

/-- THE ONE PURE STATEMENT of laws_FnShiftsRound: yours. -/
def laws_FnShiftsRound.Pure : Prop := ∀ (l0 : List Int) (l1 : List Int), l0.length ≤ maxLen → l0.length * 1 ≤ 140737488351232 → (∀ x ∈ l0, (Lit.int .u8 x).wf = true) → l1.length ≤ maxLen → l1.length * 1 ≤ 140737488351232 → (∀ x ∈ l1, (Lit.int .u8 x).wf = true) → ∃ k, laws_FnShiftsRound.f k l0 l1 = some true
theorem laws_FnShiftsRound.walk (P : laws_FnShiftsRound.Pure) (a0 : Option Addr) (len0 cap0 : Nat) (z0 : List Int) (a1 : Option Addr) (len1 cap1 : Nat) (z1 : List Int) (w : World) (w0 : (a0 = none ∧ len0 = 0 ∧ cap0 = 0 ∧ z0 = []) ∨ ∃ x, a0 = some x ∧ len0 ≤ cap0 ∧ cap0 ≤ maxLen ∧ z0.length = cap0 ∧ (∀ i, i < z0.length → w.cell? (x.add i) = some (.int .u8 (z0.getD i 0))) ∧ ∀ n ∈ z0, (Lit.int .u8 n).wf = true) (y0 : len0 * 1 ≤ 140737488351232) (w1 : (a1 = none ∧ len1 = 0 ∧ cap1 = 0 ∧ z1 = []) ∨ ∃ x, a1 = some x ∧ len1 ≤ cap1 ∧ cap1 ≤ maxLen ∧ z1.length = cap1 ∧ (∀ i, i < z1.length → w.cell? (x.add i) = some (.int .u8 (z1.getD i 0))) ∧ ∀ n ∈ z1, (Lit.int .u8 n).wf = true) (y1 : len1 * 1 ≤ 140737488351232) :
  Calls Try.prog 7 #[.slice a0 len0 cap0, .slice a1 len1 cap1] w fun e w' => e = .returned (.bool true) ∧ Below w.heap.size w w' := by
 obtain ⟨l0, rfl, hr0, hm0, hw0, hc0⟩ := ReadsInt.ofRowC w0
 obtain ⟨l1, rfl, hr1, hm1, hw1, hc1⟩ := ReadsInt.ofRowC w1
 obtain ⟨k, h⟩ := P l0 l1 hm0 y0 hw0 hm1 y1 hw1
 refine (laws_FnShiftsRound.calls k _ _ l0 _ _ l1 true w (Kd.C_of_reads (d := (0 : Int)) (h1 := fun _ => rfl) hr0) hc0 (Kd.C_of_reads (d := (0 : Int)) (h1 := fun _ => rfl) hr1) hc1 h rfl).mono ?_
 rintro e w' ⟨rfl, hd⟩
 exact ⟨rfl, hd⟩

end Go.Proofs.Ythbpdbkokplgcaa.PFnShiftsRound
