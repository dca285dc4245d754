/- What each Go function that the statement FnFirstCycles reaches answers, proved call by call. No condition beyond those that the theorems print. (Written by wip/tools/xprint.py of this repo, over the kit's print.) -/
import Derived.Test.YtjplcongellcmaaPFnFirstCyclesx0
import Derived.Test.YtjplcongellcmaaPFnFirstCyclesx1
import Derived.Test.YtjplcongellcmaaPFnFirstCyclesx2
import Derived.Test.YtjplcongellcmaaPFnFirstCyclesx4
import Derived.Test.YtjplcongellcmaaPFnFirstCyclesx8
import Derived.Test.YtjplcongellcmaaPFnFirstCyclesx9
import Derived.Test.YtjplcongellcmaaPFnFirstCyclesx10
import Derived.Test.YtjplcongellcmaaPFnFirstCyclesx11
import Derived.Test.YtjplcongellcmaaPFnFirstCyclesx12
import Derived.Test.YtjplcongellcmaaPFnFirstCyclesx13
import Derived.Test.YtjplcongellcmaaPFnFirstCyclesx14
namespace Go.Proofs.Ytjplcongellcmaa.PFnFirstCycles
open Go.RowKit Go.Proofs.YtjplcongellcmaaW.PrintWords Go.Proofs.YtjplcongellcmaaW.PrintLast Go.Proofs.YtjplcongellcmaaW.PrintMore
attribute [local go_sem] max2_int min2_int max_two min_two max_three min_three max_four min_four   -- for this text's walks alone
set_option linter.unusedVariables false
set_option linter.unusedSimpArgs false

set_option maxHeartbeats 200000000 in
set_option maxRecDepth 100000 in
theorem laws_FnFirstCycles.calls (k : Nat) (A0 : Option Addr) (c0 : Nat) (l0 : List Int) (A1 : Option Addr) (c1 : Nat) (l1 : List Int) (r : Bool) (w : World) (hr0 : Kd.C (Kd.int .u8) w A0 l0.length l0) (hc0 : l0.length ≤ c0) (hr1 : Kd.C (Kd.int .u8) w A1 l1.length l1) (hc1 : l1.length ≤ c1) (h : laws_FnFirstCycles.f k l0 l1 = some r) (hr_ : r = true) :
  Calls Try.prog 8 #[.slice A0 l0.length c0, .slice A1 l1.length c1] w fun e w' => e = .returned (.bool r) ∧ Below w.heap.size w w' := by
 have HRT := xA hr_
 clear hr_
 have hu62 := Try.underlying62
 have HR0 := xA hr0
 have HC0 := xA hc0
 clear hr0 hc0
 have HR1 := xA hr1
 have HC1 := xA hc1
 clear hr1 hc1
 have HB := xA (Below.refl w.heap.size w)
 have H : ((laws_big.f l0 l1).bind fun t550 => (if t550 = true then (some true) else ((spec_DrawCyclesOfFirst.f l0).bind fun bt551 => ((impl_CyclesOfFirst.f k bt551.1 bt551.2.1 bt551.2.2.1 bt551.2.2.2.1 bt551.2.2.2.2.1 bt551.2.2.2.2.2).bind fun bt558 => ((spec_CyclesOfFirst.f k bt551.1 bt551.2.1 bt551.2.2.1 bt551.2.2.2.1 bt551.2.2.2.2.1 bt551.2.2.2.2.2).bind fun bt562 => ((impl_RestsOf.f k bt551.1 bt551.2.1 bt551.2.2.1 bt551.2.2.2.1 bt551.2.2.2.2.1 bt551.2.2.2.2.2).bind fun bt566 => ((spec_RestsOf.f k bt551.1 bt551.2.1 bt551.2.2.1 bt551.2.2.2.1 bt551.2.2.2.2.1 bt551.2.2.2.2.2).bind fun bt570 => (if (bt558.2 != bt562.2) = true then (laws_FnFirstCycles.j0 k l1 bt551.2.2.2.2.2 bt558.1 bt558.2 bt566.1 true bt551.1 bt551.2.1 bt551.2.2.1 bt551.2.2.2.1 bt551.2.2.2.2.1) else ((laws_uRows.f k bt558.1 bt562.1).bind fun t574 => (if t574 = true then (if (bt566.2 != bt570.2) = true then (laws_FnFirstCycles.j0 k l1 bt551.2.2.2.2.2 bt558.1 bt558.2 bt566.1 true bt551.1 bt551.2.1 bt551.2.2.1 bt551.2.2.2.1 bt551.2.2.2.2.1) else ((laws_uSame.f k bt566.1 bt570.1).bind fun t575 => (if t575 = true then (laws_FnFirstCycles.j0 k l1 bt551.2.2.2.2.2 bt558.1 bt558.2 bt566.1 (bt566.2 != bt558.2) bt551.1 bt551.2.1 bt551.2.2.1 bt551.2.2.2.1 bt551.2.2.2.2.1) else (laws_FnFirstCycles.j0 k l1 bt551.2.2.2.2.2 bt558.1 bt558.2 bt566.1 true bt551.1 bt551.2.1 bt551.2.2.1 bt551.2.2.2.1 bt551.2.2.2.2.1)))) else (laws_FnFirstCycles.j0 k l1 bt551.2.2.2.2.2 bt558.1 bt558.2 bt566.1 true bt551.1 bt551.2.1 bt551.2.2.1 bt551.2.2.2.1 bt551.2.2.2.2.1))))))))))) = some r := h
 clear h
 obtain ⟨t550, A3, H⟩ := xO H
 (try dsimp only at H)
 by_cases c4 : t550 = true
 ·as_aux_lemma =>
   subst c4
   rw [if_pos rfl] at H
   obtain rfl := Option.some.inj H
   go_enter Try.func8, Try.ntmps8
   go_wp2_with (first | (refine xG (some 73) Try.func13 #[.slice A0 l0.length c0, .slice A1 l1.length c1] ?_; (with_reducible refine (laws_big.calls _ _ l0 _ _ l1 true _ ?side1 ?side2 ?side3 ?side4 A3.out).mono ?_); (case side1 => exact xC HR0.out); (case side2 => exact HC0.out); (case side3 => exact xC HR1.out); (case side4 => exact HC1.out); rintro e w' ⟨rfl, ⟨nd, rfl⟩⟩; refine ⟨_, rfl, ?_⟩))
   (try any_goals exact (xUn (by assumption)).elim)
   go_ret
   exact ⟨xr, xB HB.out⟩
 replace c4 := Bool.eq_false_iff.mpr c4
 subst c4
 rw [if_neg (show ¬ (false = true) by decide)] at H
 replace H := Option.bind_eq_some_iff.mp H
 obtain ⟨⟨t551, t552, t553, t554, t555, t556⟩, A50, H⟩ := H
 (try dsimp only at H)
 have A5 := xA A50
 clear A50
 replace H := Option.bind_eq_some_iff.mp H
 obtain ⟨⟨t558, t561⟩, A60, H⟩ := H
 (try dsimp only at H)
 have A6 := xA A60
 clear A60
 replace H := Option.bind_eq_some_iff.mp H
 obtain ⟨⟨t562, t565⟩, A70, H⟩ := H
 (try dsimp only at H)
 have A7 := xA A70
 clear A70
 replace H := Option.bind_eq_some_iff.mp H
 obtain ⟨⟨t566, t569⟩, A80, H⟩ := H
 (try dsimp only at H)
 have A8 := xA A80
 clear A80
 replace H := Option.bind_eq_some_iff.mp H
 obtain ⟨⟨t570, t573⟩, A90, H⟩ := H
 (try dsimp only at H)
 have A9 := xA A90
 clear A90
 have HC10 := xA H
 clear H
 go_enter Try.func8, Try.ntmps8
 go_upto_region 8 with (first | (refine xq rfl ?_; first | (refine xG (some 73) Try.func13 #[.slice A0 l0.length c0, .slice A1 l1.length c1] ?_; (with_reducible refine (laws_big.calls _ _ l0 _ _ l1 false _ ?side1 ?side2 ?side3 ?side4 A3.out).mono ?_); (case side1 => exact xC HR0.out); (case side2 => exact HC0.out); (case side3 => exact xC HR1.out); (case side4 => exact HC1.out); rintro e w' ⟨rfl, ⟨nd, rfl⟩⟩; refine ⟨_, rfl, ?_⟩) | (refine xG (some 76) Try.func105 #[.slice A0 l0.length c0] ?_; (with_reducible refine (spec_DrawCyclesOfFirst.calls _ _ l0 t551 t552 t553 t554 t555 t556 _ ?side1 ?side2 A5.out).mono ?_); (case side1 => exact xC HR0.out); (case side2 => exact HC0.out); rintro e w11 ⟨rfl, hb⟩; refine ⟨_, rfl, ?_⟩; replace HB := xA (below_step (xB HB.out) hb); (try clear hb)) | (refine xG (some 82) Try.func106 #[.agg #[.int .i64 t551, .int .i64 t552, .int .i64 t553, .int .i64 t554, .bool t555], .int .i64 t556] ?_; (with_reducible refine (impl_CyclesOfFirst.calls k t551 t552 t553 t554 t555 t556 t558 t561 _ A6.out).mono ?_); rintro e w14 ⟨v559, rfl, ho0, hb⟩; refine ⟨_, rfl, ?_⟩; have HO560 := xA (Kd.N_lower (Kd.N_mono (ok' := fun k_ => k_ ≠ gb557) ho0 (fun k_ hk_ => (Kd.freshB (g := gb557) (o := .cells #[.int .i64 t551, .int .i64 t552, .int .i64 t553, .int .i64 t554, .bool t555] 62 (0, 0)) (xPt0 BK557.out) k_ hk_))) (below_size (xB1 GE557.out HB.out))); replace BK557 := xA (blk_below (g := gb557) (o := .cells #[.int .i64 t551, .int .i64 t552, .int .i64 t553, .int .i64 t554, .bool t555] 62 (0, 0)) (xPt0 BK557.out) hb); replace HB := xA (below_step (xB1 GE557.out HB.out) hb); (try clear hb); (try clear ho0); obtain ⟨hcz15_0, hcz15_1, hcz15_2, hcz15_3, hcz15_4, hfz15_0, hfz15_1, hfz15_2, hfz15_3, hfz15_4⟩ := xZ5 BK557.out) | (refine xG (some 88) Try.func107 #[.agg #[.int .i64 t551, .int .i64 t552, .int .i64 t553, .int .i64 t554, .bool t555], .int .i64 t556] ?_; (with_reducible refine (spec_CyclesOfFirst.calls k t551 t552 t553 t554 t555 t556 t562 t565 _ A7.out).mono ?_); rintro e w16 ⟨v563, rfl, ho0, hb⟩; refine ⟨_, rfl, ?_⟩; have HO564 := xA (Kd.N_lower (Kd.N_mono (ok' := fun k_ => some k_ ≠ (v559 : Value).ownBlock ∧ k_ ≠ gb557) ho0 (fun k_ hk_ => ⟨(Kd.fresh' (Kd.N_lt (by (with_reducible repeat (first | apply Kd.N_alloc | apply Kd.N_drewN | apply Kd.N_drew)); exact HO560.out)) k_ hk_), (Kd.freshB (xK BK557.out) k_ hk_)⟩)) (below_size (xB1 GE557.out HB.out))); replace HO560 := xA (Kd.N_elder' (by (with_reducible repeat (first | apply Kd.N_alloc | apply Kd.N_drewN | apply Kd.N_drew)); exact HO560.out) (Kd.N_base ho0) hb); replace BK557 := xkb BK557 hb; replace HB := xA (below_step (xB1 GE557.out HB.out) hb); (try clear hb); (try clear ho0); obtain ⟨hcz17_0, hcz17_1, hcz17_2, hcz17_3, hcz17_4, hfz17_0, hfz17_1, hfz17_2, hfz17_3, hfz17_4⟩ := xZ5 BK557.out) | (refine xG (some 94) Try.func108 #[.agg #[.int .i64 t551, .int .i64 t552, .int .i64 t553, .int .i64 t554, .bool t555], .int .i64 t556] ?_; (with_reducible refine (impl_RestsOf.calls k t551 t552 t553 t554 t555 t556 t566 t569 _ A8.out).mono ?_); rintro e w18 ⟨v567, rfl, ho0, hb⟩; refine ⟨_, rfl, ?_⟩; replace HO560 := xA (Kd.N_elder' (by (with_reducible repeat (first | apply Kd.N_alloc | apply Kd.N_drewN | apply Kd.N_drew)); exact HO560.out) (Kd.R_base ho0) hb); replace HO564 := xA (Kd.N_elder' (by (with_reducible repeat (first | apply Kd.N_alloc | apply Kd.N_drewN | apply Kd.N_drew)); exact HO564.out) (Kd.R_base ho0) hb); have HO568 := xA (Kd.R_lower ho0 (below_size (xB1 GE557.out HB.out))); replace BK557 := xkb BK557 hb; replace HB := xA (below_step (xB1 GE557.out HB.out) hb); (try clear hb); (try clear ho0); obtain ⟨hcz19_0, hcz19_1, hcz19_2, hcz19_3, hcz19_4, hfz19_0, hfz19_1, hfz19_2, hfz19_3, hfz19_4⟩ := xZ5 BK557.out) | (refine xG (some 100) Try.func109 #[.agg #[.int .i64 t551, .int .i64 t552, .int .i64 t553, .int .i64 t554, .bool t555], .int .i64 t556] ?_; (with_reducible refine (spec_RestsOf.calls k t551 t552 t553 t554 t555 t556 t570 t573 _ A9.out).mono ?_); rintro e w20 ⟨v571, rfl, ho0, hb⟩; refine ⟨_, rfl, ?_⟩; replace HO560 := xA (Kd.N_elder' (by (with_reducible repeat (first | apply Kd.N_alloc | apply Kd.N_drewN | apply Kd.N_drew)); exact HO560.out) (Kd.R_base ho0) hb); replace HO564 := xA (Kd.N_elder' (by (with_reducible repeat (first | apply Kd.N_alloc | apply Kd.N_drewN | apply Kd.N_drew)); exact HO564.out) (Kd.R_base ho0) hb); have HO572 := xA (Kd.R_lower (Kd.R_new' ho0 (Kd.R_lt (xR HO568.out))) (below_size (xB1 GE557.out HB.out))); replace HO568 := xA (Kd.R_elder' (xR HO568.out) (Kd.R_base ho0) hb); replace BK557 := xkb BK557 hb; replace HB := xA (below_step (xB1 GE557.out HB.out) hb); (try clear hb); (try clear ho0))) | ((with_reducible refine gate_dst (N := 5) rfl ?_); (try (refine gate_guard (by rfl) ?_; dsimp only)); refine box_event ?hg (N := 5) ?hd (cs := #[.int .i64 0, .int .i64 0, .int .i64 0, .int .i64 0, .bool false]) (t := 62) ?hr ?_; (case hd => rfl); (case hg => rfl); (case hr => first | (go_simp; done) | (go_simp; rfl)); intro gb557 hg w12 hbox hb; have BK557 := xA (hbox); have GW557 := xgw hg (below_size (xB HB.out)); have GE557 := GW557; replace HB := xA (below_step (xB HB.out) hb); clear hb hbox hg; obtain ⟨hcz13_0, hcz13_1, hcz13_2, hcz13_3, hcz13_4, hfz13_0, hfz13_1, hfz13_2, hfz13_3, hfz13_4⟩ := xZ5 BK557.out))
 (try simp only [Act.put, List.setIfInBounds_toArray, List.set_cons_zero, List.set_cons_succ])
 go_cut [127] from 71 to 102 (fun v127 wc => ∃ (kq : Nat) (x127_9 : Bool), v127 = .bool x127_9 ∧ Aside0 (laws_FnFirstCycles.j0 kq l1 t556 t558 t561 t566 x127_9 t551 t552 t553 t554 t555 = some r) ∧ Aside0 (kq ≤ k) ∧ Aside0 (Kd.N (Kd.slice 3 (Kd.int .i64)) 24 wc w.heap.size (fun k_ => some k_ ≠ (v567 : Value).ownBlock ∧ k_ ≠ gb557) v559 t558) ∧ Aside0 (Kd.R (Kd.int .i64) 3 wc w.heap.size (fun _ => True) v567 t566) ∧ Aside0 (wc.heap[gb557]? = some (.cells #[.int .i64 t551, .int .i64 t552, .int .i64 t553, .int .i64 t554, .bool t555] 62 (0, 0))) ∧ Aside0 (Below w.heap.size w wc))
 case first => as_aux_lemma =>
  have H := HC10.out
  clear HC10
  by_cases c21 : (t561 != t565) = true
  ·rw [if_pos c21] at H; exact absurd H (by have hr_ := HRT.out; cases k <;> simp [laws_FnFirstCycles.j0, hr_])
  rw [if_neg c21] at H
  have c21b0 : (t561 != t565) = false := by simpa using c21
  (try (have c21b1 : decide (t561 = t565) = true := by simpa using c21))
  (try (have c21b2 : (t561 == t565) = true := by simpa using c21))
  clear c21
  (first | rw [c21b0] | (simp only [i64_w, i32_w]; rw [c21b0]) | skip)
  obtain ⟨t574, A22, H⟩ := xO H
  (try dsimp only at H)
  by_cases c23 : t574 = true
  rotate_left
  ·replace c23 := Bool.eq_false_iff.mpr c23; subst c23; exact absurd H (by have hr_ := HRT.out; cases k <;> simp [laws_FnFirstCycles.j0, hr_])
  as_aux_lemma =>
   subst c23
   rw [if_pos rfl] at H
   by_cases c24 : (t569 != t573) = true
   ·rw [if_pos c24] at H; exact absurd H (by have hr_ := HRT.out; cases k <;> simp [laws_FnFirstCycles.j0, hr_])
   rw [if_neg c24] at H
   have c24b0 : (t569 != t573) = false := by simpa using c24
   (try (have c24b1 : decide (t569 = t573) = true := by simpa using c24))
   (try (have c24b2 : (t569 == t573) = true := by simpa using c24))
   clear c24
   obtain ⟨t575, A25, H⟩ := xO H
   (try dsimp only at H)
   by_cases c26 : t575 = true
   rotate_left
   ·replace c26 := Bool.eq_false_iff.mpr c26; subst c26; exact absurd H (by have hr_ := HRT.out; cases k <;> simp [laws_FnFirstCycles.j0, hr_])
   subst c26
   rw [if_pos rfl] at H
   have H' := xA H
   clear H
   obtain ⟨Ao27, co27, eo27⟩ := Kd.N_slice HO560.out
   subst eo27
   obtain ⟨Ao28, co28, eo28⟩ := Kd.N_slice HO564.out
   subst eo28
   go_wp2_with (first | (go_at_call 110; (with_reducible refine (laws_uRows.calls k _ _ t558 _ _ t562 true _ ?side1 ?side2 ?side3 ?side4 A22.out).mono ?_); (case side1 => exact xC ((Kd.N_reads' HO560.out).2.2)); (case side2 => exact (Kd.N_reads' HO560.out).2.1); (case side3 => exact xC ((Kd.N_reads' HO564.out).2.2)); (case side4 => exact (Kd.N_reads' HO564.out).2.1); rintro e w' ⟨rfl, ⟨nd, rfl⟩⟩; obtain ⟨Ao29, co29, eo29⟩ := Kd.R_slice HO568.out; subst eo29; obtain ⟨Ao30, co30, eo30⟩ := Kd.R_slice HO572.out; subst eo30) | (go_at_call 44; (with_reducible refine (laws_uSame.calls k _ _ t566 _ _ t570 true _ ?side1 ?side2 ?side3 ?side4 A25.out).mono ?_); (case side1 => exact xC ((Kd.R_reads' HO568.out).2.2)); (case side2 => exact (Kd.R_reads' HO568.out).2.1); (case side3 => exact xC ((Kd.R_reads' HO572.out).2.2)); (case side4 => exact (Kd.R_reads' HO572.out).2.1); rintro e w' ⟨rfl, ⟨nd, rfl⟩⟩))
   (try any_goals exact (xUn (by assumption)).elim)
   go_meet
   case rel => exact ⟨_, ((t569 != t561)), xs, H', ⟨by first | omega | exact Nat.le_refl _⟩, ⟨by (with_reducible repeat (first | apply Kd.N_alloc | apply Kd.N_drewN | apply Kd.N_drew)); exact Kd.N_mono HO560.out (fun _ hk => ⟨hk.1.2, hk.1.1.1⟩)⟩, ⟨by (with_reducible repeat (first | apply Kd.R_alloc | apply Kd.R_drewN | apply Kd.R_drew)); exact Kd.R_mono HO568.out (fun _ hk => trivial)⟩, ⟨xK BK557.out⟩, ⟨xB1 GE557.out HB.out⟩⟩
 case rest =>
  clear HC10
  try clear c1
  try clear c4
  try clear hcz13_0
  try clear hcz13_1
  try clear hcz13_2
  try clear hcz13_3
  try clear hcz13_4
  try clear hcz15_0
  try clear hcz15_1
  try clear hcz15_2
  try clear hcz15_3
  try clear hcz15_4
  try clear hcz17_0
  try clear hcz17_1
  try clear hcz17_2
  try clear hcz17_3
  try clear hcz17_4
  try clear hcz19_0
  try clear hcz19_1
  try clear hcz19_2
  try clear hcz19_3
  try clear hcz19_4
  try clear hfz13_0
  try clear hfz13_1
  try clear hfz13_2
  try clear hfz13_3
  try clear hfz13_4
  try clear hfz15_0
  try clear hfz15_1
  try clear hfz15_2
  try clear hfz15_3
  try clear hfz15_4
  try clear hfz17_0
  try clear hfz17_1
  try clear hfz17_2
  try clear hfz17_3
  try clear hfz17_4
  try clear hfz19_0
  try clear hfz19_1
  try clear hfz19_2
  try clear hfz19_3
  try clear hfz19_4
  obtain ⟨kq, x127_9, rfl, HA, HJ9, HO_7, HO_11, BK557, HB⟩ := hcut
  cases kq with
  | zero => exact absurd HA.out (by simp [laws_FnFirstCycles.j0])
  | succ kj9 =>
   have H := HA.out
   clear HA
   simp only [laws_FnFirstCycles.j0] at H
   by_cases c31 : x127_9 = true
   ·as_aux_lemma =>
     subst c31
     rw [if_pos rfl] at H
     exact absurd ((Option.some.inj H).trans HRT.out) (by decide)
   replace c31 := Bool.eq_false_iff.mpr c31
   subst c31
   rw [if_neg (show ¬ (false = true) by decide)] at H
   have HC32 := xA H
   clear H
   go_upto_if 128 with (fail)
   go_cut [] from 103 to 128 (fun wc => ∃ (kq : Nat), Aside0 (laws_FnFirstCycles.j5 kq l1 = some r) ∧ Aside0 (kq ≤ kj9) ∧ Aside0 (wc.heap[gb557]? = some (.cells #[.int .i64 t551, .int .i64 t552, .int .i64 t553, .int .i64 t554, .bool t555] 62 (0, 0))) ∧ Aside0 (Below w.heap.size w wc))
   case first => as_aux_lemma =>
    have H := HC32.out
    clear HC32
    by_cases c33 : t561 = true
    rotate_left
    ·as_aux_lemma =>
      replace c33 := Bool.eq_false_iff.mpr c33
      subst c33
      rw [if_neg (show ¬ (false = true) by decide)] at H
      have H' := xA H
      clear H
      go_wp2
      (try any_goals exact (xUn (by assumption)).elim)
      go_meet
      case rel => exact ⟨_, H', ⟨by have := HJ9.out; first | omega | exact Nat.le_refl _⟩, ⟨xK BK557.out⟩, ⟨xB1 GE557.out HB.out⟩⟩
    subst c33
    rw [if_pos rfl] at H
    by_cases c34 : (t558.length : Int) = 0
    ·as_aux_lemma =>
      rw [if_pos c34] at H
      have c34b0 : ((t558.length : Int) == 0) = true := beq_iff_eq.mpr c34
      have c34b1 : ((t558.length : Int) != 0) = false := bne_eq_false_iff_eq.mpr c34
      clear c34
      (first | rw [c34b0] | (simp only [i64_w, i32_w]; rw [c34b0]) | skip)
      exact absurd ((Option.some.inj H).trans HRT.out) (by decide)
    rw [if_neg c34] at H
    have c34b0 : ((t558.length : Int) == 0) = false := beq_eq_false_iff_ne.mpr c34
    have c34b1 : ((t558.length : Int) != 0) = true := bne_iff_ne.mpr c34
    have c34b2 : ¬ (t558 = []) := fun h_ => c34 (by rw [h_]; rfl)
    (first | rw [c34b0] | (simp only [i64_w, i32_w]; rw [c34b0]) | skip)
    have H' := xA H
    clear H
    obtain ⟨Ao35, co35, eo35⟩ := Kd.N_slice HO_7.out
    subst eo35
    go_wp2
    (try any_goals exact (xUn (by assumption)).elim)
    go_loopg [15, 134] kj9 (fun kq v15 v134 w' => ∃ (x15_2 : Int) (x134_2 : Int), v15 = .int .i64 x15_2 ∧ v134 = .int .i64 x134_2 ∧ Aside0 (laws_FnFirstCycles.l0 kq l1 t556 t558 t566 x15_2 t558 (t558.length : Int) x134_2 t551 t552 t553 t554 t555 = some r) ∧ Aside0 (kq ≤ kj9) ∧ Aside0 (Kd.N (Kd.slice 3 (Kd.int .i64)) 24 w' w.heap.size (fun k_ => some k_ ≠ (v567 : Value).ownBlock ∧ k_ ≠ gb557) (.slice Ao35 t558.length co35) t558) ∧ Aside0 (Kd.R (Kd.int .i64) 3 w' w.heap.size (fun _ => True) v567 t566) ∧ Aside0 (Kd.N (Kd.slice 3 (Kd.int .i64)) 24 w' w.heap.size (fun k_ => some k_ ≠ (v567 : Value).ownBlock ∧ k_ ≠ gb557) (.slice Ao35 t558.length co35) t558) ∧ Aside0 (w'.heap[gb557]? = some (.cells #[.int .i64 t551, .int .i64 t552, .int .i64 t553, .int .i64 t554, .bool t555] 62 (0, 0))) ∧ Aside0 (Below w.heap.size w w'))
    case atStart => exact ⟨(0), (0), xs, xs, H', ⟨Nat.le_refl _⟩, ⟨by (with_reducible repeat (first | apply Kd.N_alloc | apply Kd.N_drewN | apply Kd.N_drew)); exact HO_7.out⟩, ⟨xR HO_11.out⟩, ⟨by (with_reducible repeat (first | apply Kd.N_alloc | apply Kd.N_drewN | apply Kd.N_drew)); exact HO_7.out⟩, ⟨xK BK557.out⟩, ⟨xB1 GE557.out HB.out⟩⟩
    case round =>
     clear H'
     try clear c31
     try clear c33
     try clear c34
     try clear c34b0
     try clear c34b1
     try clear c34b2
     obtain ⟨x15_2, x134_2, rfl, rfl, HA, HK2, HO_7, HO_11, HO_132, BK557, HB⟩ := hrel
     cases gk with
     | zero => exact absurd HA.out (by simp [laws_FnFirstCycles.l0])
     | succ k2 =>
      have H := HA.out
      clear HA
      simp only [laws_FnFirstCycles.l0] at H
      by_cases c36 : x134_2 < (t558.length : Int)
      rotate_left
      ·as_aux_lemma =>
        rw [if_neg c36] at H
        have c36b0 : decide (x134_2 < (t558.length : Int)) = false := decide_eq_false c36
        clear c36
        by_cases c77 : x15_2 = (t566.length : Int)
        rotate_left
        ·rw [if_neg c77] at H
         have c77b0 : (x15_2 == (t566.length : Int)) = false := beq_eq_false_iff_ne.mpr c77
         have c77b1 : (x15_2 != (t566.length : Int)) = true := bne_iff_ne.mpr c77
         exact absurd ((Option.some.inj H).trans HRT.out) (by decide)
        rw [if_pos c77] at H
        have c77b0 : (x15_2 == (t566.length : Int)) = true := beq_iff_eq.mpr c77
        have c77b1 : (x15_2 != (t566.length : Int)) = false := bne_eq_false_iff_eq.mpr c77
        clear c77
        have H' := xA H
        clear H
        obtain ⟨Ao78, co78, eo78⟩ := Kd.R_slice HO_11.out
        subst eo78
        go_wp2
        (try any_goals exact (xUn (by assumption)).elim)
        go_meet
        case rel => exact ⟨_, H', ⟨by have := HJ9.out; have := HK2.out; first | omega | exact Nat.le_refl _⟩, ⟨xK BK557.out⟩, ⟨xB1 GE557.out HB.out⟩⟩
      rw [if_pos c36] at H
      have c36b0 : decide (x134_2 < (t558.length : Int)) = true := decide_eq_true c36
      clear c36
      by_cases c37 : 0 ≤ x134_2
      rotate_left
      ·rw [if_neg c37] at H
       exact absurd H (by simp)
      rw [if_pos c37] at H
      have c37b0 : decide (0 ≤ x134_2) = true := decide_eq_true c37
      clear c37
      by_cases c38 : x134_2 < (t558.length : Int)
      rotate_left
      ·rw [if_neg c38] at H
       exact absurd H (by simp)
      rw [if_pos c38] at H
      have c38b0 : decide (x134_2 < (t558.length : Int)) = true := decide_eq_true c38
      clear c38
      have HC39 := xA H
      clear H
      have p576 : 0 ≤ (x134_2 : Int) := of_decide_eq_true (by first | (with_reducible assumption) | assumption)
      have q576 : x134_2 < (t558.length : Int) := of_decide_eq_true (by first | (with_reducible assumption) | assumption)
      obtain ⟨ad576, A576_0, c576_0, e576, hx576_0, hl576_0, hi576_0⟩ := at_L5 (Kd.N_reads' HO_132.out).2.2 x134_2 p576 q576
      cases e576
      obtain ⟨ce576, hce576, hMe576, hcc576⟩ := Kd.N_get HO_132.out [] x134_2 p576 (by first | exact q576 | exact of_decide_eq_true (by first | (with_reducible assumption) | assumption) | (have e_ := (Kd.N_reads' HO_132.out).1; omega))
      obtain ⟨ua576_0, uc576_0, rfl, ul576_0, ge576_0⟩ := Kd.FK_slice_open hMe576
      have hv576_0 := hcc576 0 _ rfl
      rw [Nat.add_zero, show ((Kd.slice 3 (Kd.int .i64))).sz = 1 from rfl, Nat.mul_one] at hv576_0
      replace hv576_0 := Option.some.inj (hv576_0.symm.trans hx576_0)
      injection hv576_0 with hva_ hvn_ hvc_
      rw [hva_] at ge576_0
      rw [hvc_] at ul576_0
      have HL576_0 := xA (show Kd.V (Kd.int .i64) 3 _ w.heap.size _ _ (rd_L5 t558 x134_2) from Kd.V_mk ul576_0 ge576_0)
      clear hva_ hvn_ hvc_ ge576_0 ul576_0
      clear hcc576 hce576
      have HR576_0 := xA hi576_0
      have HC576_0 := xA hl576_0
      clear hi576_0 hl576_0
      replace p576 := eq_true p576
      replace q576 := eq_true q576
      go_upto_region 17 with (fail)
      go_cut [158] from 135 to 138 (fun v158 wc => ∃ (kq : Nat) (x158_38 : Bool), v158 = .bool x158_38 ∧ Aside0 (laws_FnFirstCycles.j2 kq l1 t556 t558 t566 x15_2 (rd_L5 t558 x134_2) t558 (t558.length : Int) x134_2 x158_38 t551 t552 t553 t554 t555 = some r) ∧ Aside0 (kq ≤ k2) ∧ Aside0 (Kd.N (Kd.slice 3 (Kd.int .i64)) 24 wc w.heap.size (fun k_ => some k_ ≠ (v567 : Value).ownBlock ∧ k_ ≠ gb557) (.slice (some ad576) t558.length co35) t558) ∧ Aside0 (Kd.R (Kd.int .i64) 3 wc w.heap.size (fun _ => True) v567 t566) ∧ Aside0 (Kd.N (Kd.slice 3 (Kd.int .i64)) 24 wc w.heap.size (fun k_ => some k_ ≠ (v567 : Value).ownBlock ∧ k_ ≠ gb557) (.slice (some ad576) t558.length co35) t558) ∧ Aside0 (wc.heap[gb557]? = some (.cells #[.int .i64 t551, .int .i64 t552, .int .i64 t553, .int .i64 t554, .bool t555] 62 (0, 0))) ∧ Aside0 (Kd.C (Kd.int .i64) wc A576_0 (rd_L5 t558 x134_2).length (rd_L5 t558 x134_2)) ∧ Aside0 (Below w.heap.size w wc))
      case first => as_aux_lemma =>
       have H := HC39.out
       clear HC39
       by_cases c40 : ((rd_L5 t558 x134_2).length : Int) = 0
       ·rw [if_pos c40] at H; exact absurd H (by have hr_ := HRT.out; cases k2 <;> simp [laws_FnFirstCycles.j2, hr_])
       rw [if_neg c40] at H
       have c40b0 : (((rd_L5 t558 x134_2).length : Int) == 0) = false := beq_eq_false_iff_ne.mpr c40
       have c40b1 : (((rd_L5 t558 x134_2).length : Int) != 0) = true := bne_iff_ne.mpr c40
       have c40b2 : ¬ ((rd_L5 t558 x134_2) = []) := fun h_ => c40 (by rw [h_]; rfl)
       (first | rw [c40b0] | (simp only [i64_w, i32_w]; rw [c40b0]) | skip)
       by_cases c41 : x134_2 > 0
       rotate_left
       ·rw [if_neg c41] at H
        have c41b0 : decide (0 < x134_2) = false := decide_eq_false c41
        clear c41
        have H' := xA H
        clear H
        try go_wp2
        replace HO_7 := xA (Kd.N_drew HO_7.out)
        replace HO_11 := xA (Kd.R_drew HO_11.out)
        replace HO_132 := xA (Kd.N_drew HO_132.out)
        replace HL576_0 := xA (Kd.V_drew HL576_0.out)
        replace BK557 := xA (blk_drew BK557.out)
        replace HR576_0 := xA (Kd.C_drew HR576_0.out)
        replace HB := xA (below_drew1 HB.out)
        refine start_ (n := 20) (S := fun w' => True) (ds := []) x14a0 (by kernel_rfl) rfl rfl trivial (fun hHeld => ?_); refine with_tabW laws_FnFirstCycles.tab17 laws_FnFirstCycles.bits17 (fun HT_ HW_ => ?_)
        generalize wr.drew = w48 at HO_7 HO_11 HO_132 HL576_0 BK557 HR576_0 HB hHeld ⊢
        refine xP 0 139 x14a1 ?_
        refine xP 1 140 x14a2 ?_
        refine xP 2 141 x14a3 ?_
        refine xP 3 142 x14a4 ?_
        refine xP 4 143 x14a5 ?_
        refine xP 5 144 x14a6 ?_
        refine xP 6 145 x14a7 ?_
        refine pure_ (i := 7) (N := some 146) (v := undef) (a' := ?_) x14a8 rfl rfl (any_of HT_.out (by kernel_rfl)) (fun _ _ _ h => h) (Or.inr ⟨by rfl, rfl⟩) ?_ ?_
        rotate_left
        ·exact xE
        refine pure_ (i := 8) (N := some 147) (v := undef) (a' := ?_) x14a9 rfl rfl (any_of HT_.out (by kernel_rfl)) (fun _ _ _ h => h) (Or.inr ⟨by rfl, rfl⟩) ?_ ?_
        rotate_left
        ·exact xE
        refine pure_ (i := 9) (N := some 148) (v := undef) (a' := ?_) x14a10 rfl rfl (any_of HT_.out (by kernel_rfl)) (fun _ _ _ h => h) (Or.inr ⟨by rfl, rfl⟩) ?_ ?_
        rotate_left
        ·exact xE
        refine pure_ (i := 10) (N := some 149) (v := undef) (a' := ?_) x14a11 rfl rfl (any_of HT_.out (by kernel_rfl)) (fun _ _ _ h => h) (Or.inr ⟨by rfl, rfl⟩) ?_ ?_
        rotate_left
        ·exact xE
        refine pure_ (i := 11) (N := some 150) (v := undef) (a' := ?_) x14a12 rfl rfl (any_of HT_.out (by kernel_rfl)) (fun _ _ _ h => h) (Or.inr ⟨by rfl, rfl⟩) ?_ ?_
        rotate_left
        ·exact xE
        refine pure_ (i := 12) (N := some 151) (v := undef) (a' := ?_) x14a13 rfl rfl (any_of HT_.out (by kernel_rfl)) (fun _ _ _ h => h) (Or.inr ⟨by rfl, rfl⟩) ?_ ?_
        rotate_left
        ·exact xE
        refine pure_ (i := 13) (N := some 152) (v := undef) (a' := ?_) x14a14 rfl rfl (any_of HT_.out (by kernel_rfl)) (fun _ _ _ h => h) (Or.inr ⟨by rfl, rfl⟩) ?_ ?_
        rotate_left
        ·exact xE
        refine pure_ (i := 14) (N := some 153) (v := undef) (a' := ?_) x14a15 rfl rfl (any_of HT_.out (by kernel_rfl)) (fun _ _ _ h => h) (Or.inr ⟨by rfl, rfl⟩) ?_ ?_
        rotate_left
        ·exact xE
        refine pure_ (i := 15) (N := some 154) (v := undef) (a' := ?_) x14a16 rfl rfl (any_of HT_.out (by kernel_rfl)) (fun _ _ _ h => h) (Or.inr ⟨by rfl, rfl⟩) ?_ ?_
        rotate_left
        ·exact xE
        refine pure_ (i := 16) (N := some 155) (v := undef) (a' := ?_) x14a17 rfl rfl (any_of HT_.out (by kernel_rfl)) (fun _ _ _ h => h) (Or.inr ⟨by rfl, rfl⟩) ?_ ?_
        rotate_left
        ·exact xE
        refine pure_ (i := 17) (N := some 156) (v := undef) (a' := ?_) x14a18 rfl rfl (any_of HT_.out (by kernel_rfl)) (fun _ _ _ h => h) (Or.inr ⟨by rfl, rfl⟩) ?_ ?_
        rotate_left
        ·exact xE
        refine xP 18 157 x14a19 ?_
        refine xP 19 158 x14a20 ?_
        refine xDn ?_
        try go_wp2
        go_meet
        case rel => exact ⟨_, (false), xs, H', ⟨by have := HJ9.out; have := HK2.out; first | omega | exact Nat.le_refl _⟩, ⟨by (with_reducible repeat (first | apply Kd.N_alloc | apply Kd.N_drewN | apply Kd.N_drew)); exact HO_7.out⟩, ⟨xR HO_11.out⟩, ⟨by (with_reducible repeat (first | apply Kd.N_alloc | apply Kd.N_drewN | apply Kd.N_drew)); exact HO_132.out⟩, ⟨xK BK557.out⟩, ⟨by repeat (first | (with_reducible exact HR576_0.out) | (with_reducible refine Kd.C_alloc ?_ _) | (with_reducible refine Kd.C_drewN ?_ _) | (with_reducible refine Kd.C_drew ?_) | exact HR576_0.out)⟩, ⟨xB1 GE557.out HB.out⟩⟩
       rw [if_pos c41] at H
       have c41b0 : decide (0 < x134_2) = true := decide_eq_true c41
       clear c41
       obtain ⟨ji42, hji42⟩ : ∃ j_ : Int, (wrap64 (x134_2 - 1)) = j_ := ⟨_, rfl⟩
       (first | rw [hji42] at H | simp only [hji42] at H)
       have hji42w : (IntKind.i64.wrap (x134_2 - 1)) = ji42 := (i64_w _).trans hji42
       by_cases c43 : 0 ≤ (ji42)
       rotate_left
       ·rw [if_neg c43] at H
        exact absurd H (by simp)
       rw [if_pos c43] at H
       have c43b0 : decide (0 ≤ (ji42)) = true := decide_eq_true c43
       clear c43
       by_cases c44 : (ji42) < (t558.length : Int)
       rotate_left
       ·rw [if_neg c44] at H
        exact absurd H (by simp)
       rw [if_pos c44] at H
       have c44b0 : decide ((ji42) < (t558.length : Int)) = true := decide_eq_true c44
       clear c44
       by_cases c45 : 0 < ((rd_L5 t558 (ji42)).length : Int)
       rotate_left
       ·rw [if_neg c45] at H
        exact absurd H (by simp)
       rw [if_pos c45] at H
       have c45b0 : decide (0 < ((rd_L5 t558 (ji42)).length : Int)) = true := decide_eq_true c45
       have c45b1 : decide (0 < (rd_L5 t558 (ji42)).length) = true := decide_eq_true (by omega)
       clear c45
       by_cases c46 : 0 < ((rd_L5 t558 x134_2).length : Int)
       rotate_left
       ·rw [if_neg c46] at H
        exact absurd H (by simp)
       rw [if_pos c46] at H
       have c46b0 : decide (0 < ((rd_L5 t558 x134_2).length : Int)) = true := decide_eq_true c46
       have c46b1 : decide (0 < (rd_L5 t558 x134_2).length) = true := decide_eq_true (by omega)
       clear c46
       have H' := xA H
       clear H
       try go_wp2
       replace HO_7 := xA (Kd.N_drew HO_7.out)
       replace HO_11 := xA (Kd.R_drew HO_11.out)
       replace HO_132 := xA (Kd.N_drew HO_132.out)
       replace HL576_0 := xA (Kd.V_drew HL576_0.out)
       replace BK557 := xA (blk_drew BK557.out)
       replace HR576_0 := xA (Kd.C_drew HR576_0.out)
       replace HB := xA (below_drew1 HB.out)
       have p577 : 0 ≤ ((ji42) : Int) := of_decide_eq_true (by first | (with_reducible assumption) | assumption | (rw [← hji42]; first | (with_reducible assumption) | assumption))
       have q577 : (ji42) < (t558.length : Int) := of_decide_eq_true (by first | (with_reducible assumption) | assumption | (rw [← hji42]; first | (with_reducible assumption) | assumption))
       obtain ⟨ad577, A577_0, c577_0, e577, hx577_0, hl577_0, hi577_0⟩ := at_L5 (Kd.N_reads' HO_7.out).2.2 (ji42) p577 q577
       obtain rfl : ad576 = ad577 := (by injection e577)
       obtain ⟨ce577, hce577, hMe577, hcc577⟩ := Kd.N_get HO_7.out [] (ji42) p577 (by first | exact q577 | exact of_decide_eq_true (by first | (with_reducible assumption) | assumption) | (have e_ := (Kd.N_reads' HO_7.out).1; omega))
       obtain ⟨ua577_0, uc577_0, rfl, ul577_0, ge577_0⟩ := Kd.FK_slice_open hMe577
       have hv577_0 := hcc577 0 _ rfl
       rw [Nat.add_zero, show ((Kd.slice 3 (Kd.int .i64))).sz = 1 from rfl, Nat.mul_one] at hv577_0
       replace hv577_0 := Option.some.inj (hv577_0.symm.trans hx577_0)
       injection hv577_0 with hva_ hvn_ hvc_
       rw [hva_] at ge577_0
       rw [hvc_] at ul577_0
       have HL577_0 := xA (show Kd.V (Kd.int .i64) 3 _ w.heap.size _ _ (rd_L5 t558 (ji42)) from Kd.V_mk ul577_0 ge577_0)
       clear hva_ hvn_ hvc_ ge577_0 ul577_0
       clear hcc577 hce577
       have HR577_0 := xA hi577_0
       have HC577_0 := xA hl577_0
       clear hi577_0 hl577_0
       replace p577 := eq_true p577
       replace q577 := eq_true q577
       have p578 : 0 ≤ (0 : Int) := (by omega)
       have q578 : 0 < ((rd_L5 t558 (ji42)).length : Int) := of_decide_eq_true (by first | (with_reducible assumption) | assumption | (rw [← hji42]; first | (with_reducible assumption) | assumption))
       obtain ⟨ad578, e578, hx578_0⟩ := Kd.at_int (by repeat (first | (with_reducible exact HR577_0.out) | (with_reducible refine Kd.C_alloc ?_ _) | (with_reducible refine Kd.C_drewN ?_ _) | (with_reducible refine Kd.C_drew ?_) | exact HR577_0.out)) 0 p578 q578
       cases e578
       have qi578 : (0 < (rd_L5 t558 (ji42)).length) = True := eq_true (by omega)
       (try rw [show ((0 : Int)).toNat = 0 from rfl] at hx578_0)
       (try rw [Addr.add_zero'] at hx578_0)
       replace p578 := eq_true p578
       replace q578 := eq_true q578
       have p579 : 0 ≤ (0 : Int) := (by omega)
       have q579 : 0 < ((rd_L5 t558 x134_2).length : Int) := of_decide_eq_true (by first | (with_reducible assumption) | assumption)
       obtain ⟨ad579, e579, hx579_0⟩ := Kd.at_int (by repeat (first | (with_reducible exact HR576_0.out) | (with_reducible refine Kd.C_alloc ?_ _) | (with_reducible refine Kd.C_drewN ?_ _) | (with_reducible refine Kd.C_drew ?_) | exact HR576_0.out)) 0 p579 q579
       cases e579
       have qi579 : (0 < (rd_L5 t558 x134_2).length) = True := eq_true (by omega)
       (try rw [show ((0 : Int)).toNat = 0 from rfl] at hx579_0)
       (try rw [Addr.add_zero'] at hx579_0)
       replace p579 := eq_true p579
       replace q579 := eq_true q579
       refine start_ (n := 20) (S := fun w' => w'.cell? (ad576.add ((ji42)).toNat) = some (.slice (some ad578) (rd_L5 t558 (ji42)).length c577_0) ∧ w'.cell? ad578 = some (.int .i64 (rd (rd_L5 t558 (ji42)) 0)) ∧ w'.cell? ad579 = some (.int .i64 (rd (rd_L5 t558 x134_2) 0))) (ds := []) x14a0 (by kernel_rfl) rfl rfl ⟨hx577_0, hx578_0, hx579_0⟩ (fun hHeld => ?_); refine with_tabW laws_FnFirstCycles.tab17 laws_FnFirstCycles.bits17 (fun HT_ HW_ => ?_)
       generalize wr.drew = w47 at HO_7 HO_11 HO_132 HL576_0 BK557 HR576_0 HB HL577_0 HR577_0 hx577_0 hx578_0 hx579_0 hHeld ⊢
       refine xP 0 139 x14a1 ?_
       refine xP 1 140 x14a2 ?_
       refine xP 2 141 x14a3 ?_
       refine xP 3 142 x14a4 ?_
       refine xP 4 143 x14a5 ?_
       refine xP 5 144 x14a6 ?_
       refine xP 6 145 x14a7 ?_
       refine xP 7 146 x14a8 ?_
       refine xP 8 147 x14a9 ?_
       refine xP 9 148 x14a10 ?_
       refine xP 10 149 x14a11 ?_
       refine xP 14 153 x14a21 ?_
       refine xP 15 154 x14a22 ?_
       refine xT3 hHeld 11 150 x14a23 ?_
       refine xP 12 151 x14a24 ?_
       refine xT3 hHeld 13 152 x14a16 ?_
       refine xT3 hHeld 16 155 x14a17 ?_
       refine xP 17 156 x14a18 ?_
       refine xP 18 157 x14a19 ?_
       refine xP 19 158 x14a20 ?_
       refine xDn ?_
       try go_wp2
       go_meet
       case rel => exact ⟨_, (decide ((rd (rd_L5 t558 (ji42)) 0) ≥ (rd (rd_L5 t558 x134_2) 0))), (by first | rfl | (simp; done) | (simp only [← hji42] <;> (first | rfl | simp)) | (simp [*]; done)), H', ⟨by have := HJ9.out; have := HK2.out; first | omega | exact Nat.le_refl _⟩, ⟨by (with_reducible repeat (first | apply Kd.N_alloc | apply Kd.N_drewN | apply Kd.N_drew)); exact HO_7.out⟩, ⟨xR HO_11.out⟩, ⟨by (with_reducible repeat (first | apply Kd.N_alloc | apply Kd.N_drewN | apply Kd.N_drew)); exact HO_132.out⟩, ⟨xK BK557.out⟩, ⟨by repeat (first | (with_reducible exact HR576_0.out) | (with_reducible refine Kd.C_alloc ?_ _) | (with_reducible refine Kd.C_drewN ?_ _) | (with_reducible refine Kd.C_drew ?_) | exact HR576_0.out)⟩, ⟨xB1 GE557.out HB.out⟩⟩
      case rest =>
       clear HC39
       try clear c36b0
       try clear c37b0
       try clear c38b0
       try clear hx576_0
       try clear p576
       try clear q576
       obtain ⟨kq, x158_38, rfl, HA, HJ38, HO_7, HO_11, HO_132, BK557, HR576_0, HB⟩ := hcut
       cases kq with
       | zero => exact absurd HA.out (by simp [laws_FnFirstCycles.j2])
       | succ kj38 =>
        have H := HA.out
        clear HA
        simp only [laws_FnFirstCycles.j2] at H
        by_cases c49 : x158_38 = true
        ·as_aux_lemma =>
          subst c49
          rw [if_pos rfl] at H
          exact absurd ((Option.some.inj H).trans HRT.out) (by decide)
        replace c49 := Bool.eq_false_iff.mpr c49
        subst c49
        rw [if_neg (show ¬ (false = true) by decide)] at H
        have H' := xA H
        clear H
        go_wp2
        (try any_goals exact (xUn (by assumption)).elim)
        go_loopg [161] kj38 (fun kq v161 w' => ∃ (x161_4 : Int), v161 = .int .i64 x161_4 ∧ Aside0 (laws_FnFirstCycles.l1 kq l1 t556 t558 t566 x15_2 (rd_L5 t558 x134_2) t558 (t558.length : Int) x134_2 (rd_L5 t558 x134_2) ((rd_L5 t558 x134_2).length : Int) x161_4 t551 t552 t553 t554 t555 = some r) ∧ Aside0 (kq ≤ kj38) ∧ Aside0 (Kd.N (Kd.slice 3 (Kd.int .i64)) 24 w' w.heap.size (fun k_ => some k_ ≠ (v567 : Value).ownBlock ∧ k_ ≠ gb557) (.slice (some ad576) t558.length co35) t558) ∧ Aside0 (Kd.R (Kd.int .i64) 3 w' w.heap.size (fun _ => True) v567 t566) ∧ Aside0 (Kd.N (Kd.slice 3 (Kd.int .i64)) 24 w' w.heap.size (fun k_ => some k_ ≠ (v567 : Value).ownBlock ∧ k_ ≠ gb557) (.slice (some ad576) t558.length co35) t558) ∧ Aside0 (w'.heap[gb557]? = some (.cells #[.int .i64 t551, .int .i64 t552, .int .i64 t553, .int .i64 t554, .bool t555] 62 (0, 0))) ∧ Aside0 (Kd.C (Kd.int .i64) w' A576_0 (rd_L5 t558 x134_2).length (rd_L5 t558 x134_2)) ∧ Aside0 (Below w.heap.size w w'))
        case atStart => exact ⟨(0), xs, H', ⟨Nat.le_refl _⟩, ⟨by (with_reducible repeat (first | apply Kd.N_alloc | apply Kd.N_drewN | apply Kd.N_drew)); exact HO_7.out⟩, ⟨xR HO_11.out⟩, ⟨by (with_reducible repeat (first | apply Kd.N_alloc | apply Kd.N_drewN | apply Kd.N_drew)); exact HO_132.out⟩, ⟨xK BK557.out⟩, ⟨by repeat (first | (with_reducible exact HR576_0.out) | (with_reducible refine Kd.C_alloc ?_ _) | (with_reducible refine Kd.C_drewN ?_ _) | (with_reducible refine Kd.C_drew ?_) | exact HR576_0.out)⟩, ⟨xB1 GE557.out HB.out⟩⟩
        case round =>
         clear H'
         try clear c49
         obtain ⟨x161_4, rfl, HA, HK4, HO_7, HO_11, HO_132, BK557, HR576_0, HB⟩ := hrel
         cases gk with
         | zero => exact absurd HA.out (by simp [laws_FnFirstCycles.l1])
         | succ k4 =>
          have H := HA.out
          clear HA
          simp only [laws_FnFirstCycles.l1] at H
          by_cases c50 : x161_4 < ((rd_L5 t558 x134_2).length : Int)
          ·rw [if_pos c50] at H
           have c50b0 : decide (x161_4 < ((rd_L5 t558 x134_2).length : Int)) = true := decide_eq_true c50
           clear c50
           by_cases c51 : 0 ≤ x161_4
           rotate_left
           ·rw [if_neg c51] at H
            exact absurd H (by simp)
           rw [if_pos c51] at H
           have c51b0 : decide (0 ≤ x161_4) = true := decide_eq_true c51
           clear c51
           by_cases c52 : x161_4 < ((rd_L5 t558 x134_2).length : Int)
           rotate_left
           ·rw [if_neg c52] at H
            exact absurd H (by simp)
           rw [if_pos c52] at H
           have c52b0 : decide (x161_4 < ((rd_L5 t558 x134_2).length : Int)) = true := decide_eq_true c52
           clear c52
           replace H := Option.bind_eq_some_iff.mp H
           obtain ⟨⟨t581, t582⟩, A530, H⟩ := H
           (try dsimp only at H)
           have A53 := xA A530
           clear A530
           by_cases c54 : t582 = true
           rotate_left
           ·as_aux_lemma =>
             replace c54 := Bool.eq_false_iff.mpr c54
             subst c54
             rw [if_neg (show ¬ (false = true) by decide)] at H
             exact absurd ((Option.some.inj H).trans HRT.out) (by decide)
           subst c54
           rw [if_pos rfl] at H
           by_cases c55 : ((rd_L5 t558 x134_2).length : Int) = 0
           ·rw [if_pos c55] at H
            exact absurd H (by simp)
           rw [if_neg c55] at H
           have c55b0 : (((rd_L5 t558 x134_2).length : Int) == 0) = false := beq_eq_false_iff_ne.mpr c55
           have c55b1 : (((rd_L5 t558 x134_2).length : Int) != 0) = true := bne_iff_ne.mpr c55
           have c55b2 : ¬ ((rd_L5 t558 x134_2) = []) := fun h_ => c55 (by rw [h_]; rfl)
           obtain ⟨ji56, hji56⟩ : ∃ j_ : Int, (Int.tmod (wrap64 (x161_4 + 1)) ((rd_L5 t558 x134_2).length : Int)) = j_ := ⟨_, rfl⟩
           (first | rw [hji56] at H | simp only [hji56] at H)
           (try rw [hji56] at A53)
           by_cases c57 : 0 ≤ (ji56)
           rotate_left
           ·rw [if_neg c57] at H
            exact absurd H (by simp)
           as_aux_lemma =>
            rw [if_pos c57] at H
            have c57b0 : decide (0 ≤ (ji56)) = true := decide_eq_true c57
            clear c57
            by_cases c58 : (ji56) < ((rd_L5 t558 x134_2).length : Int)
            rotate_left
            ·rw [if_neg c58] at H
             exact absurd H (by simp)
            rw [if_pos c58] at H
            have c58b0 : decide ((ji56) < ((rd_L5 t558 x134_2).length : Int)) = true := decide_eq_true c58
            clear c58
            by_cases c59 : t581 = (rd (rd_L5 t558 x134_2) (ji56))
            rotate_left
            ·rw [if_neg c59] at H
             have c59b0 : (t581 == (rd (rd_L5 t558 x134_2) (ji56))) = false := beq_eq_false_iff_ne.mpr c59
             have c59b1 : (t581 != (rd (rd_L5 t558 x134_2) (ji56))) = true := bne_iff_ne.mpr c59
             exact absurd ((Option.some.inj H).trans HRT.out) (by decide)
            rw [if_pos c59] at H
            have c59b0 : (t581 == (rd (rd_L5 t558 x134_2) (ji56))) = true := beq_iff_eq.mpr c59
            have c59b1 : (t581 != (rd (rd_L5 t558 x134_2) (ji56))) = false := bne_eq_false_iff_eq.mpr c59
            clear c59
            by_cases c60 : 0 < ((rd_L5 t558 x134_2).length : Int)
            rotate_left
            ·rw [if_neg c60] at H
             exact absurd H (by simp)
            rw [if_pos c60] at H
            have c60b0 : decide (0 < ((rd_L5 t558 x134_2).length : Int)) = true := decide_eq_true c60
            have c60b1 : decide (0 < (rd_L5 t558 x134_2).length) = true := decide_eq_true (by omega)
            clear c60
            by_cases c61 : (rd (rd_L5 t558 x134_2) x161_4) < (rd (rd_L5 t558 x134_2) 0)
            ·rw [if_pos c61] at H
             have c61b0 : decide ((rd (rd_L5 t558 x134_2) x161_4) < (rd (rd_L5 t558 x134_2) 0)) = true := decide_eq_true c61
             clear c61
             exact absurd ((Option.some.inj H).trans HRT.out) (by decide)
            rw [if_neg c61] at H
            have c61b0 : decide ((rd (rd_L5 t558 x134_2) x161_4) < (rd (rd_L5 t558 x134_2) 0)) = false := decide_eq_false c61
            clear c61
            have H' := xA H
            clear H
            have p580 : 0 ≤ (x161_4 : Int) := of_decide_eq_true (by first | (with_reducible assumption) | assumption)
            have q580 : x161_4 < ((rd_L5 t558 x134_2).length : Int) := of_decide_eq_true (by first | (with_reducible assumption) | assumption)
            obtain ⟨ad580, e580, hx580_0⟩ := Kd.at_int HR576_0.out x161_4 p580 q580
            cases e580
            (try replace hx580_0 := (HB.out.cell (World.block_lt_of_cell? w _ hx580_0)).trans hx580_0)
            replace p580 := eq_true p580
            replace q580 := eq_true q580
            replace hz557 := blk_cell BK557.out; replace hy557 := blk_frozen BK557.out
            go_wp2_with (first | (refine xG (some 170) Try.func99 #[.agg #[.int .i64 t551, .int .i64 t552, .int .i64 t553, .int .i64 t554, .bool t555], .int .i64 (rd (rd_L5 t558 x134_2) x161_4), .int .i64 t556] ?_; (with_reducible refine (impl_FirstStep.calls k4 t551 t552 t553 t554 t555 (rd (rd_L5 t558 x134_2) x161_4) t556 t581 true _ A53.out).mono ?_); rintro e w63 ⟨rfl, hb⟩; refine ⟨_, rfl, ?_⟩; replace HO_7 := xA (Kd.N_below (by (with_reducible repeat (first | apply Kd.N_alloc | apply Kd.N_drewN | apply Kd.N_drew)); exact HO_7.out) hb); replace HO_11 := xA (Kd.R_below (xR HO_11.out) hb); replace HO_132 := xA (Kd.N_below (by (with_reducible repeat (first | apply Kd.N_alloc | apply Kd.N_drewN | apply Kd.N_drew)); exact HO_132.out) hb); replace BK557 := xkb BK557 hb; replace HR576_0 := xA (Kd.C_below (by repeat (first | (with_reducible exact HR576_0.out) | (with_reducible refine Kd.C_alloc ?_ _) | (with_reducible refine Kd.C_drewN ?_ _) | (with_reducible refine Kd.C_drew ?_) | exact HR576_0.out)) hb); replace HB := xA (below_step (xB1 GE557.out HB.out) hb); (try clear hb); have p583 : 0 ≤ ((ji56) : Int) := of_decide_eq_true (by first | (with_reducible assumption) | assumption); have q583 : (ji56) < ((rd_L5 t558 x134_2).length : Int) := of_decide_eq_true (by first | (with_reducible assumption) | assumption); obtain ⟨ad583, e583, hx583_0⟩ := Kd.at_int HR576_0.out (ji56) p583 q583; obtain rfl : ad580 = ad583 := (by injection e583); (try replace hx583_0 := (HB.out.cell (World.block_lt_of_cell? w _ hx583_0)).trans hx583_0); replace p583 := eq_true p583; replace q583 := eq_true q583; have p584 : 0 ≤ (0 : Int) := (by omega); have q584 : 0 < ((rd_L5 t558 x134_2).length : Int) := of_decide_eq_true (by first | (with_reducible assumption) | assumption); obtain ⟨ad584, e584, hx584_0⟩ := Kd.at_int HR576_0.out 0 p584 q584; obtain rfl : ad580 = ad584 := (by injection e584); have qi584 : (0 < (rd_L5 t558 x134_2).length) = True := eq_true (by omega); (try rw [show ((0 : Int)).toNat = 0 from rfl] at hx584_0); (try rw [Addr.add_zero'] at hx584_0); (try replace hx584_0 := (HB.out.cell (World.block_lt_of_cell? w _ hx584_0)).trans hx584_0); replace p584 := eq_true p584; replace q584 := eq_true q584))
            (try any_goals exact (xUn (by assumption)).elim)
            go_roundg k4
            case measure => have := HJ9.out; have := HK2.out; have := HJ38.out; have := HK4.out; omega
            case rel => exact ⟨(wrap64 (x161_4 + 1)), xs, H', ⟨by have := HJ9.out; have := HK2.out; have := HJ38.out; have := HK4.out; omega⟩, ⟨by (with_reducible repeat (first | apply Kd.N_alloc | apply Kd.N_drewN | apply Kd.N_drew)); exact HO_7.out⟩, ⟨xR HO_11.out⟩, ⟨by (with_reducible repeat (first | apply Kd.N_alloc | apply Kd.N_drewN | apply Kd.N_drew)); exact HO_132.out⟩, ⟨xK BK557.out⟩, ⟨by repeat (first | (with_reducible exact HR576_0.out) | (with_reducible refine Kd.C_alloc ?_ _) | (with_reducible refine Kd.C_drewN ?_ _) | (with_reducible refine Kd.C_drew ?_) | exact HR576_0.out)⟩, ⟨xB1 GE557.out HB.out⟩⟩
          rw [if_neg c50] at H
          have c50b0 : decide (x161_4 < ((rd_L5 t558 x134_2).length : Int)) = false := decide_eq_false c50
          clear c50
          by_cases c64 : 0 < ((rd_L5 t558 x134_2).length : Int)
          rotate_left
          ·rw [if_neg c64] at H
           exact absurd H (by simp)
          rw [if_pos c64] at H
          have c64b0 : decide (0 < ((rd_L5 t558 x134_2).length : Int)) = true := decide_eq_true c64
          have c64b1 : decide (0 < (rd_L5 t558 x134_2).length) = true := decide_eq_true (by omega)
          clear c64
          replace H := Option.bind_eq_some_iff.mp H
          obtain ⟨⟨t586, t587, t588⟩, A650, H⟩ := H
          (try dsimp only at H)
          have A65 := xA A650
          clear A650
          have HC66 := xA H
          clear H
          try go_wp2
          replace HO_7 := xA (Kd.N_drew HO_7.out)
          replace HO_11 := xA (Kd.R_drew HO_11.out)
          replace HO_132 := xA (Kd.N_drew HO_132.out)
          replace BK557 := xA (blk_drew BK557.out)
          replace HR576_0 := xA (Kd.C_drew HR576_0.out)
          replace HB := xA (below_drew1 HB.out)
          have p585 : 0 ≤ (0 : Int) := (by omega)
          have q585 : 0 < ((rd_L5 t558 x134_2).length : Int) := of_decide_eq_true (by first | (with_reducible assumption) | assumption)
          obtain ⟨ad585, e585, hx585_0⟩ := Kd.at_int HR576_0.out 0 p585 q585
          have hw585_0 := hx585_0
          (try rw [show ((0 : Int)).toNat = 0 from rfl] at hw585_0)
          (try rw [show 0 * 1 = 0 from rfl] at hw585_0)
          (try rw [Addr.add_zero'] at hw585_0)
          cases e585
          have qi585 : (0 < (rd_L5 t558 x134_2).length) = True := eq_true (by omega)
          (try rw [show ((0 : Int)).toNat = 0 from rfl] at hx585_0)
          (try rw [Addr.add_zero'] at hx585_0)
          (try replace hx585_0 := (HB.out.cell (World.block_lt_of_cell? w _ hx585_0)).trans hx585_0)
          replace p585 := eq_true p585
          replace q585 := eq_true q585
          refine start_ (n := 13) (S := fun w' => w'.cell? ⟨gb557, 0, none⟩ = some (.int .i64 t551) ∧ w'.cell? ⟨gb557, 1, none⟩ = some (.int .i64 t552) ∧ w'.cell? ⟨gb557, 2, none⟩ = some (.int .i64 t553) ∧ w'.cell? ⟨gb557, 3, none⟩ = some (.int .i64 t554) ∧ w'.cell? ⟨gb557, 4, none⟩ = some (.bool t555) ∧ w'.cell? ad585 = some (.int .i64 (rd (rd_L5 t558 x134_2) 0))) (ds := []) x14a25 (by kernel_rfl) rfl rfl ⟨(blk_cell BK557.out 0).trans rfl, (blk_cell BK557.out 1).trans rfl, (blk_cell BK557.out 2).trans rfl, (blk_cell BK557.out 3).trans rfl, (blk_cell BK557.out 4).trans rfl, hx585_0⟩ (fun hHeld => ?_); refine with_tabW laws_FnFirstCycles.tab26 laws_FnFirstCycles.bits26 (fun HT_ HW_ => ?_)
          generalize wr.drew = w67 at HO_7 HO_11 HO_132 BK557 HR576_0 HB hx585_0 hHeld ⊢
          refine xP 1 197 x14a26 ?_
          refine xP 2 198 x14a27 ?_
          refine xP 4 200 x14a28 ?_
          refine xT6 hHeld 0 196 x14a29 ?_
          refine xT6 hHeld 3 199 x14a30 ?_
          refine xU 5 201 x14a31 (fun K hK => ?_)
          refine xY Try.func111 #[.agg #[.int .i64 t551, .int .i64 t552, .int .i64 t553, .int .i64 t554, .bool t555], .int .i64 (rd (rd_L5 t558 x134_2) 0), .int .i64 t556] ?_
          with_reducible refine (impl_FirstPeriod.calls k4 t551 t552 t553 t554 t555 (rd (rd_L5 t558 x134_2) 0) t556 t586 t587 t588 _ A65.out).mono ?_
          rintro e w68 ⟨rfl, hb⟩
          refine ⟨_, rfl, ?_⟩
          replace HO_7 := xA (Kd.N_below (by (with_reducible repeat (first | apply Kd.N_alloc | apply Kd.N_drewN | apply Kd.N_drew)); exact HO_7.out) hb)
          replace HO_11 := xA (Kd.R_below (xR HO_11.out) hb)
          replace HO_132 := xA (Kd.N_below (by (with_reducible repeat (first | apply Kd.N_alloc | apply Kd.N_drewN | apply Kd.N_drew)); exact HO_132.out) hb)
          replace BK557 := xkb BK557 hb
          replace HR576_0 := xA (Kd.C_below (by repeat (first | (with_reducible exact HR576_0.out) | (with_reducible refine Kd.C_alloc ?_ _) | (with_reducible refine Kd.C_drewN ?_ _) | (with_reducible refine Kd.C_drew ?_) | exact HR576_0.out)) hb)
          replace HB := xA (below_step (xB1 GE557.out HB.out) hb)
          replace hx585_0 := (hb.cell (World.block_lt_of_cell? _ _ hx585_0)).trans hx585_0
          (try clear hb); (try clear hb2); (try clear hk); (try clear hi)
          refine hK.out _ _ ⟨(blk_cell BK557.out 0).trans rfl, (blk_cell BK557.out 1).trans rfl, (blk_cell BK557.out 2).trans rfl, (blk_cell BK557.out 3).trans rfl, (blk_cell BK557.out 4).trans rfl, hx585_0⟩ (fun hHeld => ?_)
          clear hK K
          refine xN ?_
          refine xP 6 195 x14a32 ?_
          refine xP 7 202 x14a33 ?_
          refine xP 8 203 x14a34 ?_
          refine xP 9 204 x14a35 ?_
          refine xP 10 22 x14a36 ?_
          refine xP 11 23 x14a37 ?_
          refine xP 12 24 x14a38 ?_
          refine xDn ?_
          go_upto_region 27 with (fail)
          go_cut [216] from 139 to 204 (fun v216 wc => ∃ (kq : Nat) (x216_65 : Bool), v216 = .bool x216_65 ∧ Aside0 (laws_FnFirstCycles.j4 kq l1 t556 t558 t566 x15_2 (rd_L5 t558 x134_2) t558 (t558.length : Int) x134_2 x216_65 t551 t552 t553 t554 t555 = some r) ∧ Aside0 (kq ≤ k4) ∧ Aside0 (Kd.N (Kd.slice 3 (Kd.int .i64)) 24 wc w.heap.size (fun k_ => some k_ ≠ (v567 : Value).ownBlock ∧ k_ ≠ gb557) (.slice (some ad576) t558.length co35) t558) ∧ Aside0 (Kd.R (Kd.int .i64) 3 wc w.heap.size (fun _ => True) v567 t566) ∧ Aside0 (Kd.N (Kd.slice 3 (Kd.int .i64)) 24 wc w.heap.size (fun k_ => some k_ ≠ (v567 : Value).ownBlock ∧ k_ ≠ gb557) (.slice (some ad576) t558.length co35) t558) ∧ Aside0 (wc.heap[gb557]? = some (.cells #[.int .i64 t551, .int .i64 t552, .int .i64 t553, .int .i64 t554, .bool t555] 62 (0, 0))) ∧ Aside0 (Kd.C (Kd.int .i64) wc (some ad585) (rd_L5 t558 x134_2).length (rd_L5 t558 x134_2)) ∧ Aside0 (Below w.heap.size w wc))
          case first => as_aux_lemma =>
           have H := HC66.out
           clear HC66
           by_cases c69 : t588 = true
           rotate_left
           ·replace c69 := Bool.eq_false_iff.mpr c69; subst c69; exact absurd H (by have hr_ := HRT.out; cases k4 <;> simp [laws_FnFirstCycles.j4, hr_])
           as_aux_lemma =>
            subst c69
            rw [if_pos rfl] at H
            by_cases c70 : t586 = 0
            rotate_left
            ·rw [if_neg c70] at H; exact absurd H (by have hr_ := HRT.out; cases k4 <;> simp [laws_FnFirstCycles.j4, hr_])
            rw [if_pos c70] at H
            have c70b0 : (t586 == 0) = true := beq_iff_eq.mpr c70
            have c70b1 : (t586 != 0) = false := bne_eq_false_iff_eq.mpr c70
            clear c70
            (first | rw [c70b0] | (simp only [i64_w, i32_w]; rw [c70b0]) | skip)
            have H' := xA H
            clear H
            go_wp2
            (try any_goals exact (xUn (by assumption)).elim)
            go_meet
            case rel => exact ⟨_, ((t587 != ((rd_L5 t558 x134_2).length : Int))), xs, H', ⟨by have := HJ9.out; have := HK2.out; have := HJ38.out; have := HK4.out; first | omega | exact Nat.le_refl _⟩, ⟨by (with_reducible repeat (first | apply Kd.N_alloc | apply Kd.N_drewN | apply Kd.N_drew)); exact HO_7.out⟩, ⟨xR HO_11.out⟩, ⟨by (with_reducible repeat (first | apply Kd.N_alloc | apply Kd.N_drewN | apply Kd.N_drew)); exact HO_132.out⟩, ⟨xK BK557.out⟩, ⟨by repeat (first | (with_reducible exact HR576_0.out) | (with_reducible refine Kd.C_alloc ?_ _) | (with_reducible refine Kd.C_drewN ?_ _) | (with_reducible refine Kd.C_drew ?_) | exact HR576_0.out)⟩, ⟨xB1 GE557.out HB.out⟩⟩
          case rest =>
           clear HC66
           try clear c50b0
           try clear c64b0
           try clear c64b1
           try clear hx585_0
           try clear p585
           try clear q585
           obtain ⟨kq, x216_65, rfl, HA, HJ65, HO_7, HO_11, HO_132, BK557, HR576_0, HB⟩ := hcut
           cases kq with
           | zero => exact absurd HA.out (by simp [laws_FnFirstCycles.j4])
           | succ kj65 =>
            have H := HA.out
            clear HA
            simp only [laws_FnFirstCycles.j4] at H
            by_cases c71 : x216_65 = true
            ·as_aux_lemma =>
              subst c71
              rw [if_pos rfl] at H
              exact absurd ((Option.some.inj H).trans HRT.out) (by decide)
            replace c71 := Bool.eq_false_iff.mpr c71
            subst c71
            rw [if_neg (show ¬ (false = true) by decide)] at H
            by_cases c72 : ((rd_L5 t558 x134_2).length : Int) = 1
            rotate_left
            ·as_aux_lemma =>
              rw [if_neg c72] at H
              have c72b0 : (((rd_L5 t558 x134_2).length : Int) == 1) = false := beq_eq_false_iff_ne.mpr c72
              have c72b1 : (((rd_L5 t558 x134_2).length : Int) != 1) = true := bne_iff_ne.mpr c72
              have H' := xA H
              clear H
              go_wp2
              (try any_goals exact (xUn (by assumption)).elim)
              go_roundg kj65
              case measure => have := HJ9.out; have := HK2.out; have := HJ38.out; have := HK4.out; have := HJ65.out; omega
              case rel => exact ⟨(x15_2), (wrap64 (x134_2 + 1)), xs, xs, H', ⟨by have := HJ9.out; have := HK2.out; have := HJ38.out; have := HK4.out; have := HJ65.out; omega⟩, ⟨by (with_reducible repeat (first | apply Kd.N_alloc | apply Kd.N_drewN | apply Kd.N_drew)); exact HO_7.out⟩, ⟨xR HO_11.out⟩, ⟨by (with_reducible repeat (first | apply Kd.N_alloc | apply Kd.N_drewN | apply Kd.N_drew)); exact HO_132.out⟩, ⟨xK BK557.out⟩, ⟨xB1 GE557.out HB.out⟩⟩
            as_aux_lemma =>
             rw [if_pos c72] at H
             have c72b0 : (((rd_L5 t558 x134_2).length : Int) == 1) = true := beq_iff_eq.mpr c72
             have c72b1 : (((rd_L5 t558 x134_2).length : Int) != 1) = false := bne_eq_false_iff_eq.mpr c72
             clear c72
             by_cases c73 : 0 < ((rd_L5 t558 x134_2).length : Int)
             rotate_left
             ·rw [if_neg c73] at H
              exact absurd H (by simp)
             rw [if_pos c73] at H
             have c73b0 : decide (0 < ((rd_L5 t558 x134_2).length : Int)) = true := decide_eq_true c73
             have c73b1 : decide (0 < (rd_L5 t558 x134_2).length) = true := decide_eq_true (by omega)
             clear c73
             obtain ⟨t590, A74, H⟩ := xO H
             (try dsimp only at H)
             by_cases c75 : t590 = true
             rotate_left
             ·replace c75 := Bool.eq_false_iff.mpr c75
              subst c75
              rw [if_neg (show ¬ (false = true) by decide)] at H
              exact absurd ((Option.some.inj H).trans HRT.out) (by decide)
             subst c75
             rw [if_pos rfl] at H
             have H' := xA H
             clear H
             have p589 : 0 ≤ (0 : Int) := (by omega)
             have q589 : 0 < ((rd_L5 t558 x134_2).length : Int) := of_decide_eq_true (by first | (with_reducible assumption) | assumption)
             obtain ⟨ad589, e589, hx589_0⟩ := Kd.at_int HR576_0.out 0 p589 q589
             obtain rfl : ad585 = ad589 := (by injection e589)
             have qi589 : (0 < (rd_L5 t558 x134_2).length) = True := eq_true (by omega)
             (try rw [show ((0 : Int)).toNat = 0 from rfl] at hx589_0)
             (try rw [Addr.add_zero'] at hx589_0)
             (try replace hx589_0 := (HB.out.cell (World.block_lt_of_cell? w _ hx589_0)).trans hx589_0)
             replace p589 := eq_true p589
             replace q589 := eq_true q589
             obtain ⟨Ao76, co76, eo76⟩ := Kd.R_slice HO_11.out
             subst eo76
             go_wp2_with (first | (refine xG (some 226) Try.func112 #[.slice Ao76 t566.length co76, .int .i64 (rd (rd_L5 t558 x134_2) 0)] ?_; (with_reducible refine (laws_uHas.calls kj65 _ _ t566 (rd (rd_L5 t558 x134_2) 0) true _ ?side1 ?side2 A74.out).mono ?_); (case side1 => exact xC ((Kd.R_reads' HO_11.out).2.2)); (case side2 => exact (Kd.R_reads' HO_11.out).2.1); rintro e w' ⟨rfl, ⟨nd, rfl⟩⟩; refine ⟨_, rfl, ?_⟩))
             (try any_goals exact (xUn (by assumption)).elim)
             go_roundg kj65
             case measure => have := HJ9.out; have := HK2.out; have := HJ38.out; have := HK4.out; have := HJ65.out; omega
             case rel => exact ⟨(wrap64 (x15_2 + 1)), (wrap64 (x134_2 + 1)), xs, xs, H', ⟨by have := HJ9.out; have := HK2.out; have := HJ38.out; have := HK4.out; have := HJ65.out; omega⟩, ⟨by (with_reducible repeat (first | apply Kd.N_alloc | apply Kd.N_drewN | apply Kd.N_drew)); exact HO_7.out⟩, ⟨xR HO_11.out⟩, ⟨by (with_reducible repeat (first | apply Kd.N_alloc | apply Kd.N_drewN | apply Kd.N_drew)); exact HO_132.out⟩, ⟨xK BK557.out⟩, ⟨xB1 GE557.out HB.out⟩⟩
   case rest =>
    clear HC32
    try clear c31
    obtain ⟨kq, HA, HJ31, BK557, HB⟩ := hcut
    cases kq with
    | zero => exact absurd HA.out (by simp [laws_FnFirstCycles.j5])
    | succ kj31 =>
     have H := HA.out
     clear HA
     simp only [laws_FnFirstCycles.j5] at H
     replace H := Option.bind_eq_some_iff.mp H
     obtain ⟨⟨t591, t592, t593, t594, t595, t596, t597⟩, A790, H⟩ := H
     (try dsimp only at H)
     have A79 := xA A790
     clear A790
     replace H := Option.bind_eq_some_iff.mp H
     obtain ⟨⟨t599, t600, t601⟩, A800, H⟩ := H
     (try dsimp only at H)
     have A80 := xA A800
     clear A800
     replace H := Option.bind_eq_some_iff.mp H
     obtain ⟨⟨t602, t603, t604⟩, A810, H⟩ := H
     (try dsimp only at H)
     have A81 := xA A810
     clear A810
     have HC82 := xA H
     clear H
     go_upto_region 39 with (first | (refine xq rfl ?_; first | (refine xG (some 235) Try.func113 #[.slice A1 l1.length c1] ?_; (with_reducible refine (spec_DrawFirstPeriod.calls kj31 _ _ l1 t591 t592 t593 t594 t595 t596 t597 _ ?side1 ?side2 A79.out).mono ?_); (case side1 => exact xC (Kd.C_below HR1.out HB.out)); (case side2 => exact HC1.out); rintro e w83 ⟨rfl, hb⟩; refine ⟨_, rfl, ?_⟩; replace BK557 := xkb BK557 hb; replace HB := xA (below_step (xB1 GE557.out HB.out) hb); (try clear hb)) | (refine xG (some 243) Try.func111 #[.agg #[.int .i64 t591, .int .i64 t592, .int .i64 t593, .int .i64 t594, .bool t595], .int .i64 t596, .int .i64 t597] ?_; (with_reducible refine (impl_FirstPeriod.calls kj31 t591 t592 t593 t594 t595 t596 t597 t599 t600 t601 _ A80.out).mono ?_); rintro e w87 ⟨rfl, hb⟩; refine ⟨_, rfl, ?_⟩; replace BK557 := xA (blk_below (xF1 NB557_598.out BK557.out) hb); replace BK598 := xA (blk_below (g := gb598) (o := .cells #[.int .i64 t591, .int .i64 t592, .int .i64 t593, .int .i64 t594, .bool t595] 62 (0, 0)) (xPt0 BK598.out) hb); replace HB := xA (below_step (xB2 GE557.out GE598.out HB.out) hb); (try clear hb); obtain ⟨hcz88_0, hcz88_1, hcz88_2, hcz88_3, hcz88_4, hfz88_0, hfz88_1, hfz88_2, hfz88_3, hfz88_4⟩ := xZ5 BK598.out) | (refine xG (some 251) Try.func114 #[.agg #[.int .i64 t591, .int .i64 t592, .int .i64 t593, .int .i64 t594, .bool t595], .int .i64 t596, .int .i64 t597] ?_; (with_reducible refine (spec_FirstPeriod.calls kj31 t591 t592 t593 t594 t595 t596 t597 t602 t603 t604 _ A81.out).mono ?_); rintro e w89 ⟨rfl, hb⟩; refine ⟨_, rfl, ?_⟩; replace BK557 := xkb BK557 hb; replace BK598 := xkb BK598 hb; replace HB := xA (below_step (xB2 GE557.out GE598.out HB.out) hb); (try clear hb))) | ((with_reducible refine gate_dst (N := 25) rfl ?_); (try (refine gate_guard (by rfl) ?_; dsimp only)); refine box_event ?hg (N := 25) ?hd (cs := #[.int .i64 0, .int .i64 0, .int .i64 0, .int .i64 0, .bool false]) (t := 62) ?hr ?_; (case hd => rfl); (case hg => rfl); (case hr => first | (go_simp; done) | (go_simp; rfl)); intro gb598 hg w84 hbox hb; have BK598 := xA (hbox); have GW598 := xgw hg (below_size (xB1 GE557.out HB.out)); have GE598 := GW598; replace HB := xA (below_step (xB1 GE557.out HB.out) hb); have NB557_598 := xnl hg BK557; have NB598_557 := xng hg BK557; replace BK557 := xkb BK557 hb; clear hb hbox hg; have hnb85 := NB598_557.out; have hnc85 := NB557_598.out; obtain ⟨hcz86_0, hcz86_1, hcz86_2, hcz86_3, hcz86_4, hfz86_0, hfz86_1, hfz86_2, hfz86_3, hfz86_4⟩ := xZ5 BK598.out))
     (try simp only [Act.put, List.setIfInBounds_toArray, List.set_cons_zero, List.set_cons_succ])
     go_cut [267] from 205 to 254 (fun v267 wc => ∃ (kq : Nat) (x267_81 : Bool), v267 = .bool x267_81 ∧ Aside0 (laws_FnFirstCycles.j6 kq l1 t596 t597 t599 t600 t601 x267_81 t591 t592 t593 t594 t595 = some r) ∧ Aside0 (kq ≤ kj31) ∧ Aside0 (wc.heap[gb557]? = some (.cells #[.int .i64 t551, .int .i64 t552, .int .i64 t553, .int .i64 t554, .bool t555] 62 (0, 0))) ∧ Aside0 (wc.heap[gb598]? = some (.cells #[.int .i64 t591, .int .i64 t592, .int .i64 t593, .int .i64 t594, .bool t595] 62 (0, 0))) ∧ Aside0 (Below w.heap.size w wc))
     case first => as_aux_lemma =>
      have H := HC82.out
      clear HC82
      by_cases c90 : (t601 != t604) = true
      ·rw [if_pos c90] at H; exact absurd H (by have hr_ := HRT.out; cases kj31 <;> simp [laws_FnFirstCycles.j6, hr_])
      as_aux_lemma =>
       rw [if_neg c90] at H
       have c90b0 : (t601 != t604) = false := by simpa using c90
       (try (have c90b1 : decide (t601 = t604) = true := by simpa using c90))
       (try (have c90b2 : (t601 == t604) = true := by simpa using c90))
       clear c90
       (first | rw [c90b0] | (simp only [i64_w, i32_w]; rw [c90b0]) | skip)
       by_cases c91 : t599 = t602
       rotate_left
       ·rw [if_neg c91] at H; exact absurd H (by have hr_ := HRT.out; cases kj31 <;> simp [laws_FnFirstCycles.j6, hr_])
       rw [if_pos c91] at H
       have c91b0 : (t599 == t602) = true := beq_iff_eq.mpr c91
       have c91b1 : (t599 != t602) = false := bne_eq_false_iff_eq.mpr c91
       clear c91
       have H' := xA H
       clear H
       go_wp2
       (try any_goals exact (xUn (by assumption)).elim)
       go_meet
       case rel => exact ⟨_, ((t600 != t603)), xs, H', ⟨by have := HJ9.out; have := HJ31.out; first | omega | exact Nat.le_refl _⟩, ⟨xK BK557.out⟩, ⟨xK BK598.out⟩, ⟨xB2 GE557.out GE598.out HB.out⟩⟩
     case rest =>
      clear HC82
      try clear hcz86_0
      try clear hcz86_1
      try clear hcz86_2
      try clear hcz86_3
      try clear hcz86_4
      try clear hcz88_0
      try clear hcz88_1
      try clear hcz88_2
      try clear hcz88_3
      try clear hcz88_4
      try clear hfz86_0
      try clear hfz86_1
      try clear hfz86_2
      try clear hfz86_3
      try clear hfz86_4
      try clear hfz88_0
      try clear hfz88_1
      try clear hfz88_2
      try clear hfz88_3
      try clear hfz88_4
      obtain ⟨kq, x267_81, rfl, HA, HJ81, BK557, BK598, HB⟩ := hcut
      cases kq with
      | zero => exact absurd HA.out (by simp [laws_FnFirstCycles.j6])
      | succ kj81 =>
       have H := HA.out
       clear HA
       simp only [laws_FnFirstCycles.j6] at H
       by_cases c92 : x267_81 = true
       ·as_aux_lemma =>
         subst c92
         rw [if_pos rfl] at H
         exact absurd ((Option.some.inj H).trans HRT.out) (by decide)
       replace c92 := Bool.eq_false_iff.mpr c92
       subst c92
       rw [if_neg (show ¬ (false = true) by decide)] at H
       have HC93 := xA H
       clear H
       go_upto_if 268 with (fail)
       go_cut [] from 255 to 268 (fun wc => ∃ (kq : Nat), Aside0 (laws_FnFirstCycles.j9 kq l1 = some r) ∧ Aside0 (kq ≤ kj81) ∧ Aside0 (wc.heap[gb557]? = some (.cells #[.int .i64 t551, .int .i64 t552, .int .i64 t553, .int .i64 t554, .bool t555] 62 (0, 0))) ∧ Aside0 (wc.heap[gb598]? = some (.cells #[.int .i64 t591, .int .i64 t592, .int .i64 t593, .int .i64 t594, .bool t595] 62 (0, 0))) ∧ Aside0 (Below w.heap.size w wc))
       case first => as_aux_lemma =>
        have H := HC93.out
        clear HC93
        by_cases c94 : t601 = true
        rotate_left
        ·as_aux_lemma =>
          replace c94 := Bool.eq_false_iff.mpr c94
          subst c94
          rw [if_neg (show ¬ (false = true) by decide)] at H
          have H' := xA H
          clear H
          go_wp2
          (try any_goals exact (xUn (by assumption)).elim)
          go_meet
          case rel => exact ⟨_, H', ⟨by have := HJ9.out; have := HJ31.out; have := HJ81.out; first | omega | exact Nat.le_refl _⟩, ⟨xK BK557.out⟩, ⟨xK BK598.out⟩, ⟨xB2 GE557.out GE598.out HB.out⟩⟩
        subst c94
        rw [if_pos rfl] at H
        have H' := xA H
        clear H
        go_wp2
        (try any_goals exact (xUn (by assumption)).elim)
        go_loopg [34, 35] kj81 (fun kq v34 v35 w' => ∃ (x34_4 : Int) (x35_4 : Int), v34 = .int .i64 x34_4 ∧ v35 = .int .i64 x35_4 ∧ Aside0 (laws_FnFirstCycles.l2 kq l1 t597 t599 t600 x34_4 x35_4 t591 t592 t593 t594 t595 = some r) ∧ Aside0 (kq ≤ kj81) ∧ Aside0 (w'.heap[gb557]? = some (.cells #[.int .i64 t551, .int .i64 t552, .int .i64 t553, .int .i64 t554, .bool t555] 62 (0, 0))) ∧ Aside0 (w'.heap[gb598]? = some (.cells #[.int .i64 t591, .int .i64 t592, .int .i64 t593, .int .i64 t594, .bool t595] 62 (0, 0))) ∧ Aside0 (Below w.heap.size w w'))
        case atStart => exact ⟨(t596), (0), xs, xs, H', ⟨Nat.le_refl _⟩, ⟨xK BK557.out⟩, ⟨xK BK598.out⟩, ⟨xB2 GE557.out GE598.out HB.out⟩⟩
        case round =>
         clear H'
         try clear c92
         try clear c94
         obtain ⟨x34_4, x35_4, rfl, rfl, HA, HK4, BK557, BK598, HB⟩ := hrel
         cases gk with
         | zero => exact absurd HA.out (by simp [laws_FnFirstCycles.l2])
         | succ k4 =>
          have H := HA.out
          clear HA
          simp only [laws_FnFirstCycles.l2] at H
          by_cases c95 : x35_4 < t599
          ·as_aux_lemma =>
            rw [if_pos c95] at H
            have c95b0 : decide (x35_4 < t599) = true := decide_eq_true c95
            clear c95
            (first | rw [c95b0] | (simp only [i64_w, i32_w]; rw [c95b0]) | skip)
            replace H := Option.bind_eq_some_iff.mp H
            obtain ⟨⟨t605, t606⟩, A960, H⟩ := H
            (try dsimp only at H)
            have A96 := xA A960
            clear A960
            by_cases c97 : t606 = true
            rotate_left
            ·replace c97 := Bool.eq_false_iff.mpr c97
             subst c97
             rw [if_neg (show ¬ (false = true) by decide)] at H
             exact absurd ((Option.some.inj H).trans HRT.out) (by decide)
            subst c97
            rw [if_pos rfl] at H
            have H' := xA H
            clear H
            have hnb98 := NB598_557.out
            have hnc98 := NB557_598.out
            replace hz598 := blk_cell BK598.out; replace hy598 := blk_frozen BK598.out
            go_wp2_with (first | (refine xG (some 279) Try.func99 #[.agg #[.int .i64 t591, .int .i64 t592, .int .i64 t593, .int .i64 t594, .bool t595], .int .i64 x34_4, .int .i64 t597] ?_; (with_reducible refine (impl_FirstStep.calls k4 t591 t592 t593 t594 t595 x34_4 t597 t605 true _ A96.out).mono ?_); rintro e w100 ⟨rfl, hb⟩; refine ⟨_, rfl, ?_⟩; replace BK557 := xkb BK557 hb; replace BK598 := xkb BK598 hb; replace HB := xA (below_step (xB2 GE557.out GE598.out HB.out) hb); (try clear hb)))
            (try any_goals exact (xUn (by assumption)).elim)
            go_roundg k4
            case measure => have := HJ9.out; have := HJ31.out; have := HJ81.out; have := HK4.out; omega
            case rel => exact ⟨(t605), (wrap64 (x35_4 + 1)), xs, xs, H', ⟨by have := HJ9.out; have := HJ31.out; have := HJ81.out; have := HK4.out; omega⟩, ⟨xK BK557.out⟩, ⟨xK BK598.out⟩, ⟨xB2 GE557.out GE598.out HB.out⟩⟩
          rw [if_neg c95] at H
          have c95b0 : decide (x35_4 < t599) = false := decide_eq_false c95
          clear c95
          (first | rw [c95b0] | (simp only [i64_w, i32_w]; rw [c95b0]) | skip)
          have H' := xA H
          clear H
          go_wp2
          (try any_goals exact (xUn (by assumption)).elim)
          go_loopg [34, 39] k4 (fun kq v34 v39 w' => ∃ (x34_5 : Int) (x39_5 : Int), v34 = .int .i64 x34_5 ∧ v39 = .int .i64 x39_5 ∧ Aside0 (laws_FnFirstCycles.l3 kq l1 t597 t600 x34_5 x34_4 x39_5 t591 t592 t593 t594 t595 = some r) ∧ Aside0 (kq ≤ k4) ∧ Aside0 (w'.heap[gb557]? = some (.cells #[.int .i64 t551, .int .i64 t552, .int .i64 t553, .int .i64 t554, .bool t555] 62 (0, 0))) ∧ Aside0 (w'.heap[gb598]? = some (.cells #[.int .i64 t591, .int .i64 t592, .int .i64 t593, .int .i64 t594, .bool t595] 62 (0, 0))) ∧ Aside0 (Below w.heap.size w w'))
          case atStart => exact ⟨(x34_4), (0), xs, xs, H', ⟨Nat.le_refl _⟩, ⟨xK BK557.out⟩, ⟨xK BK598.out⟩, ⟨xB2 GE557.out GE598.out HB.out⟩⟩
          case round =>
           clear H'
           try clear c95b0
           obtain ⟨x34_5, x39_5, rfl, rfl, HA, HK5, BK557, BK598, HB⟩ := hrel
           cases gk with
           | zero => exact absurd HA.out (by simp [laws_FnFirstCycles.l3])
           | succ k5 =>
            have H := HA.out
            clear HA
            simp only [laws_FnFirstCycles.l3] at H
            by_cases c101 : x39_5 < t600
            rotate_left
            ·as_aux_lemma =>
              rw [if_neg c101] at H
              have c101b0 : decide (x39_5 < t600) = false := decide_eq_false c101
              clear c101
              by_cases c112 : x34_5 = x34_4
              rotate_left
              ·rw [if_neg c112] at H
               have c112b0 : (x34_5 == x34_4) = false := beq_eq_false_iff_ne.mpr c112
               have c112b1 : (x34_5 != x34_4) = true := bne_iff_ne.mpr c112
               exact absurd ((Option.some.inj H).trans HRT.out) (by decide)
              rw [if_pos c112] at H
              have c112b0 : (x34_5 == x34_4) = true := beq_iff_eq.mpr c112
              have c112b1 : (x34_5 != x34_4) = false := bne_eq_false_iff_eq.mpr c112
              clear c112
              by_cases c113 : t600 < 1
              ·rw [if_pos c113] at H
               have c113b0 : decide (t600 < 1) = true := decide_eq_true c113
               clear c113
               exact absurd ((Option.some.inj H).trans HRT.out) (by decide)
              rw [if_neg c113] at H
              have c113b0 : decide (t600 < 1) = false := decide_eq_false c113
              clear c113
              have H' := xA H
              clear H
              go_wp2
              (try any_goals exact (xUn (by assumption)).elim)
              go_meet
              case rel => exact ⟨_, H', ⟨by have := HJ9.out; have := HJ31.out; have := HJ81.out; have := HK4.out; have := HK5.out; first | omega | exact Nat.le_refl _⟩, ⟨xK BK557.out⟩, ⟨xK BK598.out⟩, ⟨xB2 GE557.out GE598.out HB.out⟩⟩
            rw [if_pos c101] at H
            have c101b0 : decide (x39_5 < t600) = true := decide_eq_true c101
            clear c101
            replace H := Option.bind_eq_some_iff.mp H
            obtain ⟨⟨t607, t608⟩, A1020, H⟩ := H
            (try dsimp only at H)
            have A102 := xA A1020
            clear A1020
            by_cases c103 : t608 = true
            rotate_left
            ·as_aux_lemma =>
              replace c103 := Bool.eq_false_iff.mpr c103
              subst c103
              rw [if_neg (show ¬ (false = true) by decide)] at H
              exact absurd ((Option.some.inj H).trans HRT.out) (by decide)
            as_aux_lemma =>
             subst c103
             rw [if_pos rfl] at H
             by_cases c104 : t607 = x34_4
             rotate_left
             ·rw [if_neg c104] at H
              have c104b0 : (t607 == x34_4) = false := beq_eq_false_iff_ne.mpr c104
              have c104b1 : (t607 != x34_4) = true := bne_iff_ne.mpr c104
              have H' := xA H
              clear H
              have hnb109 := NB598_557.out
              have hnc109 := NB557_598.out
              replace hz598 := blk_cell BK598.out; replace hy598 := blk_frozen BK598.out
              go_wp2_with (first | (refine xG (some 295) Try.func99 #[.agg #[.int .i64 t591, .int .i64 t592, .int .i64 t593, .int .i64 t594, .bool t595], .int .i64 x34_5, .int .i64 t597] ?_; (with_reducible refine (impl_FirstStep.calls k5 t591 t592 t593 t594 t595 x34_5 t597 t607 true _ A102.out).mono ?_); rintro e w111 ⟨rfl, hb⟩; refine ⟨_, rfl, ?_⟩; replace BK557 := xkb BK557 hb; replace BK598 := xkb BK598 hb; replace HB := xA (below_step (xB2 GE557.out GE598.out HB.out) hb); (try clear hb)))
              (try any_goals exact (xUn (by assumption)).elim)
              go_roundg k5
              case measure => have := HJ9.out; have := HJ31.out; have := HJ81.out; have := HK4.out; have := HK5.out; omega
              case rel => exact ⟨(t607), (wrap64 (x39_5 + 1)), xs, xs, H', ⟨by have := HJ9.out; have := HJ31.out; have := HJ81.out; have := HK4.out; have := HK5.out; omega⟩, ⟨xK BK557.out⟩, ⟨xK BK598.out⟩, ⟨xB2 GE557.out GE598.out HB.out⟩⟩
             rw [if_pos c104] at H
             have c104b0 : (t607 == x34_4) = true := beq_iff_eq.mpr c104
             have c104b1 : (t607 != x34_4) = false := bne_eq_false_iff_eq.mpr c104
             clear c104
             by_cases c105 : x39_5 < (wrap64 (t600 - 1))
             ·rw [if_pos c105] at H
              have c105b0 : decide (x39_5 < (wrap64 (t600 - 1))) = true := decide_eq_true c105
              clear c105
              exact absurd ((Option.some.inj H).trans HRT.out) (by decide)
             rw [if_neg c105] at H
             have c105b0 : decide (x39_5 < (wrap64 (t600 - 1))) = false := decide_eq_false c105
             clear c105
             have H' := xA H
             clear H
             have hnb106 := NB598_557.out
             have hnc106 := NB557_598.out
             replace hz598 := blk_cell BK598.out; replace hy598 := blk_frozen BK598.out
             go_wp2_with (first | (refine xG (some 295) Try.func99 #[.agg #[.int .i64 t591, .int .i64 t592, .int .i64 t593, .int .i64 t594, .bool t595], .int .i64 x34_5, .int .i64 t597] ?_; (with_reducible refine (impl_FirstStep.calls k5 t591 t592 t593 t594 t595 x34_5 t597 t607 true _ A102.out).mono ?_); rintro e w108 ⟨rfl, hb⟩; refine ⟨_, rfl, ?_⟩; replace BK557 := xkb BK557 hb; replace BK598 := xkb BK598 hb; replace HB := xA (below_step (xB2 GE557.out GE598.out HB.out) hb); (try clear hb)))
             (try any_goals exact (xUn (by assumption)).elim)
             go_roundg k5
             case measure => have := HJ9.out; have := HJ31.out; have := HJ81.out; have := HK4.out; have := HK5.out; omega
             case rel => exact ⟨(t607), (wrap64 (x39_5 + 1)), xs, xs, H', ⟨by have := HJ9.out; have := HJ31.out; have := HJ81.out; have := HK4.out; have := HK5.out; omega⟩, ⟨xK BK557.out⟩, ⟨xK BK598.out⟩, ⟨xB2 GE557.out GE598.out HB.out⟩⟩
       case rest =>
        clear HC93
        try clear c92
        obtain ⟨kq, HA, HJ92, BK557, BK598, HB⟩ := hcut
        cases kq with
        | zero => exact absurd HA.out (by simp [laws_FnFirstCycles.j9])
        | succ kj92 =>
         have H := HA.out
         clear HA
         simp only [laws_FnFirstCycles.j9] at H
         replace H := Option.bind_eq_some_iff.mp H
         obtain ⟨⟨t609, t610, t611, t612, t613⟩, A1140, H⟩ := H
         (try dsimp only at H)
         have A114 := xA A1140
         clear A1140
         replace H := Option.bind_eq_some_iff.mp H
         obtain ⟨⟨t615, t616⟩, A1150, H⟩ := H
         (try dsimp only at H)
         have A115 := xA A1150
         clear A1150
         replace H := Option.bind_eq_some_iff.mp H
         obtain ⟨⟨t617, t618⟩, A1160, H⟩ := H
         (try dsimp only at H)
         have A116 := xA A1160
         clear A1160
         replace H := Option.bind_eq_some_iff.mp H
         obtain ⟨⟨t619, t620, t621⟩, A1170, H⟩ := H
         (try dsimp only at H)
         have A117 := xA A1170
         clear A1170
         replace H := Option.bind_eq_some_iff.mp H
         obtain ⟨⟨t622, t623, t624⟩, A1180, H⟩ := H
         (try dsimp only at H)
         have A118 := xA A1180
         clear A1180
         replace H := Option.bind_eq_some_iff.mp H
         obtain ⟨⟨t625, t626, t627, t628, t629, t630, t631⟩, A1190, H⟩ := H
         (try dsimp only at H)
         have A119 := xA A1190
         clear A1190
         replace H := Option.bind_eq_some_iff.mp H
         obtain ⟨⟨t633, t636⟩, A1200, H⟩ := H
         (try dsimp only at H)
         have A120 := xA A1200
         clear A1200
         replace H := Option.bind_eq_some_iff.mp H
         obtain ⟨⟨t637, t640⟩, A1210, H⟩ := H
         (try dsimp only at H)
         have A121 := xA A1210
         clear A1210
         have HC122 := xA H
         clear H
         go_upto_region 68 with (first | (refine xq rfl ?_; first | (refine xG (some 320) Try.func115 #[.slice A1 l1.length c1] ?_; (with_reducible refine (spec_DrawDeadBand.calls _ _ l1 t609 t610 t611 t612 t613 _ ?side1 ?side2 A114.out).mono ?_); (case side1 => exact xC (Kd.C_below HR1.out HB.out)); (case side2 => exact HC1.out); rintro e w123 ⟨rfl, hb⟩; refine ⟨_, rfl, ?_⟩; replace BK557 := xkb BK557 hb; replace BK598 := xkb BK598 hb; replace HB := xA (below_step (xB2 GE557.out GE598.out HB.out) hb); (try clear hb)) | (refine xG (some 323) Try.func116 #[.agg #[.int .i64 t609, .int .i64 t610, .int .i64 t611, .int .i64 t612, .bool t613]] ?_; (with_reducible refine (impl_DeadBand.calls kj92 t609 t610 t611 t612 t613 t615 t616 _ A115.out).mono ?_); rintro e w128 ⟨rfl, hb⟩; refine ⟨_, rfl, ?_⟩; replace BK557 := xA (blk_below (xF1 NB557_614.out BK557.out) hb); replace BK598 := xA (blk_below (xF1 NB598_614.out BK598.out) hb); replace BK614 := xA (blk_below (g := gb614) (o := .cells #[.int .i64 t609, .int .i64 t610, .int .i64 t611, .int .i64 t612, .bool t613] 62 (0, 0)) (xPt0 BK614.out) hb); replace HB := xA (below_step (xB3 GE557.out GE598.out GE614.out HB.out) hb); (try clear hb); obtain ⟨hcz129_0, hcz129_1, hcz129_2, hcz129_3, hcz129_4, hfz129_0, hfz129_1, hfz129_2, hfz129_3, hfz129_4⟩ := xZ5 BK614.out) | (refine xG (some 328) Try.func117 #[.agg #[.int .i64 t609, .int .i64 t610, .int .i64 t611, .int .i64 t612, .bool t613]] ?_; (with_reducible refine (spec_DeadBand.calls kj92 t609 t610 t611 t612 t613 t617 t618 _ A116.out).mono ?_); rintro e w130 ⟨rfl, hb⟩; refine ⟨_, rfl, ?_⟩; replace BK557 := xkb BK557 hb; replace BK598 := xkb BK598 hb; replace BK614 := xkb BK614 hb; replace HB := xA (below_step (xB3 GE557.out GE598.out GE614.out HB.out) hb); (try clear hb); obtain ⟨hcz131_0, hcz131_1, hcz131_2, hcz131_3, hcz131_4, hfz131_0, hfz131_1, hfz131_2, hfz131_3, hfz131_4⟩ := xZ5 BK614.out) | (refine xG (some 333) Try.func118 #[.agg #[.int .i64 t609, .int .i64 t610, .int .i64 t611, .int .i64 t612, .bool t613]] ?_; (with_reducible refine (impl_GainOfFirst.calls kj92 t609 t610 t611 t612 t613 t619 t620 t621 _ A117.out).mono ?_); rintro e w132 ⟨rfl, hb⟩; refine ⟨_, rfl, ?_⟩; replace BK557 := xkb BK557 hb; replace BK598 := xkb BK598 hb; replace BK614 := xkb BK614 hb; replace HB := xA (below_step (xB3 GE557.out GE598.out GE614.out HB.out) hb); (try clear hb); obtain ⟨hcz133_0, hcz133_1, hcz133_2, hcz133_3, hcz133_4, hfz133_0, hfz133_1, hfz133_2, hfz133_3, hfz133_4⟩ := xZ5 BK614.out) | (refine xG (some 339) Try.func119 #[.agg #[.int .i64 t609, .int .i64 t610, .int .i64 t611, .int .i64 t612, .bool t613]] ?_; (with_reducible refine (spec_GainOfFirst.calls kj92 t609 t610 t611 t612 t613 t622 t623 t624 _ A118.out).mono ?_); rintro e w134 ⟨rfl, hb⟩; refine ⟨_, rfl, ?_⟩; replace BK557 := xkb BK557 hb; replace BK598 := xkb BK598 hb; replace BK614 := xkb BK614 hb; replace HB := xA (below_step (xB3 GE557.out GE598.out GE614.out HB.out) hb); (try clear hb)) | (refine xG (some 345) Try.func120 #[.slice A1 l1.length c1] ?_; (with_reducible refine (spec_DrawNumbersBefore.calls kj92 _ _ l1 t625 t626 t627 t628 t629 t630 t631 _ ?side1 ?side2 A119.out).mono ?_); (case side1 => exact xC (Kd.C_below HR1.out HB.out)); (case side2 => exact HC1.out); rintro e w135 ⟨rfl, hb⟩; refine ⟨_, rfl, ?_⟩; replace BK557 := xkb BK557 hb; replace BK598 := xkb BK598 hb; replace BK614 := xkb BK614 hb; replace HB := xA (below_step (xB3 GE557.out GE598.out GE614.out HB.out) hb); (try clear hb)) | (refine xG (some 353) Try.func121 #[.agg #[.int .i64 t625, .int .i64 t626, .int .i64 t627, .int .i64 t628, .bool t629], .int .i64 t630, .int .i64 t631] ?_; (with_reducible refine (impl_NumbersBefore.calls kj92 t625 t626 t627 t628 t629 t630 t631 t633 t636 _ A120.out).mono ?_); rintro e w141 ⟨v634, rfl, ho0, hb⟩; refine ⟨_, rfl, ?_⟩; have HO635 := xA (Kd.R_lower ho0 (below_size (xB4 GE557.out GE598.out GE614.out GE632.out HB.out))); replace BK557 := xA (blk_below (xF1 NB557_632.out BK557.out) hb); replace BK598 := xA (blk_below (xF1 NB598_632.out BK598.out) hb); replace BK614 := xA (blk_below (xF1 NB614_632.out BK614.out) hb); replace BK632 := xA (blk_below (g := gb632) (o := .cells #[.int .i64 t625, .int .i64 t626, .int .i64 t627, .int .i64 t628, .bool t629] 62 (0, 0)) (xPt0 BK632.out) hb); replace HB := xA (below_step (xB4 GE557.out GE598.out GE614.out GE632.out HB.out) hb); (try clear hb); (try clear ho0); obtain ⟨hcz142_0, hcz142_1, hcz142_2, hcz142_3, hcz142_4, hfz142_0, hfz142_1, hfz142_2, hfz142_3, hfz142_4⟩ := xZ5 BK632.out) | (refine xG (some 360) Try.func122 #[.agg #[.int .i64 t625, .int .i64 t626, .int .i64 t627, .int .i64 t628, .bool t629], .int .i64 t630, .int .i64 t631] ?_; (with_reducible refine (spec_NumbersBefore.calls kj92 t625 t626 t627 t628 t629 t630 t631 t637 t640 _ A121.out).mono ?_); rintro e w143 ⟨v638, rfl, ho0, hb⟩; refine ⟨_, rfl, ?_⟩; have HO639 := xA (Kd.R_lower (Kd.R_new' ho0 (Kd.R_lt (xR HO635.out))) (below_size (xB4 GE557.out GE598.out GE614.out GE632.out HB.out))); replace HO635 := xA (Kd.R_elder' (xR HO635.out) (Kd.R_base ho0) hb); replace BK557 := xkb BK557 hb; replace BK598 := xkb BK598 hb; replace BK614 := xkb BK614 hb; replace BK632 := xkb BK632 hb; replace HB := xA (below_step (xB4 GE557.out GE598.out GE614.out GE632.out HB.out) hb); (try clear hb); (try clear ho0))) | ((with_reducible refine gate_dst (N := 42) rfl ?_); (try (refine gate_guard (by rfl) ?_; dsimp only)); refine box_event ?hg (N := 42) ?hd (cs := #[.int .i64 0, .int .i64 0, .int .i64 0, .int .i64 0, .bool false]) (t := 62) ?hr ?_; (case hd => rfl); (case hg => rfl); (case hr => first | (go_simp; done) | (go_simp; rfl)); intro gb614 hg w124 hbox hb; have BK614 := xA (hbox); have GW614 := xgw hg (below_size (xB2 GE557.out GE598.out HB.out)); have GE614 := GW614; replace HB := xA (below_step (xB2 GE557.out GE598.out HB.out) hb); have NB557_614 := xnl hg BK557; have NB614_557 := xng hg BK557; replace BK557 := xkb BK557 hb; have NB598_614 := xnl hg BK598; have NB614_598 := xng hg BK598; replace BK598 := xkb BK598 hb; clear hb hbox hg; have hnb125 := NB614_557.out; have hnc125 := NB557_614.out; have hnb126 := NB614_598.out; have hnc126 := NB598_614.out; obtain ⟨hcz127_0, hcz127_1, hcz127_2, hcz127_3, hcz127_4, hfz127_0, hfz127_1, hfz127_2, hfz127_3, hfz127_4⟩ := xZ5 BK614.out) | ((with_reducible refine gate_dst (N := 53) rfl ?_); (try (refine gate_guard (by rfl) ?_; dsimp only)); refine box_event ?hg (N := 53) ?hd (cs := #[.int .i64 0, .int .i64 0, .int .i64 0, .int .i64 0, .bool false]) (t := 62) ?hr ?_; (case hd => rfl); (case hg => rfl); (case hr => first | (go_simp; done) | (go_simp; rfl)); intro gb632 hg w136 hbox hb; have BK632 := xA (hbox); have GW632 := xgw hg (below_size (xB3 GE557.out GE598.out GE614.out HB.out)); have GE632 := GW632; replace HB := xA (below_step (xB3 GE557.out GE598.out GE614.out HB.out) hb); have NB557_632 := xnl hg BK557; have NB632_557 := xng hg BK557; replace BK557 := xkb BK557 hb; have NB598_632 := xnl hg BK598; have NB632_598 := xng hg BK598; replace BK598 := xkb BK598 hb; have NB614_632 := xnl hg BK614; have NB632_614 := xng hg BK614; replace BK614 := xkb BK614 hb; clear hb hbox hg; have hnb137 := NB632_557.out; have hnc137 := NB557_632.out; have hnb138 := NB632_598.out; have hnc138 := NB598_632.out; have hnb139 := NB632_614.out; have hnc139 := NB614_632.out; obtain ⟨hcz140_0, hcz140_1, hcz140_2, hcz140_3, hcz140_4, hfz140_0, hfz140_1, hfz140_2, hfz140_3, hfz140_4⟩ := xZ5 BK632.out))
         (try simp only [Act.put, List.setIfInBounds_toArray, List.set_cons_zero, List.set_cons_succ])
         go_cut [403] from 269 to 362 (fun v403 wc => ∃ (kq : Nat) (x403_121 : Bool), v403 = .bool x403_121 ∧ Aside0 (laws_FnFirstCycles.j10 kq t615 t616 t630 t631 t633 x403_121 t609 t610 t611 t612 t613 t625 t626 t627 t628 t629 = some r) ∧ Aside0 (kq ≤ kj92) ∧ Aside0 (Kd.R (Kd.int .i64) 3 wc w.heap.size (fun _ => True) v634 t633) ∧ Aside0 (wc.heap[gb557]? = some (.cells #[.int .i64 t551, .int .i64 t552, .int .i64 t553, .int .i64 t554, .bool t555] 62 (0, 0))) ∧ Aside0 (wc.heap[gb598]? = some (.cells #[.int .i64 t591, .int .i64 t592, .int .i64 t593, .int .i64 t594, .bool t595] 62 (0, 0))) ∧ Aside0 (wc.heap[gb614]? = some (.cells #[.int .i64 t609, .int .i64 t610, .int .i64 t611, .int .i64 t612, .bool t613] 62 (0, 0))) ∧ Aside0 (wc.heap[gb632]? = some (.cells #[.int .i64 t625, .int .i64 t626, .int .i64 t627, .int .i64 t628, .bool t629] 62 (0, 0))) ∧ Aside0 (Below w.heap.size w wc))
         case first => as_aux_lemma =>
          have H := HC122.out
          clear HC122
          by_cases c144 : (t616 != t618) = true
          ·rw [if_pos c144] at H; exact absurd H (by have hr_ := HRT.out; cases kj92 <;> simp [laws_FnFirstCycles.j10, hr_])
          rw [if_neg c144] at H
          have c144b0 : (t616 != t618) = false := by simpa using c144
          (try (have c144b1 : decide (t616 = t618) = true := by simpa using c144))
          (try (have c144b2 : (t616 == t618) = true := by simpa using c144))
          clear c144
          (first | rw [c144b0] | (simp only [i64_w, i32_w]; rw [c144b0]) | skip)
          by_cases c145 : t615 = t617
          rotate_left
          ·rw [if_neg c145] at H; exact absurd H (by have hr_ := HRT.out; cases kj92 <;> simp [laws_FnFirstCycles.j10, hr_])
          rw [if_pos c145] at H
          have c145b0 : (t615 == t617) = true := beq_iff_eq.mpr c145
          have c145b1 : (t615 != t617) = false := bne_eq_false_iff_eq.mpr c145
          clear c145
          by_cases c146 : (t621 != t624) = true
          ·rw [if_pos c146] at H; exact absurd H (by have hr_ := HRT.out; cases kj92 <;> simp [laws_FnFirstCycles.j10, hr_])
          rw [if_neg c146] at H
          have c146b0 : (t621 != t624) = false := by simpa using c146
          (try (have c146b1 : decide (t621 = t624) = true := by simpa using c146))
          (try (have c146b2 : (t621 == t624) = true := by simpa using c146))
          clear c146
          by_cases c147 : t619 = t622
          rotate_left
          ·rw [if_neg c147] at H; exact absurd H (by have hr_ := HRT.out; cases kj92 <;> simp [laws_FnFirstCycles.j10, hr_])
          rw [if_pos c147] at H
          have c147b0 : (t619 == t622) = true := beq_iff_eq.mpr c147
          have c147b1 : (t619 != t622) = false := bne_eq_false_iff_eq.mpr c147
          clear c147
          by_cases c148 : t620 = t623
          rotate_left
          ·rw [if_neg c148] at H; exact absurd H (by have hr_ := HRT.out; cases kj92 <;> simp [laws_FnFirstCycles.j10, hr_])
          rw [if_pos c148] at H
          have c148b0 : (t620 == t623) = true := beq_iff_eq.mpr c148
          have c148b1 : (t620 != t623) = false := bne_eq_false_iff_eq.mpr c148
          clear c148
          by_cases c149 : (t636 != t640) = true
          ·rw [if_pos c149] at H; exact absurd H (by have hr_ := HRT.out; cases kj92 <;> simp [laws_FnFirstCycles.j10, hr_])
          as_aux_lemma =>
           rw [if_neg c149] at H
           have c149b0 : (t636 != t640) = false := by simpa using c149
           (try (have c149b1 : decide (t636 = t640) = true := by simpa using c149))
           (try (have c149b2 : (t636 == t640) = true := by simpa using c149))
           clear c149
           obtain ⟨t641, A150, H⟩ := xO H
           (try dsimp only at H)
           by_cases c151 : t641 = true
           rotate_left
           ·replace c151 := Bool.eq_false_iff.mpr c151; subst c151; exact absurd H (by have hr_ := HRT.out; cases kj92 <;> simp [laws_FnFirstCycles.j10, hr_])
           subst c151
           rw [if_pos rfl] at H
           by_cases c152 : t621 = true
           ·subst c152
            rw [if_pos rfl] at H
            have H' := xA H
            clear H
            obtain ⟨Ao153, co153, eo153⟩ := Kd.R_slice HO635.out
            subst eo153
            obtain ⟨Ao154, co154, eo154⟩ := Kd.R_slice HO639.out
            subst eo154
            go_wp2_with (first | (go_at_call 44; (with_reducible refine (laws_uSame.calls kj92 _ _ t633 _ _ t637 true _ ?side1 ?side2 ?side3 ?side4 A150.out).mono ?_); (case side1 => exact xC ((Kd.R_reads' HO635.out).2.2)); (case side2 => exact (Kd.R_reads' HO635.out).2.1); (case side3 => exact xC ((Kd.R_reads' HO639.out).2.2)); (case side4 => exact (Kd.R_reads' HO639.out).2.1); rintro e w' ⟨rfl, ⟨nd, rfl⟩⟩))
            (try any_goals exact (xUn (by assumption)).elim)
            go_meet
            case rel => exact ⟨_, (decide (t620 < 1)), xs, H', ⟨by have := HJ9.out; have := HJ31.out; have := HJ81.out; have := HJ92.out; first | omega | exact Nat.le_refl _⟩, ⟨by (with_reducible repeat (first | apply Kd.R_alloc | apply Kd.R_drewN | apply Kd.R_drew)); exact Kd.R_mono HO635.out (fun _ hk => trivial)⟩, ⟨xK BK557.out⟩, ⟨xK BK598.out⟩, ⟨xK BK614.out⟩, ⟨xK BK632.out⟩, ⟨xB4 GE557.out GE598.out GE614.out GE632.out HB.out⟩⟩
           replace c152 := Bool.eq_false_iff.mpr c152
           subst c152
           rw [if_neg (show ¬ (false = true) by decide)] at H
           have H' := xA H
           clear H
           obtain ⟨Ao155, co155, eo155⟩ := Kd.R_slice HO635.out
           subst eo155
           obtain ⟨Ao156, co156, eo156⟩ := Kd.R_slice HO639.out
           subst eo156
           go_wp2_with (first | (go_at_call 44; (with_reducible refine (laws_uSame.calls kj92 _ _ t633 _ _ t637 true _ ?side1 ?side2 ?side3 ?side4 A150.out).mono ?_); (case side1 => exact xC ((Kd.R_reads' HO635.out).2.2)); (case side2 => exact (Kd.R_reads' HO635.out).2.1); (case side3 => exact xC ((Kd.R_reads' HO639.out).2.2)); (case side4 => exact (Kd.R_reads' HO639.out).2.1); rintro e w' ⟨rfl, ⟨nd, rfl⟩⟩))
           (try any_goals exact (xUn (by assumption)).elim)
           go_meet
           case rel => exact ⟨_, (false), xs, H', ⟨by have := HJ9.out; have := HJ31.out; have := HJ81.out; have := HJ92.out; first | omega | exact Nat.le_refl _⟩, ⟨by (with_reducible repeat (first | apply Kd.R_alloc | apply Kd.R_drewN | apply Kd.R_drew)); exact Kd.R_mono HO635.out (fun _ hk => trivial)⟩, ⟨xK BK557.out⟩, ⟨xK BK598.out⟩, ⟨xK BK614.out⟩, ⟨xK BK632.out⟩, ⟨xB4 GE557.out GE598.out GE614.out GE632.out HB.out⟩⟩
         case rest =>
          clear HC122
          try clear hcz127_0
          try clear hcz127_1
          try clear hcz127_2
          try clear hcz127_3
          try clear hcz127_4
          try clear hcz129_0
          try clear hcz129_1
          try clear hcz129_2
          try clear hcz129_3
          try clear hcz129_4
          try clear hcz131_0
          try clear hcz131_1
          try clear hcz131_2
          try clear hcz131_3
          try clear hcz131_4
          try clear hcz133_0
          try clear hcz133_1
          try clear hcz133_2
          try clear hcz133_3
          try clear hcz133_4
          try clear hcz140_0
          try clear hcz140_1
          try clear hcz140_2
          try clear hcz140_3
          try clear hcz140_4
          try clear hcz142_0
          try clear hcz142_1
          try clear hcz142_2
          try clear hcz142_3
          try clear hcz142_4
          try clear hfz127_0
          try clear hfz127_1
          try clear hfz127_2
          try clear hfz127_3
          try clear hfz127_4
          try clear hfz129_0
          try clear hfz129_1
          try clear hfz129_2
          try clear hfz129_3
          try clear hfz129_4
          try clear hfz131_0
          try clear hfz131_1
          try clear hfz131_2
          try clear hfz131_3
          try clear hfz131_4
          try clear hfz133_0
          try clear hfz133_1
          try clear hfz133_2
          try clear hfz133_3
          try clear hfz133_4
          try clear hfz140_0
          try clear hfz140_1
          try clear hfz140_2
          try clear hfz140_3
          try clear hfz140_4
          try clear hfz142_0
          try clear hfz142_1
          try clear hfz142_2
          try clear hfz142_3
          try clear hfz142_4
          obtain ⟨kq, x403_121, rfl, HA, HJ121, HO_56, BK557, BK598, BK614, BK632, HB⟩ := hcut
          cases kq with
          | zero => exact absurd HA.out (by simp [laws_FnFirstCycles.j10])
          | succ kj121 =>
           have H := HA.out
           clear HA
           simp only [laws_FnFirstCycles.j10] at H
           by_cases c157 : x403_121 = true
           ·as_aux_lemma =>
             subst c157
             rw [if_pos rfl] at H
             exact absurd ((Option.some.inj H).trans HRT.out) (by decide)
           replace c157 := Bool.eq_false_iff.mpr c157
           subst c157
           rw [if_neg (show ¬ (false = true) by decide)] at H
           have H' := xA H
           clear H
           obtain ⟨Ao158, co158, eo158⟩ := Kd.R_slice HO_56.out
           subst eo158
           go_wp2
           (try any_goals exact (xUn (by assumption)).elim)
           go_loopg [406] kj121 (fun kq v406 w' => ∃ (x406_6 : Int), v406 = .int .i64 x406_6 ∧ Aside0 (laws_FnFirstCycles.l4 kq t615 t616 t630 t631 t633 t633 (t633.length : Int) x406_6 t609 t610 t611 t612 t613 t625 t626 t627 t628 t629 = some r) ∧ Aside0 (kq ≤ kj121) ∧ Aside0 (Kd.R (Kd.int .i64) 3 w' w.heap.size (fun _ => True) (.slice Ao158 t633.length co158) t633) ∧ Aside0 (Kd.R (Kd.int .i64) 3 w' w.heap.size (fun _ => True) (.slice Ao158 t633.length co158) t633) ∧ Aside0 (w'.heap[gb557]? = some (.cells #[.int .i64 t551, .int .i64 t552, .int .i64 t553, .int .i64 t554, .bool t555] 62 (0, 0))) ∧ Aside0 (w'.heap[gb598]? = some (.cells #[.int .i64 t591, .int .i64 t592, .int .i64 t593, .int .i64 t594, .bool t595] 62 (0, 0))) ∧ Aside0 (w'.heap[gb614]? = some (.cells #[.int .i64 t609, .int .i64 t610, .int .i64 t611, .int .i64 t612, .bool t613] 62 (0, 0))) ∧ Aside0 (w'.heap[gb632]? = some (.cells #[.int .i64 t625, .int .i64 t626, .int .i64 t627, .int .i64 t628, .bool t629] 62 (0, 0))) ∧ Aside0 (Below w.heap.size w w'))
           case atStart => exact ⟨(0), xs, H', ⟨Nat.le_refl _⟩, ⟨xR HO_56.out⟩, ⟨xR HO_56.out⟩, ⟨xK BK557.out⟩, ⟨xK BK598.out⟩, ⟨xK BK614.out⟩, ⟨xK BK632.out⟩, ⟨xB4 GE557.out GE598.out GE614.out GE632.out HB.out⟩⟩
           case round =>
            clear H'
            try clear c157
            obtain ⟨x406_6, rfl, HA, HK6, HO_56, HO_404, BK557, BK598, BK614, BK632, HB⟩ := hrel
            cases gk with
            | zero => exact absurd HA.out (by simp [laws_FnFirstCycles.l4])
            | succ k6 =>
             have H := HA.out
             clear HA
             simp only [laws_FnFirstCycles.l4] at H
             by_cases c159 : x406_6 < (t633.length : Int)
             ·rw [if_pos c159] at H
              have c159b0 : decide (x406_6 < (t633.length : Int)) = true := decide_eq_true c159
              clear c159
              by_cases c160 : 0 ≤ x406_6
              rotate_left
              ·rw [if_neg c160] at H
               exact absurd H (by simp)
              rw [if_pos c160] at H
              have c160b0 : decide (0 ≤ x406_6) = true := decide_eq_true c160
              clear c160
              by_cases c161 : x406_6 < (t633.length : Int)
              rotate_left
              ·rw [if_neg c161] at H
               exact absurd H (by simp)
              rw [if_pos c161] at H
              have c161b0 : decide (x406_6 < (t633.length : Int)) = true := decide_eq_true c161
              clear c161
              replace H := Option.bind_eq_some_iff.mp H
              obtain ⟨⟨t643, t644⟩, A1620, H⟩ := H
              (try dsimp only at H)
              have A162 := xA A1620
              clear A1620
              by_cases c163 : t644 = true
              rotate_left
              ·as_aux_lemma =>
                replace c163 := Bool.eq_false_iff.mpr c163
                subst c163
                rw [if_neg (show ¬ (false = true) by decide)] at H
                exact absurd ((Option.some.inj H).trans HRT.out) (by decide)
              subst c163
              rw [if_pos rfl] at H
              by_cases c164 : t643 = t630
              rotate_left
              ·rw [if_neg c164] at H
               have c164b0 : (t643 == t630) = false := beq_eq_false_iff_ne.mpr c164
               have c164b1 : (t643 != t630) = true := bne_iff_ne.mpr c164
               exact absurd ((Option.some.inj H).trans HRT.out) (by decide)
              rw [if_pos c164] at H
              have c164b0 : (t643 == t630) = true := beq_iff_eq.mpr c164
              have c164b1 : (t643 != t630) = false := bne_eq_false_iff_eq.mpr c164
              clear c164
              by_cases c165 : x406_6 > 0
              rotate_left
              ·as_aux_lemma =>
                rw [if_neg c165] at H
                have c165b0 : decide (0 < x406_6) = false := decide_eq_false c165
                clear c165
                have H' := xA H
                clear H
                have p642 : 0 ≤ (x406_6 : Int) := of_decide_eq_true (by first | (with_reducible assumption) | assumption)
                have q642 : x406_6 < (t633.length : Int) := of_decide_eq_true (by first | (with_reducible assumption) | assumption)
                obtain ⟨ad642, e642, hx642_0⟩ := Kd.at_int (Kd.R_reads' HO_404.out).2.2 x406_6 p642 q642
                cases e642
                replace p642 := eq_true p642
                replace q642 := eq_true q642
                have hnb175 := NB632_557.out
                have hnc175 := NB557_632.out
                have hnb176 := NB632_598.out
                have hnc176 := NB598_632.out
                have hnb177 := NB632_614.out
                have hnc177 := NB614_632.out
                replace hz632 := blk_cell BK632.out; replace hy632 := blk_frozen BK632.out
                go_wp2_with (first | (refine xG (some 415) Try.func99 #[.agg #[.int .i64 t625, .int .i64 t626, .int .i64 t627, .int .i64 t628, .bool t629], .int .i64 (rd t633 x406_6), .int .i64 t631] ?_; (with_reducible refine (impl_FirstStep.calls k6 t625 t626 t627 t628 t629 (rd t633 x406_6) t631 t643 true _ A162.out).mono ?_); rintro e w179 ⟨rfl, hb⟩; refine ⟨_, rfl, ?_⟩; replace HO_56 := xA (Kd.R_below (xR HO_56.out) hb); replace HO_404 := xA (Kd.R_below (xR HO_404.out) hb); replace BK557 := xkb BK557 hb; replace BK598 := xkb BK598 hb; replace BK614 := xkb BK614 hb; replace BK632 := xkb BK632 hb; replace HB := xA (below_step (xB4 GE557.out GE598.out GE614.out GE632.out HB.out) hb); (try clear hb)))
                (try any_goals exact (xUn (by assumption)).elim)
                go_roundg k6
                case measure => have := HJ9.out; have := HJ31.out; have := HJ81.out; have := HJ92.out; have := HJ121.out; have := HK6.out; omega
                case rel => exact ⟨(wrap64 (x406_6 + 1)), xs, H', ⟨by have := HJ9.out; have := HJ31.out; have := HJ81.out; have := HJ92.out; have := HJ121.out; have := HK6.out; omega⟩, ⟨xR HO_56.out⟩, ⟨xR HO_404.out⟩, ⟨xK BK557.out⟩, ⟨xK BK598.out⟩, ⟨xK BK614.out⟩, ⟨xK BK632.out⟩, ⟨xB4 GE557.out GE598.out GE614.out GE632.out HB.out⟩⟩
              as_aux_lemma =>
               rw [if_pos c165] at H
               have c165b0 : decide (0 < x406_6) = true := decide_eq_true c165
               clear c165
               obtain ⟨ji166, hji166⟩ : ∃ j_ : Int, (wrap64 (x406_6 - 1)) = j_ := ⟨_, rfl⟩
               (first | rw [hji166] at H | simp only [hji166] at H)
               (try rw [hji166] at A162)
               have hji166w : (IntKind.i64.wrap (x406_6 - 1)) = ji166 := (i64_w _).trans hji166
               by_cases c167 : 0 ≤ (ji166)
               rotate_left
               ·rw [if_neg c167] at H
                exact absurd H (by simp)
               rw [if_pos c167] at H
               have c167b0 : decide (0 ≤ (ji166)) = true := decide_eq_true c167
               clear c167
               by_cases c168 : (ji166) < (t633.length : Int)
               rotate_left
               ·rw [if_neg c168] at H
                exact absurd H (by simp)
               rw [if_pos c168] at H
               have c168b0 : decide ((ji166) < (t633.length : Int)) = true := decide_eq_true c168
               clear c168
               by_cases c169 : (rd t633 (ji166)) ≥ (rd t633 x406_6)
               ·rw [if_pos c169] at H
                have c169b0 : decide ((rd t633 x406_6) ≤ (rd t633 (ji166))) = true := decide_eq_true c169
                clear c169
                exact absurd ((Option.some.inj H).trans HRT.out) (by decide)
               rw [if_neg c169] at H
               have c169b0 : decide ((rd t633 x406_6) ≤ (rd t633 (ji166))) = false := decide_eq_false c169
               clear c169
               have H' := xA H
               clear H
               have p642 : 0 ≤ (x406_6 : Int) := of_decide_eq_true (by first | (with_reducible assumption) | assumption)
               have q642 : x406_6 < (t633.length : Int) := of_decide_eq_true (by first | (with_reducible assumption) | assumption)
               obtain ⟨ad642, e642, hx642_0⟩ := Kd.at_int (Kd.R_reads' HO_404.out).2.2 x406_6 p642 q642
               cases e642
               replace p642 := eq_true p642
               replace q642 := eq_true q642
               have hnb170 := NB632_557.out
               have hnc170 := NB557_632.out
               have hnb171 := NB632_598.out
               have hnc171 := NB598_632.out
               have hnb172 := NB632_614.out
               have hnc172 := NB614_632.out
               replace hz632 := blk_cell BK632.out; replace hy632 := blk_frozen BK632.out
               go_wp2_with (first | (refine xG (some 415) Try.func99 #[.agg #[.int .i64 t625, .int .i64 t626, .int .i64 t627, .int .i64 t628, .bool t629], .int .i64 (rd t633 x406_6), .int .i64 t631] ?_; (with_reducible refine (impl_FirstStep.calls k6 t625 t626 t627 t628 t629 (rd t633 x406_6) t631 t643 true _ A162.out).mono ?_); rintro e w174 ⟨rfl, hb⟩; refine ⟨_, rfl, ?_⟩; replace HO_56 := xA (Kd.R_below (xR HO_56.out) hb); replace HO_404 := xA (Kd.R_below (xR HO_404.out) hb); replace BK557 := xkb BK557 hb; replace BK598 := xkb BK598 hb; replace BK614 := xkb BK614 hb; replace BK632 := xkb BK632 hb; replace HB := xA (below_step (xB4 GE557.out GE598.out GE614.out GE632.out HB.out) hb); (try clear hb); have p645 : 0 ≤ ((ji166) : Int) := of_decide_eq_true (by first | (with_reducible assumption) | assumption); have q645 : (ji166) < (t633.length : Int) := of_decide_eq_true (by first | (with_reducible assumption) | assumption); obtain ⟨ad645, e645, hx645_0⟩ := Kd.at_int (Kd.R_reads' HO_56.out).2.2 (ji166) p645 q645; obtain rfl : ad642 = ad645 := (by injection e645); replace p645 := eq_true p645; replace q645 := eq_true q645))
               (try any_goals exact (xUn (by assumption)).elim)
               go_roundg k6
               case measure => have := HJ9.out; have := HJ31.out; have := HJ81.out; have := HJ92.out; have := HJ121.out; have := HK6.out; omega
               case rel => exact ⟨(wrap64 (x406_6 + 1)), xs, H', ⟨by have := HJ9.out; have := HJ31.out; have := HJ81.out; have := HJ92.out; have := HJ121.out; have := HK6.out; omega⟩, ⟨xR HO_56.out⟩, ⟨xR HO_404.out⟩, ⟨xK BK557.out⟩, ⟨xK BK598.out⟩, ⟨xK BK614.out⟩, ⟨xK BK632.out⟩, ⟨xB4 GE557.out GE598.out GE614.out GE632.out HB.out⟩⟩
             rw [if_neg c159] at H
             have c159b0 : decide (x406_6 < (t633.length : Int)) = false := decide_eq_false c159
             clear c159
             by_cases c180 : t616 = true
             rotate_left
             ·as_aux_lemma =>
               replace c180 := Bool.eq_false_iff.mpr c180
               subst c180
               rw [if_neg (show ¬ (false = true) by decide)] at H
               obtain rfl := Option.some.inj H
               go_wp2
               (try any_goals exact (xUn (by assumption)).elim)
               go_ret
               exact ⟨xr, xB4 GE557.out GE598.out GE614.out GE632.out HB.out⟩

             subst c180
             rw [if_pos rfl] at H
             replace H := Option.bind_eq_some_iff.mp H
             obtain ⟨⟨t646, t649⟩, A1810, H⟩ := H
             (try dsimp only at H)
             have A181 := xA A1810
             clear A1810
             have H' := xA H
             clear H
             have hnb182 := NB614_557.out
             have hnc182 := NB557_614.out
             have hnb183 := NB614_598.out
             have hnc183 := NB598_614.out
             have hnb184 := NB614_632.out
             have hnc184 := NB632_614.out
             obtain ⟨hcz185_0, hcz185_1, hcz185_2, hcz185_3, hcz185_4, hfz185_0, hfz185_1, hfz185_2, hfz185_3, hfz185_4⟩ := xZ5 BK614.out
             go_wp2_with (first | (refine xG (some 442) Try.func106 #[.agg #[.int .i64 t609, .int .i64 t610, .int .i64 t611, .int .i64 t612, .bool t613], .int .i64 0] ?_; (with_reducible refine (impl_CyclesOfFirst.calls k6 t609 t610 t611 t612 t613 0 t646 t649 _ A181.out).mono ?_); rintro e w186 ⟨v647, rfl, ho0, hb⟩; refine ⟨_, rfl, ?_⟩; have HO648 := xA (Kd.N_lower (Kd.N_mono (ok' := fun k_ => some k_ ≠ (.slice Ao158 t633.length co158 : Value).ownBlock ∧ some k_ ≠ (.slice Ao158 t633.length co158 : Value).ownBlock ∧ k_ ≠ gb557 ∧ k_ ≠ gb598 ∧ k_ ≠ gb614 ∧ k_ ≠ gb632) ho0 (fun k_ hk_ => ⟨(Kd.fresh' (Kd.R_lt (xR HO_56.out)) k_ hk_), (Kd.fresh' (Kd.R_lt (xR HO_404.out)) k_ hk_), (Kd.freshB (xK BK557.out) k_ hk_), (Kd.freshB (xK BK598.out) k_ hk_), (Kd.freshB (xK BK614.out) k_ hk_), (Kd.freshB (xK BK632.out) k_ hk_)⟩)) (below_size (xB4 GE557.out GE598.out GE614.out GE632.out HB.out))); replace HO_56 := xA (Kd.R_below (xR HO_56.out) hb); replace HO_404 := xA (Kd.R_below (xR HO_404.out) hb); replace BK557 := xkb BK557 hb; replace BK598 := xkb BK598 hb; replace BK614 := xkb BK614 hb; replace BK632 := xkb BK632 hb; replace HB := xA (below_step (xB4 GE557.out GE598.out GE614.out GE632.out HB.out) hb); (try clear hb); (try clear ho0); obtain ⟨Ao187, co187, eo187⟩ := Kd.N_slice HO648.out; subst eo187))
             (try any_goals exact (xUn (by assumption)).elim)
             go_loopg [66, 447] k6 (fun kq v66 v447 w' => ∃ (x66_7 : Int) (x447_7 : Int), v66 = .int .i64 x66_7 ∧ v447 = .int .i64 x447_7 ∧ Aside0 (laws_FnFirstCycles.l5 kq t615 t649 x66_7 t646 (t646.length : Int) x447_7 = some r) ∧ Aside0 (kq ≤ k6) ∧ Aside0 (Kd.N (Kd.slice 3 (Kd.int .i64)) 24 w' w.heap.size (fun k_ => k_ ≠ gb557 ∧ k_ ≠ gb598 ∧ k_ ≠ gb614 ∧ k_ ≠ gb632) (.slice Ao187 t646.length co187) t646) ∧ Aside0 (w'.heap[gb557]? = some (.cells #[.int .i64 t551, .int .i64 t552, .int .i64 t553, .int .i64 t554, .bool t555] 62 (0, 0))) ∧ Aside0 (w'.heap[gb598]? = some (.cells #[.int .i64 t591, .int .i64 t592, .int .i64 t593, .int .i64 t594, .bool t595] 62 (0, 0))) ∧ Aside0 (w'.heap[gb614]? = some (.cells #[.int .i64 t609, .int .i64 t610, .int .i64 t611, .int .i64 t612, .bool t613] 62 (0, 0))) ∧ Aside0 (w'.heap[gb632]? = some (.cells #[.int .i64 t625, .int .i64 t626, .int .i64 t627, .int .i64 t628, .bool t629] 62 (0, 0))) ∧ Aside0 (Below w.heap.size w w'))
             case atStart => exact ⟨(0), (0), xs, xs, H', ⟨Nat.le_refl _⟩, ⟨by (with_reducible repeat (first | apply Kd.N_alloc | apply Kd.N_drewN | apply Kd.N_drew)); exact Kd.N_mono HO648.out (fun _ hk => ⟨hk.2.2.1, ⟨hk.2.2.2.1, ⟨hk.2.2.2.2.1, hk.2.2.2.2.2⟩⟩⟩)⟩, ⟨xK BK557.out⟩, ⟨xK BK598.out⟩, ⟨xK BK614.out⟩, ⟨xK BK632.out⟩, ⟨xB4 GE557.out GE598.out GE614.out GE632.out HB.out⟩⟩
             case round =>
              clear H'
              try clear c159b0
              try clear c180
              try clear hcz185_0
              try clear hcz185_1
              try clear hcz185_2
              try clear hcz185_3
              try clear hcz185_4
              try clear hfz185_0
              try clear hfz185_1
              try clear hfz185_2
              try clear hfz185_3
              try clear hfz185_4
              obtain ⟨x66_7, x447_7, rfl, rfl, HA, HK7, HO_445, BK557, BK598, BK614, BK632, HB⟩ := hrel
              cases gk with
              | zero => exact absurd HA.out (by simp [laws_FnFirstCycles.l5])
              | succ k7 =>
               have H := HA.out
               clear HA
               simp only [laws_FnFirstCycles.l5] at H
               by_cases c188 : x447_7 < (t646.length : Int)
               rotate_left
               ·as_aux_lemma =>
                 rw [if_neg c188] at H
                 have c188b0 : decide (x447_7 < (t646.length : Int)) = false := decide_eq_false c188
                 clear c188
                 by_cases c197 : t649 = true
                 rotate_left
                 ·replace c197 := Bool.eq_false_iff.mpr c197
                  subst c197
                  rw [if_neg (show ¬ (false = true) by decide)] at H
                  exact absurd ((Option.some.inj H).trans HRT.out) (by decide)
                 subst c197
                 rw [if_pos rfl] at H
                 obtain rfl := Option.some.inj H
                 go_wp2
                 (try any_goals exact (xUn (by assumption)).elim)
                 go_ret
                 exact ⟨xr, xB4 GE557.out GE598.out GE614.out GE632.out HB.out⟩
               rw [if_pos c188] at H
               have c188b0 : decide (x447_7 < (t646.length : Int)) = true := decide_eq_true c188
               clear c188
               by_cases c189 : 0 ≤ x447_7
               rotate_left
               ·rw [if_neg c189] at H
                exact absurd H (by simp)
               rw [if_pos c189] at H
               have c189b0 : decide (0 ≤ x447_7) = true := decide_eq_true c189
               clear c189
               by_cases c190 : x447_7 < (t646.length : Int)
               rotate_left
               ·rw [if_neg c190] at H
                exact absurd H (by simp)
               rw [if_pos c190] at H
               have c190b0 : decide (x447_7 < (t646.length : Int)) = true := decide_eq_true c190
               clear c190
               have H' := xA H
               clear H
               have p650 : 0 ≤ (x447_7 : Int) := of_decide_eq_true (by first | (with_reducible assumption) | assumption)
               have q650 : x447_7 < (t646.length : Int) := of_decide_eq_true (by first | (with_reducible assumption) | assumption)
               obtain ⟨ad650, A650_0, c650_0, e650, hx650_0, hl650_0, hi650_0⟩ := at_L5 (Kd.N_reads' HO_445.out).2.2 x447_7 p650 q650
               cases e650
               obtain ⟨ce650, hce650, hMe650, hcc650⟩ := Kd.N_get HO_445.out [] x447_7 p650 (by first | exact q650 | exact of_decide_eq_true (by first | (with_reducible assumption) | assumption) | (have e_ := (Kd.N_reads' HO_445.out).1; omega))
               obtain ⟨ua650_0, uc650_0, rfl, ul650_0, ge650_0⟩ := Kd.FK_slice_open hMe650
               have hv650_0 := hcc650 0 _ rfl
               rw [Nat.add_zero, show ((Kd.slice 3 (Kd.int .i64))).sz = 1 from rfl, Nat.mul_one] at hv650_0
               replace hv650_0 := Option.some.inj (hv650_0.symm.trans hx650_0)
               injection hv650_0 with hva_ hvn_ hvc_
               rw [hva_] at ge650_0
               rw [hvc_] at ul650_0
               have HL650_0 := xA (show Kd.V (Kd.int .i64) 3 _ w.heap.size _ _ (rd_L5 t646 x447_7) from Kd.V_mk ul650_0 ge650_0)
               clear hva_ hvn_ hvc_ ge650_0 ul650_0
               clear hcc650 hce650
               have HR650_0 := xA hi650_0
               have HC650_0 := xA hl650_0
               clear hi650_0 hl650_0
               replace p650 := eq_true p650
               replace q650 := eq_true q650
               go_wp2
               (try any_goals exact (xUn (by assumption)).elim)
               go_loopg [66, 453] k7 (fun kq v66 v453 w' => ∃ (x66_8 : Int) (x453_8 : Int), v66 = .int .i64 x66_8 ∧ v453 = .int .i64 x453_8 ∧ Aside0 (laws_FnFirstCycles.l6 kq t615 t649 x66_8 t646 (t646.length : Int) x447_7 (rd_L5 t646 x447_7) ((rd_L5 t646 x447_7).length : Int) x453_8 = some r) ∧ Aside0 (kq ≤ k7) ∧ Aside0 (Kd.N (Kd.slice 3 (Kd.int .i64)) 24 w' w.heap.size (fun k_ => k_ ≠ gb557 ∧ k_ ≠ gb598 ∧ k_ ≠ gb614 ∧ k_ ≠ gb632) (.slice (some ad650) t646.length co187) t646) ∧ Aside0 (w'.heap[gb557]? = some (.cells #[.int .i64 t551, .int .i64 t552, .int .i64 t553, .int .i64 t554, .bool t555] 62 (0, 0))) ∧ Aside0 (w'.heap[gb598]? = some (.cells #[.int .i64 t591, .int .i64 t592, .int .i64 t593, .int .i64 t594, .bool t595] 62 (0, 0))) ∧ Aside0 (w'.heap[gb614]? = some (.cells #[.int .i64 t609, .int .i64 t610, .int .i64 t611, .int .i64 t612, .bool t613] 62 (0, 0))) ∧ Aside0 (w'.heap[gb632]? = some (.cells #[.int .i64 t625, .int .i64 t626, .int .i64 t627, .int .i64 t628, .bool t629] 62 (0, 0))) ∧ Aside0 (Kd.C (Kd.int .i64) w' A650_0 (rd_L5 t646 x447_7).length (rd_L5 t646 x447_7)) ∧ Aside0 (Below w.heap.size w w'))
               case atStart => exact ⟨(x66_7), (0), xs, xs, H', ⟨Nat.le_refl _⟩, ⟨by (with_reducible repeat (first | apply Kd.N_alloc | apply Kd.N_drewN | apply Kd.N_drew)); exact HO_445.out⟩, ⟨xK BK557.out⟩, ⟨xK BK598.out⟩, ⟨xK BK614.out⟩, ⟨xK BK632.out⟩, ⟨by repeat (first | (with_reducible exact HR650_0.out) | (with_reducible refine Kd.C_alloc ?_ _) | (with_reducible refine Kd.C_drewN ?_ _) | (with_reducible refine Kd.C_drew ?_) | exact HR650_0.out)⟩, ⟨xB4 GE557.out GE598.out GE614.out GE632.out HB.out⟩⟩
               case round =>
                clear H'
                try clear c188b0
                try clear c189b0
                try clear c190b0
                try clear hx650_0
                try clear p650
                try clear q650
                obtain ⟨x66_8, x453_8, rfl, rfl, HA, HK8, HO_445, BK557, BK598, BK614, BK632, HR650_0, HB⟩ := hrel
                cases gk with
                | zero => exact absurd HA.out (by simp [laws_FnFirstCycles.l6])
                | succ k8 =>
                 have H := HA.out
                 clear HA
                 simp only [laws_FnFirstCycles.l6] at H
                 by_cases c191 : x453_8 < ((rd_L5 t646 x447_7).length : Int)
                 rotate_left
                 ·as_aux_lemma =>
                   rw [if_neg c191] at H
                   have c191b0 : decide (x453_8 < ((rd_L5 t646 x447_7).length : Int)) = false := decide_eq_false c191
                   clear c191
                   have H' := xA H
                   clear H
                   go_wp2
                   (try any_goals exact (xUn (by assumption)).elim)
                   go_roundg k8
                   case measure => have := HJ9.out; have := HJ31.out; have := HJ81.out; have := HJ92.out; have := HJ121.out; have := HK6.out; have := HK7.out; have := HK8.out; omega
                   case rel => exact ⟨(x66_8), (wrap64 (x447_7 + 1)), xs, xs, H', ⟨by have := HJ9.out; have := HJ31.out; have := HJ81.out; have := HJ92.out; have := HJ121.out; have := HK6.out; have := HK7.out; have := HK8.out; omega⟩, ⟨by (with_reducible repeat (first | apply Kd.N_alloc | apply Kd.N_drewN | apply Kd.N_drew)); exact HO_445.out⟩, ⟨xK BK557.out⟩, ⟨xK BK598.out⟩, ⟨xK BK614.out⟩, ⟨xK BK632.out⟩, ⟨xB4 GE557.out GE598.out GE614.out GE632.out HB.out⟩⟩
                 as_aux_lemma =>
                  rw [if_pos c191] at H
                  have c191b0 : decide (x453_8 < ((rd_L5 t646 x447_7).length : Int)) = true := decide_eq_true c191
                  clear c191
                  by_cases c192 : 0 ≤ x453_8
                  rotate_left
                  ·rw [if_neg c192] at H
                   exact absurd H (by simp)
                  rw [if_pos c192] at H
                  have c192b0 : decide (0 ≤ x453_8) = true := decide_eq_true c192
                  clear c192
                  by_cases c193 : x453_8 < ((rd_L5 t646 x447_7).length : Int)
                  rotate_left
                  ·rw [if_neg c193] at H
                   exact absurd H (by simp)
                  rw [if_pos c193] at H
                  have c193b0 : decide (x453_8 < ((rd_L5 t646 x447_7).length : Int)) = true := decide_eq_true c193
                  clear c193
                  obtain ⟨t652, A194, H⟩ := xO H
                  (try dsimp only at H)
                  by_cases c195 : t652 > x66_8
                  rotate_left
                  ·rw [if_neg c195] at H
                   have c195b0 : decide (x66_8 < t652) = false := decide_eq_false c195
                   clear c195
                   have H' := xA H
                   clear H
                   have p651 : 0 ≤ (x453_8 : Int) := of_decide_eq_true (by first | (with_reducible assumption) | assumption)
                   have q651 : x453_8 < ((rd_L5 t646 x447_7).length : Int) := of_decide_eq_true (by first | (with_reducible assumption) | assumption)
                   obtain ⟨ad651, e651, hx651_0⟩ := Kd.at_int HR650_0.out x453_8 p651 q651
                   cases e651
                   (try replace hx651_0 := (HB.out.cell (World.block_lt_of_cell? w _ hx651_0)).trans hx651_0)
                   replace p651 := eq_true p651
                   replace q651 := eq_true q651
                   go_wp2_with (first | (refine xG (some 458) Try.func46 #[.int .i64 (rd (rd_L5 t646 x447_7) x453_8)] ?_; (with_reducible refine (laws_uAbs.calls (rd (rd_L5 t646 x447_7) x453_8) t652 _ A194.out).mono ?_); rintro e w' ⟨rfl, ⟨nd, rfl⟩⟩; refine ⟨_, rfl, ?_⟩))
                   (try any_goals exact (xUn (by assumption)).elim)
                   go_roundg k8
                   case measure => have := HJ9.out; have := HJ31.out; have := HJ81.out; have := HJ92.out; have := HJ121.out; have := HK6.out; have := HK7.out; have := HK8.out; omega
                   case rel => exact ⟨(x66_8), (wrap64 (x453_8 + 1)), xs, xs, H', ⟨by have := HJ9.out; have := HJ31.out; have := HJ81.out; have := HJ92.out; have := HJ121.out; have := HK6.out; have := HK7.out; have := HK8.out; omega⟩, ⟨by (with_reducible repeat (first | apply Kd.N_alloc | apply Kd.N_drewN | apply Kd.N_drew)); exact HO_445.out⟩, ⟨xK BK557.out⟩, ⟨xK BK598.out⟩, ⟨xK BK614.out⟩, ⟨xK BK632.out⟩, ⟨by repeat (first | (with_reducible exact HR650_0.out) | (with_reducible refine Kd.C_alloc ?_ _) | (with_reducible refine Kd.C_drewN ?_ _) | (with_reducible refine Kd.C_drew ?_) | exact HR650_0.out)⟩, ⟨xB4 GE557.out GE598.out GE614.out GE632.out HB.out⟩⟩
                  rw [if_pos c195] at H
                  have c195b0 : decide (x66_8 < t652) = true := decide_eq_true c195
                  clear c195
                  obtain ⟨t653, A196, H⟩ := xO H
                  (try dsimp only at H)
                  have H' := xA H
                  clear H
                  have p651 : 0 ≤ (x453_8 : Int) := of_decide_eq_true (by first | (with_reducible assumption) | assumption)
                  have q651 : x453_8 < ((rd_L5 t646 x447_7).length : Int) := of_decide_eq_true (by first | (with_reducible assumption) | assumption)
                  obtain ⟨ad651, e651, hx651_0⟩ := Kd.at_int HR650_0.out x453_8 p651 q651
                  cases e651
                  (try replace hx651_0 := (HB.out.cell (World.block_lt_of_cell? w _ hx651_0)).trans hx651_0)
                  replace p651 := eq_true p651
                  replace q651 := eq_true q651
                  go_wp2_with (first | (refine xq rfl ?_; first | (refine xG (some 458) Try.func46 #[.int .i64 (rd (rd_L5 t646 x447_7) x453_8)] ?_; (with_reducible refine (laws_uAbs.calls (rd (rd_L5 t646 x447_7) x453_8) t652 _ A194.out).mono ?_); rintro e w' ⟨rfl, ⟨nd, rfl⟩⟩; refine ⟨_, rfl, ?_⟩) | (refine xG (some 462) Try.func46 #[.int .i64 (rd (rd_L5 t646 x447_7) x453_8)] ?_; (with_reducible refine (laws_uAbs.calls (rd (rd_L5 t646 x447_7) x453_8) t653 _ A196.out).mono ?_); rintro e w' ⟨rfl, ⟨nd, rfl⟩⟩; refine ⟨_, rfl, ?_⟩)))
                  (try any_goals exact (xUn (by assumption)).elim)
                  go_roundg k8
                  case measure => have := HJ9.out; have := HJ31.out; have := HJ81.out; have := HJ92.out; have := HJ121.out; have := HK6.out; have := HK7.out; have := HK8.out; omega
                  case rel => exact ⟨(t653), (wrap64 (x453_8 + 1)), xs, xs, H', ⟨by have := HJ9.out; have := HJ31.out; have := HJ81.out; have := HJ92.out; have := HJ121.out; have := HK6.out; have := HK7.out; have := HK8.out; omega⟩, ⟨by (with_reducible repeat (first | apply Kd.N_alloc | apply Kd.N_drewN | apply Kd.N_drew)); exact HO_445.out⟩, ⟨xK BK557.out⟩, ⟨xK BK598.out⟩, ⟨xK BK614.out⟩, ⟨xK BK632.out⟩, ⟨by repeat (first | (with_reducible exact HR650_0.out) | (with_reducible refine Kd.C_alloc ?_ _) | (with_reducible refine Kd.C_drewN ?_ _) | (with_reducible refine Kd.C_drew ?_) | exact HR650_0.out)⟩, ⟨xB4 GE557.out GE598.out GE614.out GE632.out HB.out⟩⟩
/-- THE ONE PURE STATEMENT of laws_FnFirstCycles: yours. -/
def laws_FnFirstCycles.Pure : Prop := ∀ (l0 : List Int) (l1 : List Int), l0.length ≤ maxLen → l0.length * 1 ≤ 140737488351232 → (∀ x ∈ l0, (Lit.int .u8 x).wf = true) → l1.length ≤ maxLen → l1.length * 1 ≤ 140737488351232 → (∀ x ∈ l1, (Lit.int .u8 x).wf = true) → ∃ k, laws_FnFirstCycles.f k l0 l1 = some true
theorem laws_FnFirstCycles.walk (P : laws_FnFirstCycles.Pure) (a0 : Option Addr) (len0 cap0 : Nat) (z0 : List Int) (a1 : Option Addr) (len1 cap1 : Nat) (z1 : List Int) (w : World) (w0 : (a0 = none ∧ len0 = 0 ∧ cap0 = 0 ∧ z0 = []) ∨ ∃ x, a0 = some x ∧ len0 ≤ cap0 ∧ cap0 ≤ maxLen ∧ z0.length = cap0 ∧ (∀ i, i < z0.length → w.cell? (x.add i) = some (.int .u8 (z0.getD i 0))) ∧ ∀ n ∈ z0, (Lit.int .u8 n).wf = true) (y0 : len0 * 1 ≤ 140737488351232) (w1 : (a1 = none ∧ len1 = 0 ∧ cap1 = 0 ∧ z1 = []) ∨ ∃ x, a1 = some x ∧ len1 ≤ cap1 ∧ cap1 ≤ maxLen ∧ z1.length = cap1 ∧ (∀ i, i < z1.length → w.cell? (x.add i) = some (.int .u8 (z1.getD i 0))) ∧ ∀ n ∈ z1, (Lit.int .u8 n).wf = true) (y1 : len1 * 1 ≤ 140737488351232) :
  Calls Try.prog 8 #[.slice a0 len0 cap0, .slice a1 len1 cap1] w fun e w' => e = .returned (.bool true) ∧ Below w.heap.size w w' := by
 obtain ⟨l0, rfl, hr0, hm0, hw0, hc0⟩ := ReadsInt.ofRowC w0
 obtain ⟨l1, rfl, hr1, hm1, hw1, hc1⟩ := ReadsInt.ofRowC w1
 obtain ⟨k, h⟩ := P l0 l1 hm0 y0 hw0 hm1 y1 hw1
 refine (laws_FnFirstCycles.calls k _ _ l0 _ _ l1 true w (Kd.C_of_reads (d := (0 : Int)) (h1 := fun _ => rfl) hr0) hc0 (Kd.C_of_reads (d := (0 : Int)) (h1 := fun _ => rfl) hr1) hc1 h rfl).mono ?_
 rintro e w' ⟨rfl, hd⟩
 exact ⟨rfl, hd⟩

end Go.Proofs.Ytjplcongellcmaa.PFnFirstCycles
