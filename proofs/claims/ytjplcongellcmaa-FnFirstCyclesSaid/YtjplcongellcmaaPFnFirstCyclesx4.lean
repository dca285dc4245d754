/- What each Go function that the statement FnFirstCycles reaches answers, proved call by call. No condition beyond those that the theorems print. (Written by wip/tools/xprint.py of this repo, over the kit's print.) -/
import Derived.Test.YtjplcongellcmaaPFnFirstCyclesx0
import Derived.Test.YtjplcongellcmaaPFnFirstCyclesx1
import Derived.Test.YtjplcongellcmaaPFnFirstCyclesx2
import Derived.Test.YtjplcongellcmaaPFnFirstCyclesx3
namespace Go.Proofs.Ytjplcongellcmaa.PFnFirstCycles
open Go.RowKit Go.Proofs.YtjplcongellcmaaW.PrintWords Go.Proofs.YtjplcongellcmaaW.PrintLast Go.Proofs.YtjplcongellcmaaW.PrintMore
attribute [local go_sem] max2_int min2_int max_two min_two max_three min_three max_four min_four   -- for this text's walks alone
set_option linter.unusedVariables false
set_option linter.unusedSimpArgs false

/-! ### spec_l1Cur_sample: function 301 -/
def spec_l1Cur_sample.f (s0_0 : List Int) (s0_1 : Int) (s0_2 : Int) (a1 : Int) : Option (Int × Int × Int) := (spec_l1Cur_one.f s0_0 s0_1 s0_2 14).bind fun bt209 => (if bt209.1 = true then ((spec_l1Cur_among.f s0_0 bt209.2.1 bt209.2.2 (([100000, (-100000), 100001, (-4611686018427387904)] : List Int))).bind fun bt215 => (some (bt215.1, bt215.2.1, bt215.2.2))) else ((spec_l1Cur_pick.f s0_0 bt209.2.1 bt209.2.2 (wrap64 ((wrap64 (2 * a1)) + 1))).bind fun bt218 => (some (wrap64 (bt218.1 - a1), bt218.2.1, bt218.2.2))))
set_option maxHeartbeats 200000000 in
set_option maxRecDepth 100000 in
theorem spec_l1Cur_sample.calls (g : Nat) (s0_0 : List Int) (s0_1 : Int) (s0_2 : Int) (a1 : Int) (r1 : Int) (r2 : Int) (r3 : Int) (w0 w : World) (hI : IsS129 w0 w g s0_0 s0_1 s0_2) (hB : Below w0.heap.size w0 w) (h : spec_l1Cur_sample.f s0_0 s0_1 s0_2 a1 = some (r1, r2, r3)) :
  Calls Try.prog 301 #[.pointer (some ⟨g, 0, none⟩), .int .i64 a1] w fun e w' => e = .returned (.int .i64 r1) ∧ IsS129 w0 w' g s0_0 r2 r3 ∧ Below w0.heap.size w0 w' ∧ KeepBut w w' g none := by
 have HI0 := xA hI
 have HK := xA (KeepBut.refl w g none)
 have HL := xA hB.size
 clear hI
 have HW0 := xA hB.size
 have HB := xA hB
 clear hB
 have H : ((spec_l1Cur_one.f s0_0 s0_1 s0_2 14).bind fun bt209 => (if bt209.1 = true then ((spec_l1Cur_among.f s0_0 bt209.2.1 bt209.2.2 (([100000, (-100000), 100001, (-4611686018427387904)] : List Int))).bind fun bt215 => (some (bt215.1, bt215.2.1, bt215.2.2))) else ((spec_l1Cur_pick.f s0_0 bt209.2.1 bt209.2.2 (wrap64 ((wrap64 (2 * a1)) + 1))).bind fun bt218 => (some (wrap64 (bt218.1 - a1), bt218.2.1, bt218.2.2))))) = some (r1, r2, r3) := h
 clear h
 replace H := Option.bind_eq_some_iff.mp H
 obtain ⟨⟨t209, t210, t211⟩, A30, H⟩ := H
 (try dsimp only at H)
 have A3 := xA A30
 clear A30
 by_cases c4 : t209 = true
 rotate_left
 ·replace c4 := Bool.eq_false_iff.mpr c4
  subst c4
  rw [if_neg (show ¬ (false = true) by decide)] at H
  replace H := Option.bind_eq_some_iff.mp H
  obtain ⟨⟨t218, t219, t220⟩, A110, H⟩ := H
  (try dsimp only at H)
  have A11 := xA A110
  clear A110
  simp only [Option.some.injEq, Prod.mk.injEq] at H
  obtain ⟨rfl, rfl, rfl⟩ := H
  go_enter Try.func301, Try.ntmps301
  go_wp2_with (first | (refine xq rfl ?_; first | (refine xG (some 6) Try.func227 #[.pointer (some ⟨g, 0, none⟩), .int .i64 14] ?_; (with_reducible refine (spec_l1Cur_one.calls g s0_0 s0_1 s0_2 14 false t210 t211 w0 _ ?side1 ?side2 A3.out).mono ?_); (case side1 => exact xJ129_12_0 HI0.out); (case side2 => exact xB1 (IsS129.ge HI0.out) HB.out); rintro e w12 ⟨rfl, hi, hb, hk⟩; refine ⟨_, rfl, ?_⟩; replace HK := xA (KeepBut.trans (xH0 HK.out) hk (.inl rfl)); replace HB := xA (hb); replace HI0 := xA (hi); (try clear hb hk hi)) | (refine xG (some 14) Try.func229 #[.pointer (some ⟨g, 0, none⟩), .int .i64 (wrap64 ((wrap64 (2 * a1)) + 1))] ?_; (with_reducible refine (spec_l1Cur_pick.calls g s0_0 t210 t211 (wrap64 ((wrap64 (2 * a1)) + 1)) t218 t219 t220 w0 _ ?side1 ?side2 A11.out).mono ?_); (case side1 => exact xJ129_12_0 HI0.out); (case side2 => exact xB1 (IsS129.ge HI0.out) HB.out); rintro e w13 ⟨rfl, hi, hb, hk⟩; refine ⟨_, rfl, ?_⟩; replace HK := xA (KeepBut.trans (xH0 HK.out) hk (.inl rfl)); replace HB := xA (hb); replace HI0 := xA (hi); (try clear hb hk hi))))
  go_ret
  exact ⟨xr, xJ129_12_0 HI0.out, xB1 (IsS129.ge HI0.out) HB.out, xH0 HK.out⟩

 subst c4
 rw [if_pos rfl] at H
 obtain ⟨y212, hy212⟩ : ∃ y_ : List Int, y_ = (([100000, (-100000), 100001, (-4611686018427387904)] : List Int)) := ⟨_, rfl⟩
 replace H : ((spec_l1Cur_among.f s0_0 t210 t211 y212).bind fun bt215 => (some (bt215.1, bt215.2.1, bt215.2.2))) = some (r1, r2, r3) := by first | (rw [hy212]; with_reducible exact H) | (have H2_ := (Option.bind_some _ _).symm.trans H; rw [hy212]; with_reducible exact H2_) | (have H2_ := (Option.bind_some _ _).symm.trans H; with_reducible exact H2_) | with_reducible exact H | (rw [hy212]; exact H) | exact H
 have Ny212 := xA hy212
 clear hy212
 replace H := Option.bind_eq_some_iff.mp H
 obtain ⟨⟨t215, t216, t217⟩, A50, H⟩ := H
 (try dsimp only at H)
 have A5 := xA A50
 clear A50
 simp only [Option.some.injEq, Prod.mk.injEq] at H
 obtain ⟨rfl, rfl, rfl⟩ := H
 go_enter Try.func301, Try.ntmps301
 go_wp2_with (first | (refine xq rfl ?_; first | (refine xG (some 6) Try.func227 #[.pointer (some ⟨g, 0, none⟩), .int .i64 14] ?_; (with_reducible refine (spec_l1Cur_one.calls g s0_0 s0_1 s0_2 14 true t210 t211 w0 _ ?side1 ?side2 A3.out).mono ?_); (case side1 => exact xJ129_12_0 HI0.out); (case side2 => exact xB1 (IsS129.ge HI0.out) HB.out); rintro e w6 ⟨rfl, hi, hb, hk⟩; refine ⟨_, rfl, ?_⟩; replace HK := xA (KeepBut.trans (xH0 HK.out) hk (.inl rfl)); replace HB := xA (hb); replace HI0 := xA (hi); (try clear hb hk hi)) | (refine xG (some 9) Try.func228 #[.pointer (some ⟨g, 0, none⟩), .slice Ao9 y212.length co9] ?_; (with_reducible refine (spec_l1Cur_among.calls g s0_0 t210 t211 _ _ y212 t215 t216 t217 w0 _ ?side1 ?side2 ?side3 ?side4 ?side5 A5.out).mono ?_); (case side1 => exact xJ129_12_0 HI0.out); (case side2 => exact xB1 (IsS129.ge HI0.out) HB.out); (case side3 => exact xC ((Kd.R_reads' HO214.out).2.2)); (case side4 => exact (Kd.R_reads' HO214.out).2.1); (case side5 => exact far_slice (IsS129.own_ne HI0.out HO214.out (by decide))); rintro e w10 ⟨rfl, hi, hb, hk⟩; refine ⟨_, rfl, ?_⟩; replace HO214 := xA (Kd.R_mono (Kd.R_keep (IsS129.apart (show IsS129 w0 _ g s0_0 t210 t211 from xJ129_12_0 HI0.out) (xR HO214.out) (by decide)) hk (fun _ h => h.2)) (fun _ h => h.1)); replace HK := xA (KeepBut.trans (xH0 HK.out) hk (.inl rfl)); replace HB := xA (hb); replace HI0 := xA (hi); (try clear hb hk hi))) | ((with_reducible refine gate_dst (N := 8) rfl ?_); refine Kd.R_lit (Kd.int .i64) _ 3 ?hg (N := 8) ?hd (xs := ([100000, (-100000), 100001, (-4611686018427387904)] : List Int)) (inner := [.int .i64 100000, .int .i64 (-100000), .int .i64 100001, .int .i64 (-4611686018427387904)]) (ok := fun _ => True) (okp := fun _ => True) ?hr ?hp (fun _ hk => hk) trivial (Below.refl _ _) (Nat.le_refl _) (by simp) ?_; (case hd => rfl); (case hg => rfl); (case hr => first | (go_simp; done) | (go_simp; rfl)); (case hp => exact (Reps.one (show Kd.M (Kd.int .i64) _ _ _ 100000 [.int .i64 100000] from rfl) (Reps.one (show Kd.M (Kd.int .i64) _ _ _ (-100000) [.int .i64 (-100000)] from rfl) (Reps.one (show Kd.M (Kd.int .i64) _ _ _ 100001 [.int .i64 100001] from rfl) (Reps.one (show Kd.M (Kd.int .i64) _ _ _ (-4611686018427387904) [.int .i64 (-4611686018427387904)] from rfl) (Reps.none _ _)))))); intro v213 w7 ho8 hb hg_ hnew_; clear hg_ hnew_; (first | rw [← Ny212.out] at ho8 | (simp only [Int.reduceToNat] at ho8; rw [← Ny212.out] at ho8)); have HO214 := xA (Kd.R_lower ho8 (keep_size (w := w) (g := g) (row := none) (xH0 HK.out))); replace HK := xA (KeepBut.trans (xH0 HK.out) (KeepBut.of_below hb g none) (.inl rfl)); replace HB := xA (below_step (xB1 (IsS129.ge HI0.out) HB.out) hb); replace HI0 := xA (IsS129.below (xJ129_12_0 HI0.out) hb); clear hb ho8; obtain ⟨Ao9, co9, eo9⟩ := Kd.R_slice HO214.out; subst eo9))
 go_ret
 exact ⟨xr, xJ129_12_0 HI0.out, xB1 (IsS129.ge HI0.out) HB.out, xH0 HK.out⟩
/-! ### spec_DrawRestsOf: function 303 -/
def spec_DrawRestsOf.f (l0 : List Int) : Option (Int × Int × Int × Int × Bool × Int) := (spec_l1Cur_first.f l0 0 0 8).bind fun bt223 => ((spec_l1Cur_sample.f l0 bt223.2.2.2.2.2.1 bt223.2.2.2.2.2.2 9).bind fun bt230 => (some (bt223.1, bt223.2.1, bt223.2.2.1, bt223.2.2.2.1, bt223.2.2.2.2.1, bt230.1)))
set_option maxHeartbeats 200000000 in
set_option maxRecDepth 100000 in
theorem spec_DrawRestsOf.calls (A0 : Option Addr) (c0 : Nat) (l0 : List Int) (r1 : Int) (r2 : Int) (r3 : Int) (r4 : Int) (r5 : Bool) (r6 : Int) (w : World) (hr0 : Kd.C (Kd.int .u8) w A0 l0.length l0) (hc0 : l0.length ≤ c0) (h : spec_DrawRestsOf.f l0 = some (r1, r2, r3, r4, r5, r6)) :
  Calls Try.prog 303 #[.slice A0 l0.length c0] w fun e w' => e = .returned (.tuple #[.agg #[.int .i64 r1, .int .i64 r2, .int .i64 r3, .int .i64 r4, .bool r5], .int .i64 r6]) ∧ Below w.heap.size w w' := by
 have hu62 := Try.underlying62
 have hu129 := Try.underlying129
 have HR0 := xA hr0
 have HC0 := xA hc0
 clear hr0 hc0
 have HB := xA (Below.refl w.heap.size w)
 have H : ((spec_l1Cur_first.f l0 0 0 8).bind fun bt223 => ((spec_l1Cur_sample.f l0 bt223.2.2.2.2.2.1 bt223.2.2.2.2.2.2 9).bind fun bt230 => (some (bt223.1, bt223.2.1, bt223.2.2.1, bt223.2.2.2.1, bt223.2.2.2.2.1, bt230.1)))) = some (r1, r2, r3, r4, r5, r6) := h
 clear h
 replace H := Option.bind_eq_some_iff.mp H
 obtain ⟨⟨t223, t224, t225, t226, t227, t228, t229⟩, A20, H⟩ := H
 (try dsimp only at H)
 have A2 := xA A20
 clear A20
 replace H := Option.bind_eq_some_iff.mp H
 obtain ⟨⟨t230, t231, t232⟩, A30, H⟩ := H
 (try dsimp only at H)
 have A3 := xA A30
 clear A30
 simp only [Option.some.injEq, Prod.mk.injEq] at H
 obtain ⟨rfl, rfl, rfl, rfl, rfl, rfl⟩ := H
 go_enter Try.func303, Try.ntmps303
 go_wp2_with (first | (refine xq rfl ?_; first | (refine xG (some 9) Try.func281 #[.pointer (some ⟨gb222, 0, none⟩), .int .i64 8] ?_; (with_reducible refine (spec_l1Cur_first.calls gb222 l0 0 0 8 t223 t224 t225 t226 t227 t228 t229 w _ ?side1 ?side2 A2.out).mono ?_); (case side1 => exact xJ129_12_1 NB222_221.out HI222.out); (case side2 => exact xB2 (IsS129.ge HI222.out) GE221.out HB.out); rintro e w6 ⟨rfl, hi, hb, hk⟩; refine ⟨_, rfl, ?_⟩; replace BK221 := xkk hk BK221 NB221_222; replace HB := xA (hb); replace HI222 := xA (hi); (try clear hb hk hi)) | (refine xG (some 11) Try.func301 #[.pointer (some ⟨gb222, 0, none⟩), .int .i64 9] ?_; (with_reducible refine (spec_l1Cur_sample.calls gb222 l0 t228 t229 9 t230 t231 t232 w _ ?side1 ?side2 A3.out).mono ?_); (case side1 => exact xJ129_12_1 NB222_221.out HI222.out); (case side2 => exact xB2 (IsS129.ge HI222.out) GE221.out HB.out); rintro e w7 ⟨rfl, hi, hb, hk⟩; refine ⟨_, rfl, ?_⟩; replace BK221 := xkk hk BK221 NB221_222; replace HB := xA (hb); replace HI222 := xA (hi); (try clear hb hk hi); have hnb8 := NB221_222.out; have hnc8 := NB222_221.out; obtain ⟨hcz9_0, hcz9_1, hcz9_2, hcz9_3, hcz9_4, hfz9_0, hfz9_1, hfz9_2, hfz9_3, hfz9_4⟩ := xZ5 BK221.out)) | (refine xg 2 rfl ?_; refine xV 2 #[.int .i64 0, .int .i64 0, .int .i64 0, .int .i64 0, .bool false] 62 ?_; intro gb221 hg w4 hbox hb; have BK221 := xA (hbox); have GW221 := xgw hg (below_size (xB HB.out)); have GE221 := GW221; replace HB := xA (below_step (xB HB.out) hb); clear hb hbox hg) | (refine xg 7 rfl ?_; refine xV 7 #[.slice A0 l0.length c0, .int .i64 0, .int .u64 0] 129 ?_; intro gb222 hg w5 hbox hb; have HI222 := xA ((show IsS129 w _ gb222 l0 0 0 from ⟨_, _, hbox, (by rw [hg]; exact (below_size (xB1 GE221.out HB.out)) : w.heap.size ≤ gb222), HR0.out⟩)); replace HB := xA (below_step (xB1 GE221.out HB.out) hb); have NB221_222 := xnl hg BK221; have NB222_221 := xng hg BK221; replace BK221 := xkb BK221 hb; clear hb hbox hg))
 refine bodyPost_ret (results_ct rfl _ _ gb221 62 #[.int .i64 t223, .int .i64 t224, .int .i64 t225, .int .i64 t226, .bool t227] (0, 0) _ rfl (xPt0 BK221.out) Try.underlying62 rfl (by kernel_rfl)) rfl ?_
 exact ⟨xr, xB2 (IsS129.ge HI222.out) GE221.out HB.out⟩

/-! ### spec_DrawCyclesOfFirst: function 105 -/
def spec_DrawCyclesOfFirst.f (l0 : List Int) : Option (Int × Int × Int × Int × Bool × Int) := (spec_DrawRestsOf.f l0).bind fun bt234 => (some (bt234.1, bt234.2.1, bt234.2.2.1, bt234.2.2.2.1, bt234.2.2.2.2.1, bt234.2.2.2.2.2))
set_option maxHeartbeats 200000000 in
set_option maxRecDepth 100000 in
theorem spec_DrawCyclesOfFirst.calls (A0 : Option Addr) (c0 : Nat) (l0 : List Int) (r1 : Int) (r2 : Int) (r3 : Int) (r4 : Int) (r5 : Bool) (r6 : Int) (w : World) (hr0 : Kd.C (Kd.int .u8) w A0 l0.length l0) (hc0 : l0.length ≤ c0) (h : spec_DrawCyclesOfFirst.f l0 = some (r1, r2, r3, r4, r5, r6)) :
  Calls Try.prog 105 #[.slice A0 l0.length c0] w fun e w' => e = .returned (.tuple #[.agg #[.int .i64 r1, .int .i64 r2, .int .i64 r3, .int .i64 r4, .bool r5], .int .i64 r6]) ∧ Below w.heap.size w w' := by
 have hu62 := Try.underlying62
 have HR0 := xA hr0
 have HC0 := xA hc0
 clear hr0 hc0
 have HB := xA (Below.refl w.heap.size w)
 have H : ((spec_DrawRestsOf.f l0).bind fun bt234 => (some (bt234.1, bt234.2.1, bt234.2.2.1, bt234.2.2.2.1, bt234.2.2.2.2.1, bt234.2.2.2.2.2))) = some (r1, r2, r3, r4, r5, r6) := h
 clear h
 replace H := Option.bind_eq_some_iff.mp H
 obtain ⟨⟨t234, t235, t236, t237, t238, t239⟩, A20, H⟩ := H
 (try dsimp only at H)
 have A2 := xA A20
 clear A20
 simp only [Option.some.injEq, Prod.mk.injEq] at H
 obtain ⟨rfl, rfl, rfl, rfl, rfl, rfl⟩ := H
 go_enter Try.func105, Try.ntmps105
 go_wp2_with (first | (refine xg 2 rfl ?_; refine xV 2 #[.int .i64 0, .int .i64 0, .int .i64 0, .int .i64 0, .bool false] 62 ?_; intro gb233 hg w3 hbox hb; have BK233 := xA (hbox); have GW233 := xgw hg (below_size (xB HB.out)); have GE233 := GW233; replace HB := xA (below_step (xB HB.out) hb); clear hb hbox hg) | (refine xG (some 5) Try.func303 #[.slice A0 l0.length c0] ?_; (with_reducible refine (spec_DrawRestsOf.calls _ _ l0 t234 t235 t236 t237 t238 t239 _ ?side1 ?side2 A2.out).mono ?_); (case side1 => exact xC (Kd.C_below HR0.out HB.out)); (case side2 => exact HC0.out); rintro e w4 ⟨rfl, hb⟩; refine ⟨_, rfl, ?_⟩; replace BK233 := xkb BK233 hb; replace HB := xA (below_step (xB1 GE233.out HB.out) hb); (try clear hb); replace hz233 := blk_cell BK233.out; replace hy233 := blk_frozen BK233.out))
 refine bodyPost_ret (results_ct rfl _ _ gb233 62 #[.int .i64 t234, .int .i64 t235, .int .i64 t236, .int .i64 t237, .bool t238] (0, 0) _ rfl (xPt0 BK233.out) Try.underlying62 rfl (by kernel_rfl)) rfl ?_
 exact ⟨xr, xB1 GE233.out HB.out⟩

/-! ### impl_First_isScanned: function 304 -/
def impl_First_isScanned.f (a0_0 : Int) (a0_1 : Int) (a0_2 : Int) (a0_3 : Int) (a0_4 : Bool) (a1 : Int) : Option (Bool) := (impl_isFirst.f a0_0 a0_1 a0_2 a0_3 a0_4).bind fun t241 => (if t241 = true then (if a0_3 ≤ 10 then ((impl_isSample.f a1).bind fun t242 => (some t242)) else (some false)) else (some false))
set_option maxHeartbeats 200000000 in
set_option maxRecDepth 100000 in
theorem impl_First_isScanned.calls (a0_0 : Int) (a0_1 : Int) (a0_2 : Int) (a0_3 : Int) (a0_4 : Bool) (a1 : Int) (r : Bool) (w : World) (h : impl_First_isScanned.f a0_0 a0_1 a0_2 a0_3 a0_4 a1 = some r) :
  Calls Try.prog 304 #[.agg #[.int .i64 a0_0, .int .i64 a0_1, .int .i64 a0_2, .int .i64 a0_3, .bool a0_4], .int .i64 a1] w fun e w' => e = .returned (.bool r) ∧ Below w.heap.size w w' := by
 have hu62 := Try.underlying62
 have HB := xA (Below.refl w.heap.size w)
 have H : ((impl_isFirst.f a0_0 a0_1 a0_2 a0_3 a0_4).bind fun t241 => (if t241 = true then (if a0_3 ≤ 10 then ((impl_isSample.f a1).bind fun t242 => (some t242)) else (some false)) else (some false))) = some r := h
 clear h
 obtain ⟨t241, A3, H⟩ := xO H
 (try dsimp only at H)
 by_cases c4 : t241 = true
 rotate_left
 ·replace c4 := Bool.eq_false_iff.mpr c4
  subst c4
  rw [if_neg (show ¬ (false = true) by decide)] at H
  obtain rfl := Option.some.inj H
  go_enter Try.func304, Try.ntmps304
  go_wp2_with (first | (refine xg 2 rfl ?_; refine xV 2 #[.int .i64 a0_0, .int .i64 a0_1, .int .i64 a0_2, .int .i64 a0_3, .bool a0_4] 62 ?_; intro gb240 hg w15 hbox hb; have BK240 := xA (hbox); have GW240 := xgw hg (below_size (xB HB.out)); have GE240 := GW240; replace HB := xA (below_step (xB HB.out) hb); clear hb hbox hg; replace hz240 := blk_cell BK240.out; replace hy240 := blk_frozen BK240.out) | (refine xG (some 6) Try.func294 #[.agg #[.int .i64 a0_0, .int .i64 a0_1, .int .i64 a0_2, .int .i64 a0_3, .bool a0_4]] ?_; (with_reducible refine (impl_isFirst.calls a0_0 a0_1 a0_2 a0_3 a0_4 false _ A3.out).mono ?_); rintro e w17 ⟨rfl, hb⟩; refine ⟨_, rfl, ?_⟩; replace BK240 := xkb BK240 hb; replace HB := xA (below_step (xB1 GE240.out HB.out) hb); (try clear hb)))
  go_ret
  exact ⟨xr, xB1 GE240.out HB.out⟩

 subst c4
 rw [if_pos rfl] at H
 by_cases c5 : a0_3 ≤ 10
 rotate_left
 ·rw [if_neg c5] at H
  have c5b0 : decide (a0_3 ≤ 10) = false := decide_eq_false c5
  clear c5
  obtain rfl := Option.some.inj H
  go_enter Try.func304, Try.ntmps304
  go_wp2_with (first | (refine xg 2 rfl ?_; refine xV 2 #[.int .i64 a0_0, .int .i64 a0_1, .int .i64 a0_2, .int .i64 a0_3, .bool a0_4] 62 ?_; intro gb240 hg w11 hbox hb; have BK240 := xA (hbox); have GW240 := xgw hg (below_size (xB HB.out)); have GE240 := GW240; replace HB := xA (below_step (xB HB.out) hb); clear hb hbox hg; obtain ⟨hcz12_0, hcz12_1, hcz12_2, hcz12_3, hcz12_4, hfz12_0, hfz12_1, hfz12_2, hfz12_3, hfz12_4⟩ := xZ5 BK240.out) | (refine xG (some 6) Try.func294 #[.agg #[.int .i64 a0_0, .int .i64 a0_1, .int .i64 a0_2, .int .i64 a0_3, .bool a0_4]] ?_; (with_reducible refine (impl_isFirst.calls a0_0 a0_1 a0_2 a0_3 a0_4 true _ A3.out).mono ?_); rintro e w13 ⟨rfl, hb⟩; refine ⟨_, rfl, ?_⟩; replace BK240 := xkb BK240 hb; replace HB := xA (below_step (xB1 GE240.out HB.out) hb); (try clear hb); replace hz240 := blk_cell BK240.out; replace hy240 := blk_frozen BK240.out))
  go_ret
  exact ⟨xr, xB1 GE240.out HB.out⟩
 rw [if_pos c5] at H
 have c5b0 : decide (a0_3 ≤ 10) = true := decide_eq_true c5
 clear c5
 obtain ⟨t242, A6, H⟩ := xO H
 (try dsimp only at H)
 obtain rfl := Option.some.inj H
 go_enter Try.func304, Try.ntmps304
 go_wp2_with (first | (refine xg 2 rfl ?_; refine xV 2 #[.int .i64 a0_0, .int .i64 a0_1, .int .i64 a0_2, .int .i64 a0_3, .bool a0_4] 62 ?_; intro gb240 hg w7 hbox hb; have BK240 := xA (hbox); have GW240 := xgw hg (below_size (xB HB.out)); have GE240 := GW240; replace HB := xA (below_step (xB HB.out) hb); clear hb hbox hg; replace hz240 := blk_cell BK240.out; replace hy240 := blk_frozen BK240.out) | (refine xG (some 6) Try.func294 #[.agg #[.int .i64 a0_0, .int .i64 a0_1, .int .i64 a0_2, .int .i64 a0_3, .bool a0_4]] ?_; (with_reducible refine (impl_isFirst.calls a0_0 a0_1 a0_2 a0_3 a0_4 true _ A3.out).mono ?_); rintro e w9 ⟨rfl, hb⟩; refine ⟨_, rfl, ?_⟩; replace BK240 := xkb BK240 hb; replace HB := xA (below_step (xB1 GE240.out HB.out) hb); (try clear hb); obtain ⟨hcz10_0, hcz10_1, hcz10_2, hcz10_3, hcz10_4, hfz10_0, hfz10_1, hfz10_2, hfz10_3, hfz10_4⟩ := xZ5 BK240.out) | (go_at_call 300; (with_reducible refine (impl_isSample.calls a1 t242 _ A6.out).mono ?_); rintro e w' ⟨rfl, ⟨nd, rfl⟩⟩))
 go_ret
 exact ⟨xr, xB1 GE240.out HB.out⟩
-- NOT PRINTED: function 308 (impl_Word_all)

-- NOT PRINTED: function 386 (impl_First_cycles_c1)

theorem impl_First_cycles_xRstep {α : Type} {d : Kd α} {e base : Nat} {w w1 : World} {ok : Nat → Prop} {v : Value} {xs : List α} (h : d.R e w base ok v xs) (hm : ∀ k, ok k → k < w.heap.size → w1.heap[k]? = w.heap[k]?) : d.R e w1 base ok v xs :=
 Kd.R_mono (Kd.R_move (Kd.R_bound h) (fun k hk => hm k hk.1 hk.2.2.1)) (fun _ hk => hk.1)
theorem impl_First_cycles_xZ5c {w : World} {g : Nat} {t : TypeId} {v0 v1 v2 v3 v4 : Value} (h : w.heap[g]? = some (.cells #[v0, v1, v2, v3, v4] t (0, 0))) : w.cell? ⟨g, 0, none⟩ = some v0 ∧ w.cell? ⟨g, 1, none⟩ = some v1 ∧ w.cell? ⟨g, 2, none⟩ = some v2 ∧ w.cell? ⟨g, 3, none⟩ = some v3 ∧ w.cell? ⟨g, 4, none⟩ = some v4 ∧ True := ⟨(blk_cell h 0).trans rfl, (blk_cell h 1).trans rfl, (blk_cell h 2).trans rfl, (blk_cell h 3).trans rfl, (blk_cell h 4).trans rfl, trivial⟩
theorem impl_First_cycles_xSl {α : Type} {d : Kd α} {e base : Nat} {w : World} {ok : Nat → Prop} {v : Value} {xs : List α} (h : d.R e w base ok v xs) : ∃ m A c, v = .slice A m c := by
 obtain ⟨A, c, h⟩ := Kd.R_slice h
 exact ⟨_, A, c, h⟩
theorem impl_First_cycles_xBne {w : World} {g g' : Nat} {t t' : TypeId} {cs cs' : Array Value} (h : w.heap[g]? = some (.cells cs t (0, 0))) (h' : w.heap[g']? = some (.cells cs' t' (0, 0))) (hne : t ≠ t') : g ≠ g' := by
 rintro rfl
 rw [h] at h'
 injection h' with h'
 injection h' with _ h'
 exact hne h'
theorem impl_First_cycles_xRset {α : Type} {d : Kd α} {e base : Nat} {w : World} {ok : Nat → Prop} {v : Value} {xs : List α} (h : d.R e w base ok v xs) {g t : Nat} {cells : Array Value} (hb : w.heap[g]? = some (.cells cells t (0, 0))) (ht : ∀ q, q ∈ e :: d.E → q ≠ t) (u : Value) : d.R e (w.setCell ⟨g, 0, none⟩ u) base ok v xs :=
 Kd.R_mono (Kd.R_move (Kd.R_bound h) (fun k hk => Below.heap_setCell w _ u k (by
  rintro rfl
  obtain ⟨_, _, _, q, hq, cells', hc⟩ := hk
  rw [hc] at hb
  injection hb with hb
  injection hb with _ hb
  exact ht q hq hb))) (fun _ hk => hk.1)
theorem impl_First_cycles_xZ1c {w : World} {g : Nat} {t : TypeId} {v0 : Value} (h : w.heap[g]? = some (.cells #[v0] t (0, 0))) : w.cell? ⟨g, 0, none⟩ = some v0 ∧ w.frozen? ⟨g, 0, none⟩ = false := ⟨(blk_cell h 0).trans rfl, blk_frozen h 0⟩
theorem impl_First_cycles.xSv {P : Program} {ops : Array Oper} {Q : Exit → Act → World → Prop} {rest : List Oper} {o : Oper} {a : Act} {W : World} {g : Nat} {t ty : TypeId} {c0 : Value} {A : Option Addr} {m c : Nat} (x y : Tmp) (hb : W.heap[g]? = some (.cells #[c0] t (0, 0)))
    (h : ∀ w', w' = W.setCell ⟨g, 0, none⟩ (.slice A m c) → wpList P ops Q rest a w')
    (ho : o.op = .store ty (.tmp x) (.tmp y) := by rfl) (hgd : o.guard = none := by rfl) (hN : o.dst = none := by rfl) (hx : a.eval (.tmp x) = .pointer (some ⟨g, 0, none⟩) := by first | rfl | (go_simp; done) | (go_simp; rfl)) (hy : a.eval (.tmp y) = .slice A m c := by first | rfl | (go_simp; done) | (go_simp; rfl))
    (hi : (P.info? ty).map (·.size) = some 1 := by kernel_rfl) : wpList P ops Q (o :: rest) a W := by
  have hr := run_storeCells_cells (P := P) g 0 [.slice A m c] 0 W (fun j hj => by rw [show 0 + 0 + j = j by omega, blk_cell hb j]; simp at hj ⊢; exact hj) (fun j _ => blk_frozen hb _) (fun v hv => by simp at hv; subst hv; rfl)
  have hr' : (storeCells ⟨g, 0, none⟩ [.slice A m c]).run P W = .ok () (W.setCell ⟨g, 0, none⟩ (.slice A m c)) := hr.trans rfl
  have hrun : (execOp a.eval o).run P W = .ok .skip (W.setCell ⟨g, 0, none⟩ (.slice A m c)) := by
    cases hq : P.info? ty with
    | none => simp [hq] at hi
    | some i =>
      have hs : i.size = 1 := by simpa [hq] using hi
      unfold execOp
      simp only [ho, hx, hy, Instr.storeAt, Instr.sureAddr, Sem.run_bind, Sem.run_pure, Result.andThen_ok]
      simp [storeVar, sizeOf, typeInfo, hq, Value.cells, hs, hr']
  exact store_event hgd ho hN hrun h
/-- the boxes of f, of x and of the whole, the box of the lists, and the lists -/
def impl_First_cycles_I (w0 : World) (base q0 q1 q2 q3 : Nat) (b0 b1 b2 b3 : Int) (b4 : Bool) (x z : Int) (v : Value) (xs : List (List Int)) (w : World) : Prop :=
 w.heap[q0]? = some (.cells #[.int .i64 b0, .int .i64 b1, .int .i64 b2, .int .i64 b3, .bool b4] 62 (0, 0)) ∧ q0 < base ∧ w.heap[q1]? = some (.cells #[.int .i64 x] 3 (0, 0)) ∧ q1 < base ∧ w.heap[q2]? = some (.cells #[.int .i64 z] 3 (0, 0)) ∧ w.heap[q3]? = some (.cells #[v] 77 (0, 0)) ∧ Kd.R (Kd.slice 3 (Kd.int .i64)) 24 w base (fun k => k ≠ q2) v xs ∧ Below w0.heap.size w0 w ∧ w0.heap.size ≤ base ∧ base ≤ w.heap.size ∧ w0.heap.size ≤ q3 ∧ q2 < w.heap.size
theorem impl_First_cycles_I.below {w0 : World} {base q0 q1 q2 q3 : Nat} {b0 b1 b2 b3 : Int} {b4 : Bool} {x z : Int} {v : Value} {xs : List (List Int)} {w w' : World} (h : impl_First_cycles_I w0 base q0 q1 q2 q3 b0 b1 b2 b3 b4 x z v xs w) (hb : Below w.heap.size w w') : impl_First_cycles_I w0 base q0 q1 q2 q3 b0 b1 b2 b3 b4 x z v xs w' := by
 obtain ⟨hq0, hg0, hi0, hj0, hi1, ho_, hr, hB, h1, h2, h3, h4⟩ := h
 exact ⟨blk_below hq0 hb, hg0, blk_below hi0 hb, hj0, blk_below hi1 hb, blk_below ho_ hb, Kd.R_below hr hb, below_step hB hb, h1, Nat.le_trans h2 hb.size, h3, Nat.lt_of_lt_of_le h4 hb.size⟩
theorem impl_First_cycles_I.row {w0 : World} {base q0 q1 q2 q3 : Nat} {b0 b1 b2 b3 : Int} {b4 : Bool} {x z : Int} {v : Value} {xs : List (List Int)} {w : World} (h : impl_First_cycles_I w0 base q0 q1 q2 q3 b0 b1 b2 b3 b4 x z v xs w) : Kd.R (Kd.slice 3 (Kd.int .i64)) 24 w base (fun k => k ≠ q2) v xs := by
 obtain ⟨hq0, hg0, hi0, hj0, hi1, ho_, hr, hB, h1, h2, h3, h4⟩ := h
 exact hr
theorem impl_First_cycles_I.base_le {w0 : World} {base q0 q1 q2 q3 : Nat} {b0 b1 b2 b3 : Int} {b4 : Bool} {x z : Int} {v : Value} {xs : List (List Int)} {w : World} (h : impl_First_cycles_I w0 base q0 q1 q2 q3 b0 b1 b2 b3 b4 x z v xs w) : base ≤ w.heap.size := by
 obtain ⟨hq0, hg0, hi0, hj0, hi1, ho_, hr, hB, h1, h2, h3, h4⟩ := h
 exact h2
theorem impl_First_cycles_I.q2_lt {w0 : World} {base q0 q1 q2 q3 : Nat} {b0 b1 b2 b3 : Int} {b4 : Bool} {x z : Int} {v : Value} {xs : List (List Int)} {w : World} (h : impl_First_cycles_I w0 base q0 q1 q2 q3 b0 b1 b2 b3 b4 x z v xs w) : q2 < w.heap.size := by
 obtain ⟨hq0, hg0, hi0, hj0, hi1, ho_, hr, hB, h1, h2, h3, h4⟩ := h
 exact h4
theorem impl_First_cycles_I.bel {w0 : World} {base q0 q1 q2 q3 : Nat} {b0 b1 b2 b3 : Int} {b4 : Bool} {x z : Int} {v : Value} {xs : List (List Int)} {w : World} (h : impl_First_cycles_I w0 base q0 q1 q2 q3 b0 b1 b2 b3 b4 x z v xs w) : w0.heap.size ≤ base ∧ Below w0.heap.size w0 w := by
 obtain ⟨hq0, hg0, hi0, hj0, hi1, ho_, hr, hB, h1, h2, h3, h4⟩ := h
 exact ⟨h1, hB⟩
theorem impl_First_cycles_I.fin {w0 : World} {base q0 q1 q2 q3 : Nat} {b0 b1 b2 b3 : Int} {b4 : Bool} {x z : Int} {v : Value} {xs : List (List Int)} {w w' : World} (h : impl_First_cycles_I w0 base q0 q1 q2 q3 b0 b1 b2 b3 b4 x z v xs w) (hb : Below w.heap.size w w') : Kd.N (Kd.slice 3 (Kd.int .i64)) 24 w' w0.heap.size (fun k_ => w0.heap.size ≤ k_) v xs ∧ Below w0.heap.size w0 w' :=
 ⟨Kd.R_N (Kd.R_mono (Kd.R_bound (Kd.R_lower (h.below hb).row (h.below hb).bel.1)) (fun _ hk => hk.2.1)), (h.below hb).bel.2⟩
/-- a new row, not yet put into its box -/
structure impl_First_cycles_J (w0 : World) (base q0 q1 q2 q3 : Nat) (b0 b1 b2 b3 : Int) (b4 : Bool) (x z : Int) (u v : Value) (xs : List (List Int)) (w : World) : Prop where
 old : w.heap[q0]? = some (.cells #[.int .i64 b0, .int .i64 b1, .int .i64 b2, .int .i64 b3, .bool b4] 62 (0, 0)) ∧ q0 < base ∧ w.heap[q1]? = some (.cells #[.int .i64 x] 3 (0, 0)) ∧ q1 < base ∧ w.heap[q2]? = some (.cells #[.int .i64 z] 3 (0, 0))
 box : w.heap[q3]? = some (.cells #[u] 77 (0, 0))
 row : Kd.R (Kd.slice 3 (Kd.int .i64)) 24 w base (fun k => k ≠ q2) v xs
 bel : Below w0.heap.size w0 w ∧ w0.heap.size ≤ base ∧ base ≤ w.heap.size ∧ w0.heap.size ≤ q3 ∧ q2 < w.heap.size
theorem impl_First_cycles_I.put {w0 : World} {base q0 q1 q2 q3 : Nat} {b0 b1 b2 b3 : Int} {b4 : Bool} {x z : Int} {v : Value} {xs : List (List Int)} {w : World} {w1 : World} {v1 : Value} {ys : List (List Int)} (h : impl_First_cycles_I w0 base q0 q1 q2 q3 b0 b1 b2 b3 b4 x z v xs w) (ho : Kd.R (Kd.slice 3 (Kd.int .i64)) 24 w1 base (fun k => k ≠ q2) v1 ys) (hb : Below base w w1) (hg : w.grownBy w1 v.ownBlock) : impl_First_cycles_J w0 base q0 q1 q2 q3 b0 b1 b2 b3 b4 x z v v1 ys w1 := by
 obtain ⟨hq0, hg0, hi0, hj0, hi1, ho_, hr, hB, h1, h2, h3, h4⟩ := h
 exact ⟨⟨blk_grown hq0 hg (fun e_ => Nat.not_le_of_lt hg0 (Kd.R_base hr q0 e_.symm)), hg0, blk_grown hi0 hg (fun e_ => Nat.not_le_of_lt hj0 (Kd.R_base hr q1 e_.symm)), hj0, blk_grown hi1 hg (fun e_ => (hr.1 q2 e_.symm) rfl)⟩, blk_grown ho_ hg (Kd.R_ne hr ho_ (by decide)), ho, ⟨hB.trans (hb.mono h1), h1, Nat.le_trans h2 hb.size, h3, Nat.lt_of_lt_of_le h4 hb.size⟩⟩
theorem impl_First_cycles_J.stored {w0 : World} {base q0 q1 q2 q3 : Nat} {b0 b1 b2 b3 : Int} {b4 : Bool} {x z : Int} {u : Value} {A : Option Addr} {m c : Nat} {xs : List (List Int)} {w w' : World} (h : impl_First_cycles_J w0 base q0 q1 q2 q3 b0 b1 b2 b3 b4 x z u (.slice A m c) xs w) (hw : w' = w.setCell ⟨q3, 0, none⟩ (.slice A m c)) : impl_First_cycles_I w0 base q0 q1 q2 q3 b0 b1 b2 b3 b4 x z (.slice A m c) xs w' := by
 subst hw
 obtain ⟨⟨hq0, hg0, hi0, hj0, hi1⟩, ho_, hr, hB, h1, h2, h3, h4⟩ := h
 exact ⟨blk_far hq0 (p := ⟨q3, 0, none⟩) (impl_First_cycles_xBne hq0 ho_ (by decide)) _, hg0, blk_far hi0 (p := ⟨q3, 0, none⟩) (impl_First_cycles_xBne hi0 ho_ (by decide)) _, hj0, blk_far hi1 (p := ⟨q3, 0, none⟩) (impl_First_cycles_xBne hi1 ho_ (by decide)) _, blk_put ho_ 0 _ rfl, impl_First_cycles_xRset hr ho_ (by simp [Kd.int, Kd.scalar, Kd.slice]) _, hB.setCell h3 _, h1, by simpa [World.setCell] using h2, h3, by simpa [World.setCell] using h4⟩
def impl_First_cycles.l0 : Nat → List Int → Int → Int → Int → Int → Int → Int → Int → Int → Bool → Option (List Int × Int)
 | 0, _, _, _, _, _, _, _, _, _, _ => none
 | k + 1, ys, now, y, x, z, b0, b1, b2, b3, b4 => if y < now then (if (ys.length : Int) ≤ z then (if ys.length < 17592186044416 then ((impl_First_step.f k b0 b1 b2 b3 b4 now x).bind fun t => impl_First_cycles.l0 k (ys ++ [now]) t y x z b0 b1 b2 b3 b4) else none) else some (ys, now)) else some (ys, now)
theorem impl_First_cycles.mono_l : ∀ k, (∀ y0 y1 y2 y3 y4 y5 y6 y7 y8 y9, LeO (impl_First_cycles.l0 k y0 y1 y2 y3 y4 y5 y6 y7 y8 y9) (impl_First_cycles.l0 (k + 1) y0 y1 y2 y3 y4 y5 y6 y7 y8 y9))
 | 0 => fun _ _ _ _ _ _ _ _ _ _ r h => by simp [impl_First_cycles.l0] at h
 | k + 1 => by
  have ih0 := impl_First_cycles.mono_l k
  intro y0 y1 y2 y3 y4 y5 y6 y7 y8 y9
  unfold impl_First_cycles.l0
  exact LeO.ite (LeO.ite (LeO.ite (LeO.bind (impl_First_step.mono _ _ _ _ _ _ _ _) (fun _ => ih0 _ _ _ _ _ _ _ _ _ _)) (LeO.none _)) (LeO.refl _)) (LeO.refl _)
def impl_First_cycles.cl (k : Nat) (b0 b1 b2 b3 : Int) (b4 : Bool) (x z y : Int) : Option (List Int × Int) := (impl_First_step.f k b0 b1 b2 b3 b4 y x).bind fun t => impl_First_cycles.l0 k [y] t y x z b0 b1 b2 b3 b4
theorem impl_First_cycles.cl_mono (k : Nat) (b0 b1 b2 b3 : Int) (b4 : Bool) (x z y : Int) : LeO (impl_First_cycles.cl k b0 b1 b2 b3 b4 x z y) (impl_First_cycles.cl (k + 1) b0 b1 b2 b3 b4 x z y) :=
 LeO.bind (impl_First_step.mono _ _ _ _ _ _ _ _) (fun _ => impl_First_cycles.mono_l k _ _ _ _ _ _ _ _ _ _)
/-- what a call for one number keeps: all that lies below W0 -/
structure impl_First_cycles_K (W0 : Nat) (w0 : World) (base q0 q1 q2 q3 : Nat) (b0 b1 b2 b3 : Int) (b4 : Bool) (x z : Int) (v : Value) (xs : List (List Int)) (w : World) : Prop where
 i : impl_First_cycles_I w0 base q0 q1 q2 q3 b0 b1 b2 b3 b4 x z v xs w
 r : Kd.R (Kd.slice 3 (Kd.int .i64)) 24 w base (fun k => k ≠ q2 ∧ k < W0) v xs
 lt : q0 < W0 ∧ q1 < W0 ∧ q2 < W0 ∧ q3 < W0 ∧ base ≤ W0
theorem impl_First_cycles_K.start {w0 : World} {base q0 q1 q2 q3 : Nat} {b0 b1 b2 b3 : Int} {b4 : Bool} {x z : Int} {v : Value} {xs : List (List Int)} {w : World} (h : impl_First_cycles_I w0 base q0 q1 q2 q3 b0 b1 b2 b3 b4 x z v xs w) : impl_First_cycles_K w.heap.size w0 base q0 q1 q2 q3 b0 b1 b2 b3 b4 x z v xs w := by
 have h' := h
 obtain ⟨hq0, hg0, hi0, hj0, hi1, ho_, hr, hB, h1, h2, h3, h4⟩ := h'
 exact ⟨h, Kd.R_mono (Kd.R_bound hr) (fun _ hk => ⟨hk.1, hk.2.2.1⟩), blk_lt hq0, blk_lt hi0, blk_lt hi1, blk_lt ho_, h2⟩
theorem impl_First_cycles_K.below {W0 : Nat} {w0 : World} {base q0 q1 q2 q3 : Nat} {b0 b1 b2 b3 : Int} {b4 : Bool} {x z : Int} {v : Value} {xs : List (List Int)} {w w' : World} (h : impl_First_cycles_K W0 w0 base q0 q1 q2 q3 b0 b1 b2 b3 b4 x z v xs w) (hb : Below w.heap.size w w') : impl_First_cycles_K W0 w0 base q0 q1 q2 q3 b0 b1 b2 b3 b4 x z v xs w' := ⟨h.i.below hb, Kd.R_below h.r hb, h.lt⟩
theorem impl_First_cycles_K.other {W0 : Nat} {w0 : World} {base q0 q1 q2 q3 : Nat} {b0 b1 b2 b3 : Int} {b4 : Bool} {x z : Int} {v : Value} {xs : List (List Int)} {w w' : World} {vy : Value} {ys : List Int} {ok : Nat → Prop} (h : impl_First_cycles_K W0 w0 base q0 q1 q2 q3 b0 b1 b2 b3 b4 x z v xs w) (hY : Kd.R (Kd.int .i64) 3 w W0 ok vy ys) (hg : w.grownBy w' vy.ownBlock) (hb : Below W0 w w') : impl_First_cycles_K W0 w0 base q0 q1 q2 q3 b0 b1 b2 b3 b4 x z v xs w' := by
 obtain ⟨⟨hq0, hg0, hi0, hj0, hi1, ho_, hr, hB, h1, h2, h3, h4⟩, hr', l0, l1, l2, l3, l4⟩ := h
 have no : ∀ k, k < W0 → some k ≠ vy.ownBlock := fun k hk e_ => Nat.not_le_of_lt hk (Kd.R_base hY k e_.symm)
 have hr2 := impl_First_cycles_xRstep hr' (fun k ho hk => hg.block k hk (no k ho.2))
 exact ⟨⟨blk_grown hq0 hg (no _ l0), hg0, blk_grown hi0 hg (no _ l1), hj0, blk_grown hi1 hg (no _ l2), blk_grown ho_ hg (no _ l3), Kd.R_mono hr2 (fun _ hk => hk.1), hB.trans (hb.mono (Nat.le_trans h1 l4)), h1, Nat.le_trans h2 hb.size, h3, Nat.lt_of_lt_of_le h4 hb.size⟩, hr2, l0, l1, l2, l3, l4⟩
theorem impl_First_cycles_K.elem {W0 : Nat} {w0 : World} {base q0 q1 q2 q3 : Nat} {b0 b1 b2 b3 : Int} {b4 : Bool} {x z : Int} {v : Value} {xs : List (List Int)} {w : World} {vy : Value} {ys : List Int} {ok : Nat → Prop} (h : impl_First_cycles_K W0 w0 base q0 q1 q2 q3 b0 b1 b2 b3 b4 x z v xs w) (hY : Kd.R (Kd.int .i64) 3 w W0 ok vy ys) : Kd.R (Kd.int .i64) 3 w base (fun k => k ≠ q2 ∧ some k ≠ v.ownBlock) vy ys := by
 obtain ⟨-, hr', l0, l1, l2, l3, l4⟩ := h
 refine Kd.R_lower (Kd.R_mono (Kd.R_bound hY) (fun k hk => ⟨fun e_ => ?_, fun e_ => ?_⟩)) l4
 ·have := hk.2.1
  omega
 ·have := hk.2.1
  have := (hr'.1 k e_.symm).2
  omega
theorem impl_First_cycles_K.fresh {W0 : Nat} {w0 : World} {base q0 q1 q2 q3 : Nat} {b0 b1 b2 b3 : Int} {b4 : Bool} {x z : Int} {v : Value} {xs : List (List Int)} {w : World} {W : World} (h : impl_First_cycles_K W0 w0 base q0 q1 q2 q3 b0 b1 b2 b3 b4 x z v xs w) (hw : W0 ≤ W.heap.size) : ∀ k, W.heap.size ≤ k → k ≠ q2 := fun k hk e_ => by
 have := h.lt.2.2.1
 omega
set_option maxHeartbeats 200000000 in
set_option maxRecDepth 100000 in
theorem impl_First_cycles_c1.calls (k : Nat) (b0 b1 b2 b3 : Int) (b4 : Bool) (y x z now : Int) (ys : List Int) (xs : List (List Int)) (v : Value) (w0 w : World) (base q0 q1 q2 q3 : Nat) (hI : impl_First_cycles_I w0 base q0 q1 q2 q3 b0 b1 b2 b3 b4 x z v xs w) (hl : xs.length < 1000000000) (r : List (List Int)) (hrr : (now = y → r = xs ++ [ys]) ∧ (¬ now = y → r = xs)) (h : impl_First_cycles.cl k b0 b1 b2 b3 b4 x z y = some (ys, now)) :
  Calls Try.prog 386 #[.int .i64 y, .pointer (some ⟨q0, 0, none⟩), .pointer (some ⟨q1, 0, none⟩), .pointer (some ⟨q2, 0, none⟩), .pointer (some ⟨q3, 0, none⟩)] w fun e w' => e = .returned (.tuple #[]) ∧ ∃ v', impl_First_cycles_I w0 base q0 q1 q2 q3 b0 b1 b2 b3 b4 x z v' r w' := by
 have HRR := xA hrr
 clear hrr
 have hu62 := Try.underlying62
 have HK := xA (impl_First_cycles_K.start hI)
 have HL := xA hl
 unfold impl_First_cycles.cl at h
 obtain ⟨t0, h0, h⟩ := Option.bind_eq_some_iff.1 h
 have HH := xA h0
 have H' := xA h
 clear hI h0 h hl
 obtain ⟨hq0, -, hi0, -, hi1, ho_, -⟩ := HK.out.i; obtain ⟨hcz_0, hcz_1, hcz_2, hcz_3, hcz_4, -⟩ := impl_First_cycles_xZ5c hq0; obtain ⟨hci0, -⟩ := impl_First_cycles_xZ1c hi0; obtain ⟨hci1, -⟩ := impl_First_cycles_xZ1c hi1; obtain ⟨hco, hfo⟩ := impl_First_cycles_xZ1c ho_; clear hq0 hi0 hi1 ho_
 go_enter Try.func386, Try.ntmps386
 go_wp2_with (first | ((with_reducible refine gate_dst (N := 9) rfl ?_); refine Kd.R_lit (Kd.int .i64) (w0 := w) w.heap.size 3 ?hg (N := 9) ?hd (xs := ([y] : List Int)) (inner := [.int .i64 y]) (ok := fun _ => True) (okp := fun _ => False) ?hr ?hp (fun _ hk => hk.elim) trivial ?hb2 ?hs2 (by simp) ?_; (case hd => rfl); (case hg => rfl); (case hr => first | (go_simp; done) | (go_simp; rfl)); (case hp => exact Reps.one rfl (Reps.none _ _)); (case hb2 => exact (by repeat (first | (with_reducible first | apply below_alloc | apply pw_below_drewN | apply below_drew1) | exact Below.refl _ _))); (case hs2 => exact below_size (by repeat (first | (with_reducible first | apply below_alloc | apply pw_below_drewN | apply below_drew1) | exact Below.refl _ _))); intro v1 w40 ho hb _ _; have HY := xA ho; have HW := xA hb.size; replace HK := xA (impl_First_cycles_K.below HK.out hb); clear ho hb hcz_0 hcz_1 hcz_2 hcz_3 hcz_4 hci0 hci1 hco hfo; obtain ⟨hq0, -, hi0, -, hi1, ho_, -⟩ := HK.out.i; obtain ⟨hcz_0, hcz_1, hcz_2, hcz_3, hcz_4, -⟩ := impl_First_cycles_xZ5c hq0; obtain ⟨hci0, -⟩ := impl_First_cycles_xZ1c hi0; obtain ⟨hci1, -⟩ := impl_First_cycles_xZ1c hi1; obtain ⟨hco, hfo⟩ := impl_First_cycles_xZ1c ho_; clear hq0 hi0 hi1 ho_) | (go_at_call 293; (with_reducible refine (impl_First_step.calls k b0 b1 b2 b3 b4 y x t0 _ HH.out).mono ?_); rintro e w9 ⟨rfl, hb⟩; replace HK := xA (impl_First_cycles_K.below HK.out (below_step (by repeat (first | (with_reducible first | apply below_alloc | apply pw_below_drewN | apply below_drew1) | exact Below.refl _ _)) hb)); replace HY := xA (Kd.R_below HY.out (below_step (by repeat (first | (with_reducible first | apply below_alloc | apply pw_below_drewN | apply below_drew1) | exact Below.refl _ _)) hb)); replace HW := xA (Nat.le_trans HW.out (Below.size (below_step (by repeat (first | (with_reducible first | apply below_alloc | apply pw_below_drewN | apply below_drew1) | exact Below.refl _ _)) hb))); clear hb hcz_0 hcz_1 hcz_2 hcz_3 hcz_4 hci0 hci1 hco hfo; obtain ⟨hq0, -, hi0, -, hi1, ho_, -⟩ := HK.out.i; obtain ⟨hcz_0, hcz_1, hcz_2, hcz_3, hcz_4, -⟩ := impl_First_cycles_xZ5c hq0; obtain ⟨hci0, -⟩ := impl_First_cycles_xZ1c hi0; obtain ⟨hci1, -⟩ := impl_First_cycles_xZ1c hi1; obtain ⟨hco, hfo⟩ := impl_First_cycles_xZ1c ho_; clear hq0 hi0 hi1 ho_))
 clear hcz_0 hcz_1 hcz_2 hcz_3 hcz_4 hci0 hci1 hco hfo
 go_loopg [6, 7] k (fun kq v6 v7 w' => ∃ (ys_1 : List Int) (now_1 : Int), v7 = .int .i64 now_1 ∧ Aside0 (impl_First_cycles.l0 kq ys_1 now_1 y x z b0 b1 b2 b3 b4 = some (ys, now)) ∧ Aside0 (kq ≤ k) ∧ Aside0 (Kd.R (Kd.int .i64) 3 w' w.heap.size (fun _ => True) v6 ys_1) ∧ Aside0 (impl_First_cycles_K w.heap.size w0 base q0 q1 q2 q3 b0 b1 b2 b3 b4 x z v xs w') ∧ Aside0 (w.heap.size ≤ w'.heap.size))
 case atStart => exact ⟨[y], t0, rfl, H', ⟨Nat.le_refl _⟩, ⟨Kd.R_below HY.out (by repeat (first | (with_reducible first | apply below_alloc | apply pw_below_drewN | apply below_drew1) | exact Below.refl _ _))⟩, ⟨impl_First_cycles_K.below HK.out (by repeat (first | (with_reducible first | apply below_alloc | apply pw_below_drewN | apply below_drew1) | exact Below.refl _ _))⟩, ⟨Nat.le_trans HW.out (below_size (by repeat (first | (with_reducible first | apply below_alloc | apply pw_below_drewN | apply below_drew1) | exact Below.refl _ _)))⟩⟩
 case round =>
  clear H' HY HK HW HH
  obtain ⟨ys_1, now_1, rfl, HA, HK1, HY, HK, HW⟩ := hrel
  obtain ⟨A6, c6, rfl⟩ := Kd.R_slice HY.out
  obtain ⟨hq0, -, hi0, -, hi1, ho_, -⟩ := HK.out.i; obtain ⟨hcz_0, hcz_1, hcz_2, hcz_3, hcz_4, -⟩ := impl_First_cycles_xZ5c hq0; obtain ⟨hci0, -⟩ := impl_First_cycles_xZ1c hi0; obtain ⟨hci1, -⟩ := impl_First_cycles_xZ1c hi1; obtain ⟨hco, hfo⟩ := impl_First_cycles_xZ1c ho_; clear hq0 hi0 hi1 ho_
  cases gk with
  | zero => exact absurd HA.out (by simp [impl_First_cycles.l0])
  | succ k1 =>
   have H := HA.out
   clear HA
   simp only [impl_First_cycles.l0] at H
   by_cases c1 : y < now_1
   rotate_left
   ·rw [if_neg c1] at H
    have c1b := decide_eq_false c1
    clear c1
    simp only [Option.some.injEq, Prod.mk.injEq] at H
    obtain ⟨rfl, rfl⟩ := H
    by_cases ce : now_1 = y
    rotate_left
    ·have ceb := beq_eq_false_iff_ne.mpr ce
     have CE := xA ce
     clear ce
     go_wp2
     (first | go_end0 | ((try simp only [Exit.inBlock, Exit.then]); refine bodyPost_ret (results_none rfl _ _ _) rfl ?_))
     exact ⟨by first | rfl | (simp; done), v, by rw [HRR.out.2 CE.out]; exact impl_First_cycles_I.below HK.out.i (by repeat (first | (with_reducible first | apply below_alloc | apply pw_below_drewN | apply below_drew1) | exact Below.refl _ _))⟩
    have ceb := beq_iff_eq.mpr ce
    have CE := xA ce
    clear ce
    go_wp2_with (first | ((with_reducible refine gate_builtin (b := .append) (xs := #[.tmp 34, .tmp 36]) rfl ?_); at_builtin; refine Kd.R_append (Kd.slice 3 (Kd.int .i64)) (w0 := ?bw) base rfl (.tmp 34) (.tmp 36) 77 24 (.slice none 0 0) 24 rfl Try.underlying77 info24 rfl (by decide) (by omega) v xs ys_1 [.slice A6 ys_1.length c6] (fun k => k ≠ q2) (fun k => k ≠ q2 ∧ some k ≠ v.ownBlock) rfl rfl ?aP (fun _ hk => hk) ?aF ?aO ?aB ?aS ?aL ?_; (case aB => exact Below.refl _ _); (case aP => exact Kd.M_row (impl_First_cycles_K.elem (impl_First_cycles_K.below HK.out (by repeat (first | (with_reducible first | apply below_alloc | apply pw_below_drewN | apply below_drew1) | exact Below.refl _ _))) (Kd.R_below HY.out (by repeat (first | (with_reducible first | apply below_alloc | apply pw_below_drewN | apply below_drew1) | exact Below.refl _ _))))); (case aF => exact impl_First_cycles_K.fresh HK.out (Nat.le_trans HW.out (below_size (by repeat (first | (with_reducible first | apply below_alloc | apply pw_below_drewN | apply below_drew1) | exact Below.refl _ _))))); (case aO => exact impl_First_cycles_I.row (impl_First_cycles_I.below HK.out.i (by repeat (first | (with_reducible first | apply below_alloc | apply pw_below_drewN | apply below_drew1) | exact Below.refl _ _)))); (case aS => exact impl_First_cycles_I.base_le (impl_First_cycles_I.below HK.out.i (by repeat (first | (with_reducible first | apply below_alloc | apply pw_below_drewN | apply below_drew1) | exact Below.refl _ _)))); (case aL => have := HL.out; omega); intro v1 w16 ho hb hg hat; have n0_ := xA (impl_First_cycles_I.put (impl_First_cycles_I.below HK.out.i (by repeat (first | (with_reducible first | apply below_alloc | apply pw_below_drewN | apply below_drew1) | exact Below.refl _ _))) ho hb hg); obtain ⟨m1, A1, c1, rfl⟩ := impl_First_cycles_xSl ho; clear HK HY HW ho hb hg hat hcz_0 hcz_1 hcz_2 hcz_3 hcz_4 hci0 hci1 hco hfo; have HI := n0_; clear n0_) | (refine impl_First_cycles.xSv 4 37 HI.out.box ?_; intro w17 hw; replace HI := xA (HI.out.stored hw); clear hw))
    (first | go_end0 | ((try simp only [Exit.inBlock, Exit.then]); refine bodyPost_ret (results_none rfl _ _ _) rfl ?_))
    exact ⟨by first | rfl | (simp; done), .slice A1 m1 c1, by rw [HRR.out.1 CE.out]; exact impl_First_cycles_I.below HI.out (by repeat (first | (with_reducible first | apply below_alloc | apply pw_below_drewN | apply below_drew1) | exact Below.refl _ _))⟩
   rw [if_pos c1] at H
   have c1b := decide_eq_true c1
   clear c1
   by_cases c2 : (ys_1.length : Int) ≤ z
   rotate_left
   ·rw [if_neg c2] at H
    have c2b := decide_eq_false c2
    clear c2
    simp only [Option.some.injEq, Prod.mk.injEq] at H
    obtain ⟨rfl, rfl⟩ := H
    have ce : ¬ now_1 = y := fun e_ => by simp [e_] at c1b
    have ceb := beq_eq_false_iff_ne.mpr ce
    have CE := xA ce
    clear ce
    go_wp2
    (first | go_end0 | ((try simp only [Exit.inBlock, Exit.then]); refine bodyPost_ret (results_none rfl _ _ _) rfl ?_))
    exact ⟨by first | rfl | (simp; done), v, by rw [HRR.out.2 CE.out]; exact impl_First_cycles_I.below HK.out.i (by repeat (first | (with_reducible first | apply below_alloc | apply pw_below_drewN | apply below_drew1) | exact Below.refl _ _))⟩
   rw [if_pos c2] at H
   have c2b := decide_eq_true c2
   clear c2
   by_cases c3 : ys_1.length < 17592186044416
   rotate_left
   ·rw [if_neg c3] at H
    exact absurd H (by simp)
   rw [if_pos c3] at H
   have LM := xA c3
   clear c3
   obtain ⟨t1, h1, H⟩ := Option.bind_eq_some_iff.1 H
   have HH := xA h1
   have H' := xA H
   clear h1 H
   go_wp2_with (first | ((with_reducible refine gate_builtin (b := .append) (xs := #[.tmp 23, .tmp 25]) rfl ?_); at_builtin; refine Kd.R_append (Kd.int .i64) (w0 := ?bw) w.heap.size rfl (.tmp 23) (.tmp 25) 24 3 (.int .i64 0) 8 rfl Try.underlying24 info3 rfl (by decide) (by omega) (.slice A6 ys_1.length c6) ys_1 now_1 [.int .i64 now_1] (fun _ => True) (fun _ => False) rfl rfl ?aP (fun _ hk => hk.elim) ?aF ?aO ?aB ?aS ?aL ?_; (case aB => exact Below.refl _ _); (case aP => exact rfl); (case aF => exact (fun _ _ => trivial)); (case aO => exact (Kd.R_below HY.out (by repeat (first | (with_reducible first | apply below_alloc | apply pw_below_drewN | apply below_drew1) | exact Below.refl _ _)))); (case aS => exact Nat.le_trans HW.out (below_size (by repeat (first | (with_reducible first | apply below_alloc | apply pw_below_drewN | apply below_drew1) | exact Below.refl _ _)))); (case aL => have := LM.out; omega); intro v1 w16 ho hb hg hat; replace HK := xA (impl_First_cycles_K.other (impl_First_cycles_K.below HK.out (by repeat (first | (with_reducible first | apply below_alloc | apply pw_below_drewN | apply below_drew1) | exact Below.refl _ _))) (Kd.R_below HY.out (by repeat (first | (with_reducible first | apply below_alloc | apply pw_below_drewN | apply below_drew1) | exact Below.refl _ _))) hg hb); replace HY := xA ho; replace HW := xA (Nat.le_trans HW.out hb.size); clear ho hb hg hat hcz_0 hcz_1 hcz_2 hcz_3 hcz_4 hci0 hci1 hco hfo; obtain ⟨hq0, -, hi0, -, hi1, ho_, -⟩ := HK.out.i; obtain ⟨hcz_0, hcz_1, hcz_2, hcz_3, hcz_4, -⟩ := impl_First_cycles_xZ5c hq0; obtain ⟨hci0, -⟩ := impl_First_cycles_xZ1c hi0; obtain ⟨hci1, -⟩ := impl_First_cycles_xZ1c hi1; obtain ⟨hco, hfo⟩ := impl_First_cycles_xZ1c ho_; clear hq0 hi0 hi1 ho_) | (go_at_call 293; (with_reducible refine (impl_First_step.calls k1 b0 b1 b2 b3 b4 now_1 x t1 _ HH.out).mono ?_); rintro e w9 ⟨rfl, hb⟩; replace HK := xA (impl_First_cycles_K.below HK.out (below_step (by repeat (first | (with_reducible first | apply below_alloc | apply pw_below_drewN | apply below_drew1) | exact Below.refl _ _)) hb)); replace HY := xA (Kd.R_below HY.out (below_step (by repeat (first | (with_reducible first | apply below_alloc | apply pw_below_drewN | apply below_drew1) | exact Below.refl _ _)) hb)); replace HW := xA (Nat.le_trans HW.out (Below.size (below_step (by repeat (first | (with_reducible first | apply below_alloc | apply pw_below_drewN | apply below_drew1) | exact Below.refl _ _)) hb))); clear hb hcz_0 hcz_1 hcz_2 hcz_3 hcz_4 hci0 hci1 hco hfo; obtain ⟨hq0, -, hi0, -, hi1, ho_, -⟩ := HK.out.i; obtain ⟨hcz_0, hcz_1, hcz_2, hcz_3, hcz_4, -⟩ := impl_First_cycles_xZ5c hq0; obtain ⟨hci0, -⟩ := impl_First_cycles_xZ1c hi0; obtain ⟨hci1, -⟩ := impl_First_cycles_xZ1c hi1; obtain ⟨hco, hfo⟩ := impl_First_cycles_xZ1c ho_; clear hq0 hi0 hi1 ho_))
   go_roundg k1
   case measure => have := HK1.out; omega
   case rel => exact ⟨ys_1 ++ [now_1], t1, rfl, H', ⟨Nat.le_of_succ_le HK1.out⟩, ⟨Kd.R_below HY.out (by repeat (first | (with_reducible first | apply below_alloc | apply pw_below_drewN | apply below_drew1) | exact Below.refl _ _))⟩, ⟨impl_First_cycles_K.below HK.out (by repeat (first | (with_reducible first | apply below_alloc | apply pw_below_drewN | apply below_drew1) | exact Below.refl _ _))⟩, ⟨Nat.le_trans HW.out (below_size (by repeat (first | (with_reducible first | apply below_alloc | apply pw_below_drewN | apply below_drew1) | exact Below.refl _ _)))⟩⟩
def impl_First_cycles.lp (k : Nat) (b0 b1 b2 b3 : Int) (b4 : Bool) (x z : Int) : Nat → Int → List (List Int) → Option (List (List Int))
 | 0, _, xs => some xs
 | n + 1, y, xs => if xs.length < 1000000000 then ((impl_First_cycles.cl k b0 b1 b2 b3 b4 x z y).bind fun r => impl_First_cycles.lp k b0 b1 b2 b3 b4 x z n (y + 1) (if r.2 = y then xs ++ [r.1] else xs)) else none
theorem impl_First_cycles.lp_mono (k : Nat) (b0 b1 b2 b3 : Int) (b4 : Bool) (x z : Int) : ∀ (n : Nat) (y : Int) (xs : List (List Int)), LeO (impl_First_cycles.lp k b0 b1 b2 b3 b4 x z n y xs) (impl_First_cycles.lp (k + 1) b0 b1 b2 b3 b4 x z n y xs)
 | 0, _, _ => LeO.refl _
 | n + 1, y, xs => by
  have ih := impl_First_cycles.lp_mono k b0 b1 b2 b3 b4 x z n
  unfold impl_First_cycles.lp
  exact LeO.ite (LeO.bind (impl_First_cycles.cl_mono _ _ _ _ _ _ _ _ _) (fun _ => ih _ _)) (LeO.none _)
def impl_First_cycles.f (k : Nat) (b0 b1 b2 b3 : Int) (b4 : Bool) (x : Int) : Option (List (List Int)) := (impl_Word_ends.f b3 b4).bind fun e => if -1000000 ≤ e.1 ∧ e.1 ≤ e.2 + 1 ∧ e.2 ≤ 1000000 ∧ 0 ≤ b3 then impl_First_cycles.lp k b0 b1 b2 b3 b4 x (shl .i64 1 b3) (e.2 + 1 - e.1).toNat e.1 [] else none
theorem impl_First_cycles.mono : ∀ b0 b1 b2 b3 b4 x k, LeO (impl_First_cycles.f k b0 b1 b2 b3 b4 x) (impl_First_cycles.f (k + 1) b0 b1 b2 b3 b4 x) := by
 intro b0 b1 b2 b3 b4 x k
 unfold impl_First_cycles.f
 exact LeO.bind (LeO.refl _) (fun _ => LeO.ite (impl_First_cycles.lp_mono _ _ _ _ _ _ _ _ _ _ _) (LeO.none _))
set_option maxHeartbeats 200000000 in
set_option maxRecDepth 100000 in
theorem impl_First_cycles_all.calls (b0 : Int) (b1 : Bool) (lo hi : Int) (q0 q1 q2 q3 : Nat) (Inv : Int → World → Prop) (w : World) (hE : impl_Word_ends.f b0 b1 = some (lo, hi)) (hlo : -1000000 ≤ lo) (hle : lo ≤ hi + 1) (hhi : hi ≤ 1000000) (Hb : ∀ y w1 w2, Inv y w1 → Below w1.heap.size w1 w2 → Inv y w2)
  (Hs : ∀ y w1, lo ≤ y → y ≤ hi → Inv y w1 → Calls Try.prog 386 #[.int .i64 y, .pointer (some ⟨q0, 0, none⟩), .pointer (some ⟨q1, 0, none⟩), .pointer (some ⟨q2, 0, none⟩), .pointer (some ⟨q3, 0, none⟩)] w1 fun e w2 => e = .returned (.tuple #[]) ∧ Inv (y + 1) w2) (h0 : Inv lo w) :
  Calls Try.prog 308 #[.agg #[.int .i64 b0, .bool b1], .func (.func 386) #[] #[.pointer (some ⟨q0, 0, none⟩), .pointer (some ⟨q1, 0, none⟩), .pointer (some ⟨q2, 0, none⟩), .pointer (some ⟨q3, 0, none⟩)]] w fun e w' => e = .returned (.tuple #[]) ∧ Inv (hi + 1) w' := by
 have hu46 := Try.underlying46
 have HB := xA (Below.refl w.heap.size w)
 have HE := xA hE
 have HI := xA h0
 have HS := xA Hs
 have HM := xA Hb
 have L1 := xA hlo
 have L2 := xA hle
 have L3 := xA hhi
 clear hE h0 Hs Hb hlo hle hhi
 go_enter Try.func308, Try.ntmps308
 go_wp2_with (first | (refine xg 2 rfl ?_; refine xV 2 #[.int .i64 b0, .bool b1] 46 ?_; intro gb1 hg w3 hbox hb; replace HI := xA (HM.out _ _ _ HI.out hb); have BK0 := xA hbox; clear hbox hg hb HB; have hcz_0 := (blk_cell BK0.out 0).trans rfl; have hcz_1 := (blk_cell BK0.out 1).trans rfl) | (go_at_call 261; (with_reducible refine (impl_Word_ends.calls b0 b1 lo hi _ HE.out).mono ?_); rintro e w7 ⟨rfl, hb⟩; replace HI := xA (HM.out _ _ _ (HM.out _ _ _ HI.out (by repeat (first | (with_reducible first | apply below_alloc | apply pw_below_drewN | apply below_drew1) | exact Below.refl _ _))) hb); clear hb hcz_0 hcz_1 BK0))
 go_loopg [6] ((hi + 1 - lo).toNat) (fun kq v6 w' => ∃ y : Int, v6 = .int .i64 y ∧ Aside0 (y + (kq : Int) = hi + 1 ∧ lo ≤ y) ∧ Aside0 (Inv y w'))
 case atStart => exact ⟨lo, rfl, ⟨by have := L2.out; omega⟩, ⟨HM.out _ _ _ HI.out (by repeat (first | (with_reducible first | apply below_alloc | apply pw_below_drewN | apply below_drew1) | exact Below.refl _ _))⟩⟩
 case round =>
  clear HI
  obtain ⟨y, rfl, HY, HI⟩ := hrel
  cases gk with
  | zero =>
   have c := HY.out.1
   have cb : decide (y ≤ hi) = false := decide_eq_false (by omega)
   obtain rfl : y = hi + 1 := by omega
   clear c
   go_wp2
   (first | go_end0 | ((try simp only [Exit.inBlock, Exit.then]); refine bodyPost_ret (results_none rfl _ _ _) rfl ?_))
   exact ⟨by first | rfl | (simp; done), HM.out _ _ _ HI.out (by repeat (first | (with_reducible first | apply below_alloc | apply pw_below_drewN | apply below_drew1) | exact Below.refl _ _))⟩
  | succ k1 =>
   have cc : y ≤ hi := by have := HY.out.1; omega
   have cb : decide (y ≤ hi) = true := decide_eq_true cc
   have CC := xA cc
   clear cc
   go_wp2_with (first | (go_at_call 386; (with_reducible refine (HS.out y _ HY.out.2 CC.out (HM.out _ _ _ HI.out (by repeat (first | (with_reducible first | apply below_alloc | apply pw_below_drewN | apply below_drew1) | exact Below.refl _ _)))).mono ?_); rintro e w7 ⟨rfl, hI⟩; replace HI := xA hI; clear hI))
   go_roundg k1
   case measure => omega
   case rel => exact ⟨y + 1, (by have h1 := L1.out; have h2 := HY.out.2; have h3 := L3.out; have h4 := CC.out; rw [show wrap64 (y + 1) = y + 1 by unfold wrap64; omega]), ⟨by have := HY.out; omega⟩, ⟨HM.out _ _ _ HI.out (by repeat (first | (with_reducible first | apply below_alloc | apply pw_below_drewN | apply below_drew1) | exact Below.refl _ _))⟩⟩
theorem impl_First_cycles_scan.calls (k : Nat) (b0 b1 b2 b3 : Int) (b4 : Bool) (lo hi x z : Int) (r1 : List (List Int)) (v : Value) (w0 w : World) (base q0 q1 q2 q3 : Nat) (hE : impl_Word_ends.f b3 b4 = some (lo, hi)) (hlo : -1000000 ≤ lo) (hle : lo ≤ hi + 1) (hhi : hi ≤ 1000000) (hL : impl_First_cycles.lp k b0 b1 b2 b3 b4 x z (hi + 1 - lo).toNat lo [] = some r1) (hI : impl_First_cycles_I w0 base q0 q1 q2 q3 b0 b1 b2 b3 b4 x z v [] w) :
  Calls Try.prog 308 #[.agg #[.int .i64 b3, .bool b4], .func (.func 386) #[] #[.pointer (some ⟨q0, 0, none⟩), .pointer (some ⟨q1, 0, none⟩), .pointer (some ⟨q2, 0, none⟩), .pointer (some ⟨q3, 0, none⟩)]] w fun e w' => e = .returned (.tuple #[]) ∧ ∃ v', impl_First_cycles_I w0 base q0 q1 q2 q3 b0 b1 b2 b3 b4 x z v' r1 w' := by
 refine (impl_First_cycles_all.calls b3 b4 lo hi q0 q1 q2 q3 (fun y w1 => ∃ n v xs, y + ((n : Nat) : Int) = hi + 1 ∧ impl_First_cycles.lp k b0 b1 b2 b3 b4 x z n y xs = some r1 ∧ impl_First_cycles_I w0 base q0 q1 q2 q3 b0 b1 b2 b3 b4 x z v xs w1) w hE hlo hle hhi ?_ ?_ ⟨(hi + 1 - lo).toNat, v, [], by omega, hL, hI⟩).mono ?_
 ·rintro y w1 w2 ⟨n, v, xs, h1, h2, h3⟩ hb
  exact ⟨n, v, xs, h1, h2, h3.below hb⟩
 ·rintro y w1 hy1 hy2 ⟨n, v, xs, h1, h2, h3⟩
  cases n with
  | zero => exact absurd h1 (by omega)
  | succ n =>
   rw [impl_First_cycles.lp] at h2
   by_cases cl : xs.length < 1000000000
   rotate_left
   ·rw [if_neg cl] at h2
    exact absurd h2 (by simp)
   rw [if_pos cl] at h2
   obtain ⟨⟨ys, now⟩, ht, h2⟩ := Option.bind_eq_some_iff.1 h2
   refine (impl_First_cycles_c1.calls k b0 b1 b2 b3 b4 y x z now ys xs v w0 w1 base q0 q1 q2 q3 h3 cl (if now = y then xs ++ [ys] else xs) ⟨fun h_ => if_pos h_, fun h_ => if_neg h_⟩ ht).mono ?_
   rintro e w2 ⟨rfl, v', hv⟩
   exact ⟨rfl, n, v', _, by omega, h2, hv⟩
 ·rintro e w2 ⟨rfl, n, v2, xs, h1, h2, h3⟩
  obtain rfl : n = 0 := by omega
  obtain rfl : xs = r1 := by simpa [impl_First_cycles.lp] using h2
  exact ⟨rfl, v2, h3⟩
theorem impl_First_cycles_xA3 (w : World) (a b c : Obj) : (((w.alloc a).alloc b).alloc c).drew.heap[w.heap.size]? = some a ∧ (((w.alloc a).alloc b).alloc c).drew.heap[w.heap.size + 1]? = some b ∧ (((w.alloc a).alloc b).alloc c).drew.heap[w.heap.size + 1 + 1]? = some c := by
 have s1 : ∀ (u : World) (o : Obj), (u.alloc o).heap.size = u.heap.size + 1 := fun u o => by
  show (u.heap.push o).size = u.heap.size + 1
  simp
 refine ⟨blk_drew (blk_alloc (blk_alloc (blk_new w a) b) c), blk_drew (blk_alloc ?_ c), blk_drew ?_⟩
 ·have h := blk_new (w.alloc a) b
  rwa [s1] at h
 ·have h := blk_new ((w.alloc a).alloc b) c
  rwa [s1, s1] at h
theorem impl_First_cycles_xThen {G : World → Prop} {W : World} (I : World → Prop) (h : I W) (k : ∀ W', I W' → G W') : G W := k W h
theorem impl_First_cycles_I.setup {w w2 W : World} {q0 q1 s_ o_ z_ : Nat} {b0 b1 b2 b3 : Int} {b4 : Bool} {x j : Int} (h0 : w2.heap[q0]? = some (.cells #[.int .i64 b0, .int .i64 b1, .int .i64 b2, .int .i64 b3, .bool b4] 62 (0, 0))) (h1 : w2.heap[q1]? = some (.cells #[.int .i64 x] 3 (0, 0))) (hB : Below w.heap.size w w2) (hb : Below w2.heap.size w2 W) (hs : W.heap[s_]? = some (.cells #[] 24 (0, 0))) (ho : W.heap[o_]? = some (.cells #[.slice (some ⟨s_, 0, none⟩) 0 0] 77 (0, 0))) (hz : W.heap[z_]? = some (.cells #[.int .i64 j] 3 (0, 0))) (ls : w2.heap.size ≤ s_) (lo : w2.heap.size ≤ o_) :
  impl_First_cycles_I w w2.heap.size q0 q1 z_ o_ b0 b1 b2 b3 b4 x j (.slice (some ⟨s_, 0, none⟩) 0 0) [] W := by
 refine ⟨blk_below h0 hb, blk_lt h0, blk_below h1 hb, blk_lt h1, hz, ho, ⟨fun k hk => ?_, [], ⟨rfl, .inr ⟨s_, 0, #[], rfl, ls, hs, Nat.le_refl _, Nat.zero_le _, by simp, by simp⟩⟩, Reps.none _ _⟩, below_step hB hb, hB.size, hb.size, Nat.le_trans hB.size lo, blk_lt hz⟩
 obtain rfl : s_ = k := by simpa [Value.ownBlock] using hk
 exact impl_First_cycles_xBne hs hz (by decide)
set_option maxHeartbeats 200000000 in
set_option maxRecDepth 100000 in
theorem impl_First_cycles.calls (k : Nat) (b0 b1 b2 b3 : Int) (b4 : Bool) (x : Int) (r : List (List Int)) (w : World) (h : impl_First_cycles.f k b0 b1 b2 b3 b4 x = some r) :
  Calls Try.prog 305 #[.agg #[.int .i64 b0, .int .i64 b1, .int .i64 b2, .int .i64 b3, .bool b4], .int .i64 x] w fun e w' => ∃ v0_ : Value, e = .returned (v0_) ∧ Kd.N (Kd.slice 3 (Kd.int .i64)) 24 w' w.heap.size (fun k_ => (w.heap.size ≤ k_)) v0_ r ∧ Below w.heap.size w w' := by
 have hu62 := Try.underlying62
 have hu46 := Try.underlying46
 have HB := xA (Below.refl w.heap.size w)
 unfold impl_First_cycles.f at h
 obtain ⟨⟨lo, hi⟩, HE0, H⟩ := Option.bind_eq_some_iff.mp h
 clear h
 have HE := xA HE0
 clear HE0
 by_cases cL : -1000000 ≤ lo ∧ lo ≤ hi + 1 ∧ hi ≤ 1000000 ∧ 0 ≤ b3
 rotate_left
 ·simp only at H
  rw [if_neg cL] at H
  exact absurd H (by simp)
 simp only at H
 rw [if_pos cL] at H
 have L1 := xA cL.1
 have L2 := xA cL.2.1
 have L3 := xA cL.2.2.1
 have c4 := cL.2.2.2
 clear cL
 have c4b0 := eq_true c4
 have c4b1 : decide (0 ≤ b3) = true := decide_eq_true c4
 clear c4
 obtain ⟨ji4, hji4⟩ : ∃ j_ : Int, (shl .i64 1 b3) = j_ := ⟨_, rfl⟩
 rw [hji4] at H
 have hji4_ : (IntKind.i64.wrap (1 * 2 ^ min b3.toNat 64)) = ji4 := hji4
 have hji4z : b3 ≤ 64 → (IntKind.i64.wrap (1 * 2 ^ b3.toNat)) = ji4 := shl_small hji4
 have hji4u : (IntKind.i64.wrap (2 ^ min b3.toNat 64)) = ji4 := by have h_ := hji4_; rw [Int.one_mul] at h_; exact h_
 have hji4v : b3 ≤ 64 → (IntKind.i64.wrap (2 ^ b3.toNat)) = ji4 := fun hle_ => by have h_ := hji4z hle_; rw [Int.one_mul] at h_; exact h_
 have hji4y : (wrap64 (1 * 2 ^ min b3.toNat 64)) = ji4 := (i64_w _).symm.trans hji4_
 have hji4x : b3 ≤ 64 → (wrap64 (1 * 2 ^ b3.toNat)) = ji4 := fun h_ => (i64_w _).symm.trans (hji4z h_)
 have LP := xA H
 clear H hji4
 go_enter Try.func305, Try.ntmps305
 try go_wp2_with (first | (refine xg 2 rfl ?_; refine xV 2 #[.int .i64 b0, .int .i64 b1, .int .i64 b2, .int .i64 b3, .bool b4] 62 ?_; intro q0 hg w20 hbox hb; have k_ := xA hbox; clear hbox; have n_ := xA (below_step (xB HB.out) hb); clear HB hb; have HB := n_; clear n_; have BK0 := k_; clear k_ hg) | (refine xg 3 rfl ?_; refine xV 3 #[.int .i64 x] 3 ?_; intro q1 hg w21 hbox hb; have k_ := xA hbox; clear hbox; have n_ := xA (below_step (xB HB.out) hb); have m_ := xA (blk_below (by ((with_reducible repeat (first | refine blk_drewN ?_ _ | refine blk_drew ?_ | refine blk_alloc ?_ _)); exact BK0.out)) hb); clear HB BK0 hb; have HB := n_; have BK0 := m_; clear n_ m_; have BK1 := k_; clear k_ hg; obtain ⟨hcz_0, hcz_1, hcz_2, hcz_3, hcz_4, -⟩ := impl_First_cycles_xZ5c BK0.out))
 go_region_held3 (fun w_ => w_.cell? ⟨q0, 3, none⟩ = some (.int .i64 b3)) (exact (blk_cell (blk_below BK0.out (by repeat (first | (with_reducible first | apply below_alloc | apply pw_below_drewN | apply below_drew1) | exact Below.refl _ _ | refine below_set ?_ (by first | exact Nat.le_refl _ | omega | (simp [World.alloc]; done) | (simp [World.alloc]; omega))))) 3).trans rfl) (fail)
 all_goals (first | (refine impl_First_cycles_xThen (G := fun W => Exit.then _ _ Exit.normal _ W) (impl_First_cycles_I w w21.heap.size q0 q1 (w21.heap.size + 1) w21.heap.size b0 b1 b2 b3 b4 x ji4 (.slice (some ⟨(w21.heap.size + 1 + 1), 0, none⟩) 0 0) []) (impl_First_cycles_I.setup BK0.out BK1.out HB.out (by repeat (first | (with_reducible first | apply below_alloc | apply pw_below_drewN | apply below_drew1) | exact Below.refl _ _)) (impl_First_cycles_xA3 _ _ _ _).2.2 (impl_First_cycles_xA3 _ _ _ _).1 (impl_First_cycles_xA3 _ _ _ _).2.1 (by omega) (by omega)) ?_) | (refine impl_First_cycles_xThen (G := fun W => Exit.then _ _ Exit.normal _ W) (impl_First_cycles_I w w21.heap.size q0 q1 (w21.heap.size + 1 + 1) w21.heap.size b0 b1 b2 b3 b4 x ji4 (.slice (some ⟨(w21.heap.size + 1), 0, none⟩) 0 0) []) (impl_First_cycles_I.setup BK0.out BK1.out HB.out (by repeat (first | (with_reducible first | apply below_alloc | apply pw_below_drewN | apply below_drew1) | exact Below.refl _ _)) (impl_First_cycles_xA3 _ _ _ _).2.1 (impl_First_cycles_xA3 _ _ _ _).1 (impl_First_cycles_xA3 _ _ _ _).2.2 (by omega) (by omega)) ?_) | (refine impl_First_cycles_xThen (G := fun W => Exit.then _ _ Exit.normal _ W) (impl_First_cycles_I w w21.heap.size q0 q1 w21.heap.size (w21.heap.size + 1) b0 b1 b2 b3 b4 x ji4 (.slice (some ⟨(w21.heap.size + 1 + 1), 0, none⟩) 0 0) []) (impl_First_cycles_I.setup BK0.out BK1.out HB.out (by repeat (first | (with_reducible first | apply below_alloc | apply pw_below_drewN | apply below_drew1) | exact Below.refl _ _)) (impl_First_cycles_xA3 _ _ _ _).2.2 (impl_First_cycles_xA3 _ _ _ _).2.1 (impl_First_cycles_xA3 _ _ _ _).1 (by omega) (by omega)) ?_) | (refine impl_First_cycles_xThen (G := fun W => Exit.then _ _ Exit.normal _ W) (impl_First_cycles_I w w21.heap.size q0 q1 (w21.heap.size + 1 + 1) (w21.heap.size + 1) b0 b1 b2 b3 b4 x ji4 (.slice (some ⟨w21.heap.size, 0, none⟩) 0 0) []) (impl_First_cycles_I.setup BK0.out BK1.out HB.out (by repeat (first | (with_reducible first | apply below_alloc | apply pw_below_drewN | apply below_drew1) | exact Below.refl _ _)) (impl_First_cycles_xA3 _ _ _ _).1 (impl_First_cycles_xA3 _ _ _ _).2.1 (impl_First_cycles_xA3 _ _ _ _).2.2 (by omega) (by omega)) ?_) | (refine impl_First_cycles_xThen (G := fun W => Exit.then _ _ Exit.normal _ W) (impl_First_cycles_I w w21.heap.size q0 q1 w21.heap.size (w21.heap.size + 1 + 1) b0 b1 b2 b3 b4 x ji4 (.slice (some ⟨(w21.heap.size + 1), 0, none⟩) 0 0) []) (impl_First_cycles_I.setup BK0.out BK1.out HB.out (by repeat (first | (with_reducible first | apply below_alloc | apply pw_below_drewN | apply below_drew1) | exact Below.refl _ _)) (impl_First_cycles_xA3 _ _ _ _).2.1 (impl_First_cycles_xA3 _ _ _ _).2.2 (impl_First_cycles_xA3 _ _ _ _).1 (by omega) (by omega)) ?_) | (refine impl_First_cycles_xThen (G := fun W => Exit.then _ _ Exit.normal _ W) (impl_First_cycles_I w w21.heap.size q0 q1 (w21.heap.size + 1) (w21.heap.size + 1 + 1) b0 b1 b2 b3 b4 x ji4 (.slice (some ⟨w21.heap.size, 0, none⟩) 0 0) []) (impl_First_cycles_I.setup BK0.out BK1.out HB.out (by repeat (first | (with_reducible first | apply below_alloc | apply pw_below_drewN | apply below_drew1) | exact Below.refl _ _)) (impl_First_cycles_xA3 _ _ _ _).1 (impl_First_cycles_xA3 _ _ _ _).2.2 (impl_First_cycles_xA3 _ _ _ _).2.1 (by omega) (by omega)) ?_))
 all_goals intro W5 HI0
 all_goals have HI := xA HI0
 all_goals clear HI0 HB BK0 BK1 hcz_0 hcz_1 hcz_2 hcz_3 hcz_4
 all_goals obtain ⟨hq0, -, hi0, -, hi1, ho_, -⟩ := HI.out; obtain ⟨hcz_0, hcz_1, hcz_2, hcz_3, hcz_4, -⟩ := impl_First_cycles_xZ5c hq0; obtain ⟨hci0, -⟩ := impl_First_cycles_xZ1c hi0; obtain ⟨hci1, -⟩ := impl_First_cycles_xZ1c hi1; obtain ⟨hco, hfo⟩ := impl_First_cycles_xZ1c ho_; clear hq0 hi0 hi1 ho_
 all_goals go_wp2_with (first | (go_at_call 308; (with_reducible refine (impl_First_cycles_scan.calls k b0 b1 b2 b3 b4 lo hi x ji4 r _ w _ w21.heap.size q0 q1 _ _ HE.out L1.out L2.out L3.out LP.out (impl_First_cycles_I.below HI.out (by repeat (first | (with_reducible first | apply below_alloc | apply pw_below_drewN | apply below_drew1) | exact Below.refl _ _)))).mono ?_); rintro e w43 ⟨rfl, v2, hI⟩; replace HI := xA hI; clear hI hcz_0 hcz_1 hcz_2 hcz_3 hcz_4 hci0 hci1 hco hfo; obtain ⟨hq0, -, hi0, -, hi1, ho_, -⟩ := HI.out; obtain ⟨hcz_0, hcz_1, hcz_2, hcz_3, hcz_4, -⟩ := impl_First_cycles_xZ5c hq0; obtain ⟨hci0, -⟩ := impl_First_cycles_xZ1c hi0; obtain ⟨hci1, -⟩ := impl_First_cycles_xZ1c hi1; obtain ⟨hco, hfo⟩ := impl_First_cycles_xZ1c ho_; clear hq0 hi0 hi1 ho_))
 all_goals go_ret
 all_goals exact ⟨_, by first | rfl | (simp; done) | (simp [*]; done), impl_First_cycles_I.fin HI.out (by repeat (first | (with_reducible first | apply below_alloc | apply pw_below_drewN | apply below_drew1) | exact Below.refl _ _))⟩

/-! ### impl_CyclesOfFirst: function 106 -/
def impl_CyclesOfFirst.f (k : Nat) (a0_0 : Int) (a0_1 : Int) (a0_2 : Int) (a0_3 : Int) (a0_4 : Bool) (a1 : Int) : Option ((List (List Int)) × Bool) := (impl_First_isScanned.f a0_0 a0_1 a0_2 a0_3 a0_4 a1).bind fun t247 => (if t247 = true then ((impl_First_cycles.f k a0_0 a0_1 a0_2 a0_3 a0_4 a1).bind fun t248 => (some (t248, true))) else (some (([] : List (List Int)), false)))
theorem impl_CyclesOfFirst.mono : ∀ a0 a1 a2 a3 a4 a5 k, LeO (impl_CyclesOfFirst.f k a0 a1 a2 a3 a4 a5) (impl_CyclesOfFirst.f (k + 1) a0 a1 a2 a3 a4 a5) := by
 intro a0 a1 a2 a3 a4 a5 k
 have m0 := @impl_First_cycles.mono
 unfold impl_CyclesOfFirst.f
 exact xM
set_option maxHeartbeats 200000000 in
set_option maxRecDepth 100000 in
theorem impl_CyclesOfFirst.calls (k : Nat) (a0_0 : Int) (a0_1 : Int) (a0_2 : Int) (a0_3 : Int) (a0_4 : Bool) (a1 : Int) (r1 : List (List Int)) (r2 : Bool) (w : World) (h : impl_CyclesOfFirst.f k a0_0 a0_1 a0_2 a0_3 a0_4 a1 = some (r1, r2)) :
  Calls Try.prog 106 #[.agg #[.int .i64 a0_0, .int .i64 a0_1, .int .i64 a0_2, .int .i64 a0_3, .bool a0_4], .int .i64 a1] w fun e w' => ∃ v0_ : Value, e = .returned (.tuple #[v0_, .bool r2]) ∧ Kd.N (Kd.slice 3 (Kd.int .i64)) 24 w' w.heap.size (fun k_ => (w.heap.size ≤ k_)) v0_ r1 ∧ Below w.heap.size w w' := by
 have hu62 := Try.underlying62
 have HB := xA (Below.refl w.heap.size w)
 have H : ((impl_First_isScanned.f a0_0 a0_1 a0_2 a0_3 a0_4 a1).bind fun t247 => (if t247 = true then ((impl_First_cycles.f k a0_0 a0_1 a0_2 a0_3 a0_4 a1).bind fun t248 => (some (t248, true))) else (some (([] : List (List Int)), false)))) = some (r1, r2) := h
 clear h
 obtain ⟨t247, A3, H⟩ := xO H
 (try dsimp only at H)
 by_cases c4 : t247 = true
 rotate_left
 ·replace c4 := Bool.eq_false_iff.mpr c4
  subst c4
  rw [if_neg (show ¬ (false = true) by decide)] at H
  simp only [Option.some.injEq, Prod.mk.injEq] at H
  obtain ⟨rfl, rfl⟩ := H
  go_enter Try.func106, Try.ntmps106
  go_wp2_with (first | (refine xg 2 rfl ?_; refine xV 2 #[.int .i64 a0_0, .int .i64 a0_1, .int .i64 a0_2, .int .i64 a0_3, .bool a0_4] 62 ?_; intro gb246 hg w11 hbox hb; have BK246 := xA (hbox); have GW246 := xgw hg (below_size (xB HB.out)); have GE246 := GW246; replace HB := xA (below_step (xB HB.out) hb); clear hb hbox hg; obtain ⟨hcz12_0, hcz12_1, hcz12_2, hcz12_3, hcz12_4, hfz12_0, hfz12_1, hfz12_2, hfz12_3, hfz12_4⟩ := xZ5 BK246.out) | (refine xG (some 8) Try.func304 #[.agg #[.int .i64 a0_0, .int .i64 a0_1, .int .i64 a0_2, .int .i64 a0_3, .bool a0_4], .int .i64 a1] ?_; (with_reducible refine (impl_First_isScanned.calls a0_0 a0_1 a0_2 a0_3 a0_4 a1 false _ A3.out).mono ?_); rintro e w13 ⟨rfl, hb⟩; refine ⟨_, rfl, ?_⟩; replace BK246 := xkb BK246 hb; replace HB := xA (below_step (xB1 GE246.out HB.out) hb); (try clear hb)))
  go_ret2
  exact ⟨_, xr, by first | exact Kd.S_nil _ _ _ _ _ | exact Kd.N_nil _ _ _ _ _ | exact Kd.V_nil _ _ _ _ _ | exact Kd.Q_nil _ _ _ _ _ | exact Kd.R_nil _ _ _ _ _, xB1 GE246.out HB.out⟩

 subst c4
 rw [if_pos rfl] at H
 obtain ⟨t248, A5, H⟩ := xO H
 (try dsimp only at H)
 simp only [Option.some.injEq, Prod.mk.injEq] at H
 obtain ⟨rfl, rfl⟩ := H
 go_enter Try.func106, Try.ntmps106
 go_wp2_with (first | (refine xq rfl ?_; first | (refine xG (some 8) Try.func304 #[.agg #[.int .i64 a0_0, .int .i64 a0_1, .int .i64 a0_2, .int .i64 a0_3, .bool a0_4], .int .i64 a1] ?_; (with_reducible refine (impl_First_isScanned.calls a0_0 a0_1 a0_2 a0_3 a0_4 a1 true _ A3.out).mono ?_); rintro e w8 ⟨rfl, hb⟩; refine ⟨_, rfl, ?_⟩; replace BK246 := xkb BK246 hb; replace HB := xA (below_step (xB1 GE246.out HB.out) hb); (try clear hb); obtain ⟨hcz9_0, hcz9_1, hcz9_2, hcz9_3, hcz9_4, hfz9_0, hfz9_1, hfz9_2, hfz9_3, hfz9_4⟩ := xZ5 BK246.out) | (refine xG (some 12) Try.func305 #[.agg #[.int .i64 a0_0, .int .i64 a0_1, .int .i64 a0_2, .int .i64 a0_3, .bool a0_4], .int .i64 a1] ?_; (with_reducible refine (impl_First_cycles.calls k a0_0 a0_1 a0_2 a0_3 a0_4 a1 t248 _ A5.out).mono ?_); rintro e w10 ⟨v249, rfl, ho0, hb⟩; refine ⟨_, rfl, ?_⟩; have HO250 := xA (Kd.N_lower (Kd.N_mono (ok' := fun k_ => (w.heap.size ≤ k_) ∧ k_ ≠ gb246) ho0 (fun k_ hk_ => ⟨(Nat.le_trans (below_size (xB1 GE246.out HB.out)) hk_), (Kd.freshB (xK BK246.out) k_ hk_)⟩)) (below_size (xB1 GE246.out HB.out))); replace BK246 := xkb BK246 hb; replace HB := xA (below_step (xB1 GE246.out HB.out) hb); (try clear hb); (try clear ho0))) | (refine xg 2 rfl ?_; refine xV 2 #[.int .i64 a0_0, .int .i64 a0_1, .int .i64 a0_2, .int .i64 a0_3, .bool a0_4] 62 ?_; intro gb246 hg w6 hbox hb; have BK246 := xA (hbox); have GW246 := xgw hg (below_size (xB HB.out)); have GE246 := GW246; replace HB := xA (below_step (xB HB.out) hb); clear hb hbox hg; replace hz246 := blk_cell BK246.out; replace hy246 := blk_frozen BK246.out))
 go_ret2
 exact ⟨_, xr, by (with_reducible repeat (first | apply Kd.N_alloc | apply Kd.N_drewN | apply Kd.N_drew)); exact Kd.N_mono HO250.out (fun _ hk => hk.1), xB1 GE246.out HB.out⟩
/-! ### spec_l1In: function 230 -/
def spec_l1In.f (a0 : Int) (a1 : Int) (a2 : Int) : Option (Bool) := if a0 ≥ a1 then (some (decide (a0 ≤ a2))) else (some false)
set_option maxHeartbeats 200000000 in
set_option maxRecDepth 100000 in
theorem spec_l1In.calls (a0 : Int) (a1 : Int) (a2 : Int) (r : Bool) (w : World) (h : spec_l1In.f a0 a1 a2 = some r) :
  Calls Try.prog 230 #[.int .i64 a0, .int .i64 a1, .int .i64 a2] w fun e w' => e = .returned (.bool r) ∧ Drawn0 w w' := by
 have H : (if a0 ≥ a1 then (some (decide (a0 ≤ a2))) else (some false)) = some r := h
 clear h
 by_cases c4 : a0 ≥ a1
 ·rw [if_pos c4] at H
  have c4b0 : decide (a1 ≤ a0) = true := decide_eq_true c4
  clear c4
  obtain rfl := Option.some.inj H
  go_enter Try.func230, Try.ntmps230
  go_wp2
  go_ret
  exact ⟨by first | rfl | (simp; done) | (simp [*]; done), by repeat (first | exact Drawn0.refl _ | apply Drawn0.step)⟩
 rw [if_neg c4] at H
 have c4b0 : decide (a1 ≤ a0) = false := decide_eq_false c4
 clear c4
 obtain rfl := Option.some.inj H
 go_enter Try.func230, Try.ntmps230
 go_wp2
 go_ret
 exact ⟨by first | rfl | (simp; done) | (simp [*]; done), by repeat (first | exact Drawn0.refl _ | apply Drawn0.step)⟩

/-! ### spec_wdGood: function 267 -/
def spec_wdGood.f (a0_0 : Int) (a0_1 : Bool) : Option (Bool) := (spec_l1In.f a0_0 2 16).bind fun t252 => (some t252)
set_option maxHeartbeats 200000000 in
set_option maxRecDepth 100000 in
theorem spec_wdGood.calls (a0_0 : Int) (a0_1 : Bool) (r : Bool) (w : World) (h : spec_wdGood.f a0_0 a0_1 = some r) :
  Calls Try.prog 267 #[.agg #[.int .i64 a0_0, .bool a0_1]] w fun e w' => e = .returned (.bool r) ∧ Below w.heap.size w w' := by
 have hu46 := Try.underlying46
 have HB := xA (Below.refl w.heap.size w)
 have H : ((spec_l1In.f a0_0 2 16).bind fun t252 => (some t252)) = some r := h
 clear h
 obtain ⟨t252, A2, H⟩ := xO H
 (try dsimp only at H)
 obtain rfl := Option.some.inj H
 go_enter Try.func267, Try.ntmps267
 go_wp2_with (first | (refine xg 1 rfl ?_; refine xV 1 #[.int .i64 a0_0, .bool a0_1] 46 ?_; intro gb251 hg w3 hbox hb; have BK251 := xA (hbox); have GW251 := xgw hg (below_size (xB HB.out)); have GE251 := GW251; replace HB := xA (below_step (xB HB.out) hb); clear hb hbox hg; replace hz251 := blk_cell BK251.out; replace hy251 := blk_frozen BK251.out) | (refine xG (some 5) Try.func230 #[.int .i64 a0_0, .int .i64 2, .int .i64 16] ?_; (with_reducible refine (spec_l1In.calls a0_0 2 16 t252 _ A2.out).mono ?_); rintro e w' ⟨rfl, ⟨nd, rfl⟩⟩; refine ⟨_, rfl, ?_⟩))
 go_ret
 exact ⟨xr, xB1 GE251.out HB.out⟩

/-! ### spec_wdMode: function 366 -/
def spec_wdMode.f (a0 : Int) (a1 : Int) : Option (Bool) := (spec_l1In.f a0 0 20).bind fun t253 => (if t253 = true then ((spec_l1In.f a1 0 2).bind fun t254 => (some t254)) else (some false))
set_option maxHeartbeats 200000000 in
set_option maxRecDepth 100000 in
theorem spec_wdMode.calls (a0 : Int) (a1 : Int) (r : Bool) (w : World) (h : spec_wdMode.f a0 a1 = some r) :
  Calls Try.prog 366 #[.int .i64 a0, .int .i64 a1] w fun e w' => e = .returned (.bool r) ∧ Drawn0 w w' := by
 have H : ((spec_l1In.f a0 0 20).bind fun t253 => (if t253 = true then ((spec_l1In.f a1 0 2).bind fun t254 => (some t254)) else (some false))) = some r := h
 clear h
 obtain ⟨t253, A3, H⟩ := xO H
 (try dsimp only at H)
 by_cases c4 : t253 = true
 rotate_left
 ·replace c4 := Bool.eq_false_iff.mpr c4
  subst c4
  rw [if_neg (show ¬ (false = true) by decide)] at H
  obtain rfl := Option.some.inj H
  go_enter Try.func366, Try.ntmps366
  go_wp2_with (first | (refine xG (some 6) Try.func230 #[.int .i64 a0, .int .i64 0, .int .i64 20] ?_; (with_reducible refine (spec_l1In.calls a0 0 20 false _ A3.out).mono ?_); rintro e w' ⟨rfl, ⟨nd, rfl⟩⟩; refine ⟨_, rfl, ?_⟩))
  go_ret
  exact ⟨by first | rfl | (simp; done) | (simp [*]; done), by repeat (first | exact Drawn0.refl _ | apply Drawn0.step)⟩

 subst c4
 rw [if_pos rfl] at H
 obtain ⟨t254, A5, H⟩ := xO H
 (try dsimp only at H)
 obtain rfl := Option.some.inj H
 go_enter Try.func366, Try.ntmps366
 go_wp2_with (first | (refine xG (some 6) Try.func230 #[.int .i64 a0, .int .i64 0, .int .i64 20] ?_; (with_reducible refine (spec_l1In.calls a0 0 20 true _ A3.out).mono ?_); rintro e w' ⟨rfl, ⟨nd, rfl⟩⟩; refine ⟨_, rfl, ?_⟩) | (go_at_call 230; (with_reducible refine (spec_l1In.calls a1 0 2 t254 _ A5.out).mono ?_); rintro e w' ⟨rfl, ⟨nd, rfl⟩⟩))
 go_ret
 exact ⟨by first | rfl | (simp; done) | (simp [*]; done), by repeat (first | exact Drawn0.refl _ | apply Drawn0.step)⟩
/-! ### spec_foGood: function 297 -/
def spec_foGood.f (a0_0 : Int) (a0_1 : Int) (a0_2 : Int) (a0_3 : Int) (a0_4 : Bool) : Option (Bool) := (spec_l1In.f a0_0 (-1024) 1024).bind fun t256 => (if t256 = true then ((spec_l1In.f a0_1 0 10).bind fun t257 => (if t257 = true then ((spec_wdMode.f a0_1 a0_2).bind fun t258 => (if t258 = true then ((spec_wdGood.f a0_3 a0_4).bind fun t259 => (some t259)) else (some false))) else (some false))) else (some false))
set_option maxHeartbeats 200000000 in
set_option maxRecDepth 100000 in
theorem spec_foGood.calls (a0_0 : Int) (a0_1 : Int) (a0_2 : Int) (a0_3 : Int) (a0_4 : Bool) (r : Bool) (w : World) (h : spec_foGood.f a0_0 a0_1 a0_2 a0_3 a0_4 = some r) :
  Calls Try.prog 297 #[.agg #[.int .i64 a0_0, .int .i64 a0_1, .int .i64 a0_2, .int .i64 a0_3, .bool a0_4]] w fun e w' => e = .returned (.bool r) ∧ Below w.heap.size w w' := by
 have hu62 := Try.underlying62
 have hu46 := Try.underlying46
 have HB := xA (Below.refl w.heap.size w)
 have H : ((spec_l1In.f a0_0 (-1024) 1024).bind fun t256 => (if t256 = true then ((spec_l1In.f a0_1 0 10).bind fun t257 => (if t257 = true then ((spec_wdMode.f a0_1 a0_2).bind fun t258 => (if t258 = true then ((spec_wdGood.f a0_3 a0_4).bind fun t259 => (some t259)) else (some false))) else (some false))) else (some false))) = some r := h
 clear h
 obtain ⟨t256, A2, H⟩ := xO H
 (try dsimp only at H)
 by_cases c3 : t256 = true
 rotate_left
 ·replace c3 := Bool.eq_false_iff.mpr c3
  subst c3
  rw [if_neg (show ¬ (false = true) by decide)] at H
  obtain rfl := Option.some.inj H
  go_enter Try.func297, Try.ntmps297
  go_wp2_with (first | (refine xg 1 rfl ?_; refine xV 1 #[.int .i64 a0_0, .int .i64 a0_1, .int .i64 a0_2, .int .i64 a0_3, .bool a0_4] 62 ?_; intro gb255 hg w16 hbox hb; have BK255 := xA (hbox); have GW255 := xgw hg (below_size (xB HB.out)); have GE255 := GW255; replace HB := xA (below_step (xB HB.out) hb); clear hb hbox hg; replace hz255 := blk_cell BK255.out; replace hy255 := blk_frozen BK255.out) | (refine xG (some 5) Try.func230 #[.int .i64 a0_0, .int .i64 (-1024), .int .i64 1024] ?_; (with_reducible refine (spec_l1In.calls a0_0 (-1024) 1024 false _ A2.out).mono ?_); rintro e w' ⟨rfl, ⟨nd, rfl⟩⟩; refine ⟨_, rfl, ?_⟩))
  go_ret
  exact ⟨xr, xB1 GE255.out HB.out⟩

 subst c3
 rw [if_pos rfl] at H
 obtain ⟨t257, A4, H⟩ := xO H
 (try dsimp only at H)
 by_cases c5 : t257 = true
 rotate_left
 ·replace c5 := Bool.eq_false_iff.mpr c5
  subst c5
  rw [if_neg (show ¬ (false = true) by decide)] at H
  obtain rfl := Option.some.inj H
  go_enter Try.func297, Try.ntmps297
  go_wp2_with (first | (refine xg 1 rfl ?_; refine xV 1 #[.int .i64 a0_0, .int .i64 a0_1, .int .i64 a0_2, .int .i64 a0_3, .bool a0_4] 62 ?_; intro gb255 hg w14 hbox hb; have BK255 := xA (hbox); have GW255 := xgw hg (below_size (xB HB.out)); have GE255 := GW255; replace HB := xA (below_step (xB HB.out) hb); clear hb hbox hg; replace hz255 := blk_cell BK255.out; replace hy255 := blk_frozen BK255.out) | (refine xG (some 5) Try.func230 #[.int .i64 a0_0, .int .i64 (-1024), .int .i64 1024] ?_; (with_reducible refine (spec_l1In.calls a0_0 (-1024) 1024 true _ A2.out).mono ?_); rintro e w' ⟨rfl, ⟨nd, rfl⟩⟩; refine ⟨_, rfl, ?_⟩) | (go_at_call 230; (with_reducible refine (spec_l1In.calls a0_1 0 10 false _ A4.out).mono ?_); rintro e w' ⟨rfl, ⟨nd, rfl⟩⟩))
  go_ret
  exact ⟨xr, xB1 GE255.out HB.out⟩
 subst c5
 rw [if_pos rfl] at H
 obtain ⟨t258, A6, H⟩ := xO H
 (try dsimp only at H)
 by_cases c7 : t258 = true
 rotate_left
 ·replace c7 := Bool.eq_false_iff.mpr c7
  subst c7
  rw [if_neg (show ¬ (false = true) by decide)] at H
  obtain rfl := Option.some.inj H
  go_enter Try.func297, Try.ntmps297
  go_wp2_with (first | (refine xg 1 rfl ?_; refine xV 1 #[.int .i64 a0_0, .int .i64 a0_1, .int .i64 a0_2, .int .i64 a0_3, .bool a0_4] 62 ?_; intro gb255 hg w12 hbox hb; have BK255 := xA (hbox); have GW255 := xgw hg (below_size (xB HB.out)); have GE255 := GW255; replace HB := xA (below_step (xB HB.out) hb); clear hb hbox hg; replace hz255 := blk_cell BK255.out; replace hy255 := blk_frozen BK255.out) | (refine xG (some 5) Try.func230 #[.int .i64 a0_0, .int .i64 (-1024), .int .i64 1024] ?_; (with_reducible refine (spec_l1In.calls a0_0 (-1024) 1024 true _ A2.out).mono ?_); rintro e w' ⟨rfl, ⟨nd, rfl⟩⟩; refine ⟨_, rfl, ?_⟩) | (go_at_call 230; (with_reducible refine (spec_l1In.calls a0_1 0 10 true _ A4.out).mono ?_); rintro e w' ⟨rfl, ⟨nd, rfl⟩⟩) | (go_at_call 366; (with_reducible refine (spec_wdMode.calls a0_1 a0_2 false _ A6.out).mono ?_); rintro e w' ⟨rfl, ⟨nd, rfl⟩⟩))
  go_ret
  exact ⟨xr, xB1 GE255.out HB.out⟩
 subst c7
 rw [if_pos rfl] at H
 obtain ⟨t259, A8, H⟩ := xO H
 (try dsimp only at H)
 obtain rfl := Option.some.inj H
 go_enter Try.func297, Try.ntmps297
 go_wp2_with (first | (refine xg 1 rfl ?_; refine xV 1 #[.int .i64 a0_0, .int .i64 a0_1, .int .i64 a0_2, .int .i64 a0_3, .bool a0_4] 62 ?_; intro gb255 hg w9 hbox hb; have BK255 := xA (hbox); have GW255 := xgw hg (below_size (xB HB.out)); have GE255 := GW255; replace HB := xA (below_step (xB HB.out) hb); clear hb hbox hg; obtain ⟨hcz10_0, hcz10_1, hcz10_2, hcz10_3, hcz10_4, hfz10_0, hfz10_1, hfz10_2, hfz10_3, hfz10_4⟩ := xZ5 BK255.out) | (refine xG (some 5) Try.func230 #[.int .i64 a0_0, .int .i64 (-1024), .int .i64 1024] ?_; (with_reducible refine (spec_l1In.calls a0_0 (-1024) 1024 true _ A2.out).mono ?_); rintro e w' ⟨rfl, ⟨nd, rfl⟩⟩; refine ⟨_, rfl, ?_⟩) | (go_at_call 230; (with_reducible refine (spec_l1In.calls a0_1 0 10 true _ A4.out).mono ?_); rintro e w' ⟨rfl, ⟨nd, rfl⟩⟩) | (go_at_call 366; (with_reducible refine (spec_wdMode.calls a0_1 a0_2 true _ A6.out).mono ?_); rintro e w' ⟨rfl, ⟨nd, rfl⟩⟩) | (go_at_call 267; (with_reducible refine (spec_wdGood.calls a0_3 a0_4 t259 _ A8.out).mono ?_); rintro e w11 ⟨rfl, hb⟩; replace BK255 := xkb BK255 hb; replace HB := xA (below_step (xB1 GE255.out HB.out) hb); (try clear hb)))
 go_ret
 exact ⟨xr, xB1 GE255.out HB.out⟩
/-! ### spec_wdLow: function 268 -/
def spec_wdLow.f (a0_0 : Int) (a0_1 : Bool) : Option (Int) := if 0 ≤ (wrap64 (a0_0 - 1)) then (some (wrap64 (-(shl .i64 1 (wrap64 (a0_0 - 1)))))) else (none)
set_option maxHeartbeats 200000000 in
set_option maxRecDepth 100000 in
theorem spec_wdLow.calls (a0_0 : Int) (a0_1 : Bool) (r : Int) (w : World) (h : spec_wdLow.f a0_0 a0_1 = some r) :
  Calls Try.prog 268 #[.agg #[.int .i64 a0_0, .bool a0_1]] w fun e w' => e = .returned (.int .i64 r) ∧ Below w.heap.size w w' := by
 have hu46 := Try.underlying46
 have HB := xA (Below.refl w.heap.size w)
 have H : (if 0 ≤ (wrap64 (a0_0 - 1)) then (some (wrap64 (-(shl .i64 1 (wrap64 (a0_0 - 1)))))) else (none)) = some r := h
 clear h
 obtain ⟨ji2, hji2⟩ : ∃ j_ : Int, (wrap64 (a0_0 - 1)) = j_ := ⟨_, rfl⟩
 (first | rw [hji2] at H | simp only [hji2] at H)
 have hji2w : (IntKind.i64.wrap (a0_0 - 1)) = ji2 := (i64_w _).trans hji2
 by_cases c3 : 0 ≤ (ji2)
 rotate_left
 ·rw [if_neg c3] at H
  exact absurd H (by simp)

 rw [if_pos c3] at H
 have c3b0 := eq_true c3
 have c3b1 : decide (0 ≤ (ji2)) = true := decide_eq_true c3
 clear c3
 obtain ⟨ji4, hji4⟩ : ∃ j_ : Int, (shl .i64 1 (ji2)) = j_ := ⟨_, rfl⟩
 (first | rw [hji4] at H | simp only [hji4] at H)
 have hji4_ : (IntKind.i64.wrap (1 * 2 ^ min (ji2).toNat 64)) = ji4 := hji4
 have hji4z : (ji2) ≤ 64 → (IntKind.i64.wrap (1 * 2 ^ (ji2).toNat)) = ji4 := shl_small hji4
 have hji4u : (IntKind.i64.wrap (2 ^ min (ji2).toNat 64)) = ji4 := by have h_ := hji4_; rw [Int.one_mul] at h_; exact h_
 have hji4v : (ji2) ≤ 64 → (IntKind.i64.wrap (2 ^ (ji2).toNat)) = ji4 := fun hle_ => by have h_ := hji4z hle_; rw [Int.one_mul] at h_; exact h_
 have hji4y : (wrap64 (1 * 2 ^ min (ji2).toNat 64)) = ji4 := (i64_w _).symm.trans hji4_
 have hji4x : (ji2) ≤ 64 → (wrap64 (1 * 2 ^ (ji2).toNat)) = ji4 := fun h_ => (i64_w _).symm.trans (hji4z h_)
 obtain rfl := Option.some.inj H
 go_enter Try.func268, Try.ntmps268
 go_wp2_with (first | (refine xg 1 rfl ?_; refine xV 1 #[.int .i64 a0_0, .bool a0_1] 46 ?_; intro gb260 hg w5 hbox hb; have BK260 := xA (hbox); have GW260 := xgw hg (below_size (xB HB.out)); have GE260 := GW260; replace HB := xA (below_step (xB HB.out) hb); clear hb hbox hg; obtain ⟨hcz6_0, hcz6_1, hfz6_0, hfz6_1⟩ := xZ2 BK260.out))
 go_ret
 exact ⟨by first | rfl | (simp [errW_none, errW_some] <;> rfl) | (simp only [← hji2, ← hji4]; first | rfl | (simp [errW_none, errW_some] <;> rfl)) | (simp [*, errW_none, errW_some] <;> rfl), xB1 GE260.out HB.out⟩
/-! ### spec_wdHigh: function 269 -/
def spec_wdHigh.f (a0_0 : Int) (a0_1 : Bool) : Option (Int) := if 0 ≤ (wrap64 (a0_0 - 1)) then (some (wrap64 ((shl .i64 1 (wrap64 (a0_0 - 1))) - 1))) else (none)
set_option maxHeartbeats 200000000 in
set_option maxRecDepth 100000 in
theorem spec_wdHigh.calls (a0_0 : Int) (a0_1 : Bool) (r : Int) (w : World) (h : spec_wdHigh.f a0_0 a0_1 = some r) :
  Calls Try.prog 269 #[.agg #[.int .i64 a0_0, .bool a0_1]] w fun e w' => e = .returned (.int .i64 r) ∧ Below w.heap.size w w' := by
 have hu46 := Try.underlying46
 have HB := xA (Below.refl w.heap.size w)
 have H : (if 0 ≤ (wrap64 (a0_0 - 1)) then (some (wrap64 ((shl .i64 1 (wrap64 (a0_0 - 1))) - 1))) else (none)) = some r := h
 clear h
 obtain ⟨ji2, hji2⟩ : ∃ j_ : Int, (wrap64 (a0_0 - 1)) = j_ := ⟨_, rfl⟩
 (first | rw [hji2] at H | simp only [hji2] at H)
 have hji2w : (IntKind.i64.wrap (a0_0 - 1)) = ji2 := (i64_w _).trans hji2
 by_cases c3 : 0 ≤ (ji2)
 rotate_left
 ·rw [if_neg c3] at H
  exact absurd H (by simp)

 rw [if_pos c3] at H
 have c3b0 := eq_true c3
 have c3b1 : decide (0 ≤ (ji2)) = true := decide_eq_true c3
 clear c3
 obtain ⟨ji4, hji4⟩ : ∃ j_ : Int, (shl .i64 1 (ji2)) = j_ := ⟨_, rfl⟩
 (first | rw [hji4] at H | simp only [hji4] at H)
 have hji4_ : (IntKind.i64.wrap (1 * 2 ^ min (ji2).toNat 64)) = ji4 := hji4
 have hji4z : (ji2) ≤ 64 → (IntKind.i64.wrap (1 * 2 ^ (ji2).toNat)) = ji4 := shl_small hji4
 have hji4u : (IntKind.i64.wrap (2 ^ min (ji2).toNat 64)) = ji4 := by have h_ := hji4_; rw [Int.one_mul] at h_; exact h_
 have hji4v : (ji2) ≤ 64 → (IntKind.i64.wrap (2 ^ (ji2).toNat)) = ji4 := fun hle_ => by have h_ := hji4z hle_; rw [Int.one_mul] at h_; exact h_
 have hji4y : (wrap64 (1 * 2 ^ min (ji2).toNat 64)) = ji4 := (i64_w _).symm.trans hji4_
 have hji4x : (ji2) ≤ 64 → (wrap64 (1 * 2 ^ (ji2).toNat)) = ji4 := fun h_ => (i64_w _).symm.trans (hji4z h_)
 obtain rfl := Option.some.inj H
 go_enter Try.func269, Try.ntmps269
 go_wp2_with (first | (refine xg 1 rfl ?_; refine xV 1 #[.int .i64 a0_0, .bool a0_1] 46 ?_; intro gb261 hg w5 hbox hb; have BK261 := xA (hbox); have GW261 := xgw hg (below_size (xB HB.out)); have GE261 := GW261; replace HB := xA (below_step (xB HB.out) hb); clear hb hbox hg; obtain ⟨hcz6_0, hcz6_1, hfz6_0, hfz6_1⟩ := xZ2 BK261.out))
 go_ret
 exact ⟨by first | rfl | (simp [errW_none, errW_some] <;> rfl) | (simp only [← hji2, ← hji4]; first | rfl | (simp [errW_none, errW_some] <;> rfl)) | (simp [*, errW_none, errW_some] <;> rfl), xB1 GE261.out HB.out⟩
end Go.Proofs.Ytjplcongellcmaa.PFnFirstCycles
