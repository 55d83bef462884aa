/- The machine side of functions of this seat, written by the session's program myprint.py: for each Go function a Lean function and the proof that the call answers just it. -/
import Derived.Test.YtainbbpmaengjaaPAx0
import Derived.Test.YtainbbpmaengjaaPAx2
import Derived.Test.YtainbbpmaengjaaPAx10
import Derived.Test.YtainbbpmaengjaaPAx12
import Derived.Test.YtainbbpmaengjaaPAx23
import Derived.Test.YtainbbpmaengjaaPAx33
namespace Go.Proofs.Ytainbbpmaengjaa.PA
open Go.RowKit Go.Proofs.YtainbbpmaengjaaW.PrintWords Go.Proofs.YtainbbpmaengjaaW.PrintLast Go.Proofs.YtainbbpmaengjaaW.PrintMore
attribute [local go_sem] max2_int min2_int max_two min_two max_three min_three max_four min_four   -- for this text's walks alone
set_option linter.unusedVariables false
set_option linter.unusedSimpArgs false

/-! ### laws_FnSoIn: function 10 -/
def laws_FnSoIn.j0 : Nat → Int → Int → Bool → Bool → Int → Int → Int → Option (Bool)
  | 0, _, _, _, _, _, _, _ => none
  | k + 1, x3, x4, x6, x41, x354000, x354001, x354002 => if x41 = true then (if x6 = true then (some false) else ((laws_alive.f).bind fun t357 => (some t357))) else ((impl_SoIn.f k x3 x4 (wrap64 (1 - x354000)) x354001 (wrap64 ((wrap64 (x354002 + 1)) - (wrap64 (2 * (Int.tmod x354002 2)))))).bind fun t358 => (some (t358 != x6)))
def laws_FnSoIn.f (k : Nat) (l0 : List Int) : Option (Bool) := if (l0.length : Int) > 1048576 then (some true) else ((spec_DrawSoIn.f k l0).bind fun bt348 => ((impl_SoIn.f k bt348.1 bt348.2.1 bt348.2.2.1 bt348.2.2.2.1 bt348.2.2.2.2).bind fun t354 => ((spec_SoIn.f k bt348.1 bt348.2.1 bt348.2.2.1 bt348.2.2.2.1 bt348.2.2.2.2).bind fun t355 => (if (t354 != t355) = true then (some false) else ((spec_SayOk.f bt348.1 bt348.2.2.1 bt348.2.2.2.1 bt348.2.2.2.2).bind fun t356 => (if t356 = true then (if bt348.2.1 < 0 then (laws_FnSoIn.j0 k bt348.1 bt348.2.1 t354 true bt348.2.2.1 bt348.2.2.2.1 bt348.2.2.2.2) else (if 0 ≤ bt348.1 then (laws_FnSoIn.j0 k bt348.1 bt348.2.1 t354 (decide (bt348.2.1 ≥ (shl .i64 1 (shl .u64 1 bt348.1)))) bt348.2.2.1 bt348.2.2.2.1 bt348.2.2.2.2) else (none))) else (laws_FnSoIn.j0 k bt348.1 bt348.2.1 t354 true bt348.2.2.1 bt348.2.2.2.1 bt348.2.2.2.2)))))))
theorem laws_FnSoIn.mono_l : ∀ k, (∀ y0 y1 y2 y3 y4 y5 y6, LeO (laws_FnSoIn.j0 k y0 y1 y2 y3 y4 y5 y6) (laws_FnSoIn.j0 (k + 1) y0 y1 y2 y3 y4 y5 y6))
  | 0 => fun _ _ _ _ _ _ _ r h => by simp [laws_FnSoIn.j0] at h
  | k + 1 => by
    have ih0 := laws_FnSoIn.mono_l k
    · intro y0 y1 y2 y3 y4 y5 y6
      unfold laws_FnSoIn.j0
      repeat' first
      | (with_reducible exact ih0 _ _ _ _ _ _ _)
      | (with_reducible exact impl_SoIn.mono _ _ _ _ _ _)
      | (with_reducible exact spec_DrawSoIn.mono _ _)
      | (with_reducible exact spec_SoIn.mono _ _ _ _ _ _)
      | (with_reducible exact LeO.refl _)
      | (with_reducible exact LeO.none _)
      | (with_reducible refine LeO.ite ?_ ?_)
      | (with_reducible refine LeO.bind ?_ (fun _ => ?_))
      | exact ih0 _ _ _ _ _ _ _
      | exact impl_SoIn.mono _ _ _ _ _ _
      | exact spec_DrawSoIn.mono _ _
      | exact spec_SoIn.mono _ _ _ _ _ _
      | exact LeO.none _
      | refine LeO.ite ?_ ?_
      | refine LeO.bind ?_ (fun _ => ?_)
theorem laws_FnSoIn.mono : ∀ a0 k, LeO (laws_FnSoIn.f k a0) (laws_FnSoIn.f (k + 1) a0) := by
  intro a0 k
  have ih0 := laws_FnSoIn.mono_l k
  unfold laws_FnSoIn.f
  repeat' first
      | (with_reducible exact ih0 _ _ _ _ _ _ _)
      | (with_reducible exact impl_SoIn.mono _ _ _ _ _ _)
      | (with_reducible exact spec_DrawSoIn.mono _ _)
      | (with_reducible exact spec_SoIn.mono _ _ _ _ _ _)
      | (with_reducible exact LeO.refl _)
      | (with_reducible exact LeO.none _)
      | (with_reducible refine LeO.ite ?_ ?_)
      | (with_reducible refine LeO.bind ?_ (fun _ => ?_))
      | exact ih0 _ _ _ _ _ _ _
      | exact impl_SoIn.mono _ _ _ _ _ _
      | exact spec_DrawSoIn.mono _ _
      | exact spec_SoIn.mono _ _ _ _ _ _
      | exact LeO.none _
      | refine LeO.ite ?_ ?_
      | refine LeO.bind ?_ (fun _ => ?_)
set_option maxHeartbeats 8000000 in
set_option maxRecDepth 100000 in
theorem laws_FnSoIn.calls (k : Nat) (A0 : Option Addr) (c0 : Nat) (l0 : List Int) (r : Bool) (w : World) (hr0 : Kd.C (Kd.int .u8) w A0 l0.length l0) (hc0 : l0.length ≤ c0) (h : laws_FnSoIn.f k l0 = some r) :
    Calls Try.prog 10 #[.slice A0 l0.length c0] w fun e w' => e = .returned (.bool r) ∧ Below w.heap.size w w' := by
  have hu25 := Try.underlying25
  have HR0 := Aside0.mk hr0
  have HC0 := Aside0.mk hc0; clear hr0 hc0; have HB := Aside0.mk (Below.refl w.heap.size w)
  have H : (if (l0.length : Int) > 1048576 then (some true) else ((spec_DrawSoIn.f k l0).bind fun bt348 => ((impl_SoIn.f k bt348.1 bt348.2.1 bt348.2.2.1 bt348.2.2.2.1 bt348.2.2.2.2).bind fun t354 => ((spec_SoIn.f k bt348.1 bt348.2.1 bt348.2.2.1 bt348.2.2.2.1 bt348.2.2.2.2).bind fun t355 => (if (t354 != t355) = true then (some false) else ((spec_SayOk.f bt348.1 bt348.2.2.1 bt348.2.2.2.1 bt348.2.2.2.2).bind fun t356 => (if t356 = true then (if bt348.2.1 < 0 then (laws_FnSoIn.j0 k bt348.1 bt348.2.1 t354 true bt348.2.2.1 bt348.2.2.2.1 bt348.2.2.2.2) else (if 0 ≤ bt348.1 then (laws_FnSoIn.j0 k bt348.1 bt348.2.1 t354 (decide (bt348.2.1 ≥ (shl .i64 1 (shl .u64 1 bt348.1)))) bt348.2.2.1 bt348.2.2.2.1 bt348.2.2.2.2) else (none))) else (laws_FnSoIn.j0 k bt348.1 bt348.2.1 t354 true bt348.2.2.1 bt348.2.2.2.1 bt348.2.2.2.2)))))))) = some r := h; clear h
  by_cases c2 : (l0.length : Int) > 1048576
  · rw [if_pos c2] at H
    have c2b0 : decide (1048576 < (l0.length : Int)) = true := decide_eq_true c2
    have c2b1 : decide (1048576 < l0.length) = true := decide_eq_true (by omega); clear c2
    obtain rfl := Option.some.inj H
    go_enter Try.func10, Try.ntmps10
    go_wp2
    go_ret
    exact ⟨by first | rfl | (simp [errW_none, errW_some] <;> rfl) | (simp [*, errW_none, errW_some] <;> rfl), by repeat (first | (with_reducible first | exact HB.out | apply below_alloc | apply pw_below_drewN | apply below_drew1) | exact HB.out)⟩
  · rw [if_neg c2] at H
    have c2b0 : decide (1048576 < (l0.length : Int)) = false := decide_eq_false c2
    have c2b1 : decide (1048576 < l0.length) = false := decide_eq_false (by omega); clear c2
    replace H := Option.bind_eq_some_iff.mp H
    obtain ⟨⟨t348, t349, t350, t351, t352⟩, A30, H⟩ := H
    replace H : ((impl_SoIn.f k t348 t349 t350 t351 t352).bind fun t354 => ((spec_SoIn.f k t348 t349 t350 t351 t352).bind fun t355 => (if (t354 != t355) = true then (some false) else ((spec_SayOk.f t348 t350 t351 t352).bind fun t356 => (if t356 = true then (if t349 < 0 then (laws_FnSoIn.j0 k t348 t349 t354 true t350 t351 t352) else (if 0 ≤ t348 then (laws_FnSoIn.j0 k t348 t349 t354 (decide (t349 ≥ (shl .i64 1 (shl .u64 1 t348)))) t350 t351 t352) else (none))) else (laws_FnSoIn.j0 k t348 t349 t354 true t350 t351 t352)))))) = some r := H
    have A3 := Aside0.mk A30; clear A30
    replace H := Option.bind_eq_some_iff.mp H
    obtain ⟨t354, A40, H⟩ := H
    replace H : ((spec_SoIn.f k t348 t349 t350 t351 t352).bind fun t355 => (if (t354 != t355) = true then (some false) else ((spec_SayOk.f t348 t350 t351 t352).bind fun t356 => (if t356 = true then (if t349 < 0 then (laws_FnSoIn.j0 k t348 t349 t354 true t350 t351 t352) else (if 0 ≤ t348 then (laws_FnSoIn.j0 k t348 t349 t354 (decide (t349 ≥ (shl .i64 1 (shl .u64 1 t348)))) t350 t351 t352) else (none))) else (laws_FnSoIn.j0 k t348 t349 t354 true t350 t351 t352))))) = some r := H
    have A4 := Aside0.mk A40; clear A40
    replace H := Option.bind_eq_some_iff.mp H
    obtain ⟨t355, A50, H⟩ := H
    replace H : (if (t354 != t355) = true then (some false) else ((spec_SayOk.f t348 t350 t351 t352).bind fun t356 => (if t356 = true then (if t349 < 0 then (laws_FnSoIn.j0 k t348 t349 t354 true t350 t351 t352) else (if 0 ≤ t348 then (laws_FnSoIn.j0 k t348 t349 t354 (decide (t349 ≥ (shl .i64 1 (shl .u64 1 t348)))) t350 t351 t352) else (none))) else (laws_FnSoIn.j0 k t348 t349 t354 true t350 t351 t352)))) = some r := H
    have A5 := Aside0.mk A50; clear A50
    by_cases c6 : (t354 != t355) = true
    · rw [if_pos c6] at H
      have c6b0 : (t354 != t355) = true := c6
      (try (have c6b1 : decide (t354 = t355) = false := by simpa using c6))
      (try (have c6b2 : (t354 == t355) = false := by simpa using c6))
      (try (have c6b3 : ¬ (t354 = t355) := by simpa using c6)); clear c6
      obtain rfl := Option.some.inj H
      go_enter Try.func10, Try.ntmps10
      go_wp2_with (first | ((with_reducible refine gate_callee (f := 37) rfl ?_); refine goesL_ (some 13) rfl rfl Try.func37 (by kernel_rfl) rfl #[.slice A0 l0.length c0] rfl (by (try simp only [List.map_toArray, List.map_cons, List.map_nil]); first | done | rfl | (simp only [List.length_drop, List.length_take]; rfl)) ?_; (with_reducible refine (spec_DrawSoIn.calls k _ _ l0 t348 t349 t350 t351 t352 _ ?side1 ?side2 A3.out).mono ?_); (case side1 => repeat (first | exact HR0.out | (with_reducible refine Kd.C_alloc ?_ _) | (with_reducible refine Kd.C_drewN ?_ _) | (with_reducible refine Kd.C_drew ?_))); (case side2 => exact HC0.out); rintro e w7 ⟨rfl, hb⟩; refine ⟨_, rfl, ?_⟩; have n0_ := Aside0.mk (below_step (by repeat (first | (with_reducible first | exact HB.out | apply below_alloc | apply pw_below_drewN | apply below_drew1) | exact HB.out)) hb); clear HB; have HB := n0_; clear n0_; (try clear hb); (try clear hb2); (try clear hk); (try clear hi)) | ((with_reducible refine gate_dst (N := 5) rfl ?_); refine box_event ?hg (N := 5) ?hd (cs := #[.int .i64 0, .int .i64 0, .int .i64 0]) (t := 25) ?hr ?_; (case hd => rfl); (case hg => rfl); (case hr => first | (go_simp; done) | (go_simp; rfl)); intro gb353 hg w8 hbox hb; have n0_ := Aside0.mk (below_step (by repeat (first | (with_reducible first | exact HB.out | apply below_alloc | apply pw_below_drewN | apply below_drew1) | exact HB.out)) hb); have n1_ := Aside0.mk (hbox); have n2_ := Aside0.mk ((by rw [hg]; exact (below_size (by repeat (first | (with_reducible first | exact HB.out | apply below_alloc | apply pw_below_drewN | apply below_drew1) | exact HB.out))) : w.heap.size ≤ gb353)); have n3_ := Aside0.mk ((by rw [hg]; exact (below_size (by repeat (first | (with_reducible first | exact HB.out | apply below_alloc | apply pw_below_drewN | apply below_drew1) | exact HB.out))) : w.heap.size ≤ gb353)); clear HB; have HB := n0_; have BK353 := n1_; have GW353 := n2_; have GE353 := n3_; clear n0_ n1_ n2_ n3_ hb hbox hg; have hcz9_0 : w8.cell? ⟨gb353, 0, none⟩ = some (.int .i64 0) := (blk_cell BK353.out 0).trans rfl; have hcz9_1 : w8.cell? ⟨gb353, 1, none⟩ = some (.int .i64 0) := (blk_cell BK353.out 1).trans rfl; have hcz9_2 : w8.cell? ⟨gb353, 2, none⟩ = some (.int .i64 0) := (blk_cell BK353.out 2).trans rfl; have hfz9_0 := blk_frozen BK353.out 0; have hfz9_1 := blk_frozen BK353.out 1; have hfz9_2 := blk_frozen BK353.out 2) | ((with_reducible refine gate_callee (f := 25) rfl ?_); refine goesL_ (some 20) rfl rfl Try.func25 (by kernel_rfl) rfl #[.int .i64 t348, .int .i64 t349, .agg #[.int .i64 t350, .int .i64 t351, .int .i64 t352]] rfl (by (try simp only [List.map_toArray, List.map_cons, List.map_nil]); first | done | rfl | (simp only [List.length_drop, List.length_take]; rfl)) ?_; (with_reducible refine (impl_SoIn.calls k t348 t349 t350 t351 t352 t354 _ A4.out).mono ?_); rintro e w10 ⟨rfl, hb⟩; refine ⟨_, rfl, ?_⟩; have n0_ := Aside0.mk (blk_below (g := gb353) (o := .cells #[.int .i64 t350, .int .i64 t351, .int .i64 t352] 25 (0, 0)) (by (with_reducible repeat (first | refine blk_drewN ?_ _ | refine blk_drew ?_ | refine blk_alloc ?_ _)); refine blk_put (cs := #[.int .i64 t350, .int .i64 t351, .int .i64 0]) ?_ 2 _ rfl; (with_reducible repeat (first | refine blk_drewN ?_ _ | refine blk_drew ?_ | refine blk_alloc ?_ _)); refine blk_put (cs := #[.int .i64 t350, .int .i64 0, .int .i64 0]) ?_ 1 _ rfl; (with_reducible repeat (first | refine blk_drewN ?_ _ | refine blk_drew ?_ | refine blk_alloc ?_ _)); refine blk_put (cs := #[.int .i64 0, .int .i64 0, .int .i64 0]) ?_ 0 _ rfl; (with_reducible repeat (first | refine blk_drewN ?_ _ | refine blk_drew ?_ | refine blk_alloc ?_ _)); exact BK353.out) hb); have n1_ := Aside0.mk (below_step (by repeat (first | (with_reducible first | exact HB.out | apply below_alloc | apply pw_below_drewN | apply below_drew1 | refine below_set ?_ GE353.out) | exact HB.out)) hb); clear BK353 HB; have BK353 := n0_; have HB := n1_; clear n0_ n1_; (try clear hb); (try clear hb2); (try clear hk); (try clear hi); have hcz11_0 : w10.cell? ⟨gb353, 0, none⟩ = some (.int .i64 t350) := (blk_cell BK353.out 0).trans rfl; have hcz11_1 : w10.cell? ⟨gb353, 1, none⟩ = some (.int .i64 t351) := (blk_cell BK353.out 1).trans rfl; have hcz11_2 : w10.cell? ⟨gb353, 2, none⟩ = some (.int .i64 t352) := (blk_cell BK353.out 2).trans rfl; have hfz11_0 := blk_frozen BK353.out 0; have hfz11_1 := blk_frozen BK353.out 1; have hfz11_2 := blk_frozen BK353.out 2) | ((with_reducible refine gate_callee (f := 24) rfl ?_); refine goesL_ (some 25) rfl rfl Try.func24 (by kernel_rfl) rfl #[.int .i64 t348, .int .i64 t349, .agg #[.int .i64 t350, .int .i64 t351, .int .i64 t352]] rfl (by (try simp only [List.map_toArray, List.map_cons, List.map_nil]); first | done | rfl | (simp only [List.length_drop, List.length_take]; rfl)) ?_; (with_reducible refine (spec_SoIn.calls k t348 t349 t350 t351 t352 t355 _ A5.out).mono ?_); rintro e w12 ⟨rfl, hb⟩; refine ⟨_, rfl, ?_⟩; have n0_ := Aside0.mk (blk_below (g := gb353) (o := .cells #[.int .i64 t350, .int .i64 t351, .int .i64 t352] 25 (0, 0)) (by (with_reducible repeat (first | refine blk_drewN ?_ _ | refine blk_drew ?_ | refine blk_alloc ?_ _)); exact BK353.out) hb); have n1_ := Aside0.mk (below_step (by repeat (first | (with_reducible first | exact HB.out | apply below_alloc | apply pw_below_drewN | apply below_drew1 | refine below_set ?_ GE353.out) | exact HB.out)) hb); clear BK353 HB; have BK353 := n0_; have HB := n1_; clear n0_ n1_; (try clear hb); (try clear hb2); (try clear hk); (try clear hi)))
      go_ret
      exact ⟨by first | rfl | (simp [errW_none, errW_some] <;> rfl) | (simp [*, errW_none, errW_some] <;> rfl), by repeat (first | (with_reducible first | exact HB.out | apply below_alloc | apply pw_below_drewN | apply below_drew1 | refine below_set ?_ GE353.out) | exact HB.out)⟩
    · rw [if_neg c6] at H
      have c6b0 : (t354 != t355) = false := by simpa using c6
      (try (have c6b1 : decide (t354 = t355) = true := by simpa using c6))
      (try (have c6b2 : (t354 == t355) = true := by simpa using c6)); clear c6
      have HC13 := Aside0.mk H; clear H
      go_enter Try.func10, Try.ntmps10
      go_upto_region 7 with (first | ((with_reducible refine gate_callee (f := 37) rfl ?_); refine goesL_ (some 13) rfl rfl Try.func37 (by kernel_rfl) rfl #[.slice A0 l0.length c0] rfl (by (try simp only [List.map_toArray, List.map_cons, List.map_nil]); first | done | rfl | (simp only [List.length_drop, List.length_take]; rfl)) ?_; (with_reducible refine (spec_DrawSoIn.calls k _ _ l0 t348 t349 t350 t351 t352 _ ?side1 ?side2 A3.out).mono ?_); (case side1 => repeat (first | exact HR0.out | (with_reducible refine Kd.C_alloc ?_ _) | (with_reducible refine Kd.C_drewN ?_ _) | (with_reducible refine Kd.C_drew ?_))); (case side2 => exact HC0.out); rintro e w14 ⟨rfl, hb⟩; refine ⟨_, rfl, ?_⟩; have n0_ := Aside0.mk (below_step (by repeat (first | (with_reducible first | exact HB.out | apply below_alloc | apply pw_below_drewN | apply below_drew1) | exact HB.out)) hb); clear HB; have HB := n0_; clear n0_; (try clear hb); (try clear hb2); (try clear hk); (try clear hi)) | ((with_reducible refine gate_dst (N := 5) rfl ?_); refine box_event ?hg (N := 5) ?hd (cs := #[.int .i64 0, .int .i64 0, .int .i64 0]) (t := 25) ?hr ?_; (case hd => rfl); (case hg => rfl); (case hr => first | (go_simp; done) | (go_simp; rfl)); intro gb353 hg w15 hbox hb; have n0_ := Aside0.mk (below_step (by repeat (first | (with_reducible first | exact HB.out | apply below_alloc | apply pw_below_drewN | apply below_drew1) | exact HB.out)) hb); have n1_ := Aside0.mk (hbox); have n2_ := Aside0.mk ((by rw [hg]; exact (below_size (by repeat (first | (with_reducible first | exact HB.out | apply below_alloc | apply pw_below_drewN | apply below_drew1) | exact HB.out))) : w.heap.size ≤ gb353)); have n3_ := Aside0.mk ((by rw [hg]; exact (below_size (by repeat (first | (with_reducible first | exact HB.out | apply below_alloc | apply pw_below_drewN | apply below_drew1) | exact HB.out))) : w.heap.size ≤ gb353)); clear HB; have HB := n0_; have BK353 := n1_; have GW353 := n2_; have GE353 := n3_; clear n0_ n1_ n2_ n3_ hb hbox hg; have hcz16_0 : w15.cell? ⟨gb353, 0, none⟩ = some (.int .i64 0) := (blk_cell BK353.out 0).trans rfl; have hcz16_1 : w15.cell? ⟨gb353, 1, none⟩ = some (.int .i64 0) := (blk_cell BK353.out 1).trans rfl; have hcz16_2 : w15.cell? ⟨gb353, 2, none⟩ = some (.int .i64 0) := (blk_cell BK353.out 2).trans rfl; have hfz16_0 := blk_frozen BK353.out 0; have hfz16_1 := blk_frozen BK353.out 1; have hfz16_2 := blk_frozen BK353.out 2) | ((with_reducible refine gate_callee (f := 25) rfl ?_); refine goesL_ (some 20) rfl rfl Try.func25 (by kernel_rfl) rfl #[.int .i64 t348, .int .i64 t349, .agg #[.int .i64 t350, .int .i64 t351, .int .i64 t352]] rfl (by (try simp only [List.map_toArray, List.map_cons, List.map_nil]); first | done | rfl | (simp only [List.length_drop, List.length_take]; rfl)) ?_; (with_reducible refine (impl_SoIn.calls k t348 t349 t350 t351 t352 t354 _ A4.out).mono ?_); rintro e w17 ⟨rfl, hb⟩; refine ⟨_, rfl, ?_⟩; have n0_ := Aside0.mk (blk_below (g := gb353) (o := .cells #[.int .i64 t350, .int .i64 t351, .int .i64 t352] 25 (0, 0)) (by (with_reducible repeat (first | refine blk_drewN ?_ _ | refine blk_drew ?_ | refine blk_alloc ?_ _)); refine blk_put (cs := #[.int .i64 t350, .int .i64 t351, .int .i64 0]) ?_ 2 _ rfl; (with_reducible repeat (first | refine blk_drewN ?_ _ | refine blk_drew ?_ | refine blk_alloc ?_ _)); refine blk_put (cs := #[.int .i64 t350, .int .i64 0, .int .i64 0]) ?_ 1 _ rfl; (with_reducible repeat (first | refine blk_drewN ?_ _ | refine blk_drew ?_ | refine blk_alloc ?_ _)); refine blk_put (cs := #[.int .i64 0, .int .i64 0, .int .i64 0]) ?_ 0 _ rfl; (with_reducible repeat (first | refine blk_drewN ?_ _ | refine blk_drew ?_ | refine blk_alloc ?_ _)); exact BK353.out) hb); have n1_ := Aside0.mk (below_step (by repeat (first | (with_reducible first | exact HB.out | apply below_alloc | apply pw_below_drewN | apply below_drew1 | refine below_set ?_ GE353.out) | exact HB.out)) hb); clear BK353 HB; have BK353 := n0_; have HB := n1_; clear n0_ n1_; (try clear hb); (try clear hb2); (try clear hk); (try clear hi); have hcz18_0 : w17.cell? ⟨gb353, 0, none⟩ = some (.int .i64 t350) := (blk_cell BK353.out 0).trans rfl; have hcz18_1 : w17.cell? ⟨gb353, 1, none⟩ = some (.int .i64 t351) := (blk_cell BK353.out 1).trans rfl; have hcz18_2 : w17.cell? ⟨gb353, 2, none⟩ = some (.int .i64 t352) := (blk_cell BK353.out 2).trans rfl; have hfz18_0 := blk_frozen BK353.out 0; have hfz18_1 := blk_frozen BK353.out 1; have hfz18_2 := blk_frozen BK353.out 2) | ((with_reducible refine gate_callee (f := 24) rfl ?_); refine goesL_ (some 25) rfl rfl Try.func24 (by kernel_rfl) rfl #[.int .i64 t348, .int .i64 t349, .agg #[.int .i64 t350, .int .i64 t351, .int .i64 t352]] rfl (by (try simp only [List.map_toArray, List.map_cons, List.map_nil]); first | done | rfl | (simp only [List.length_drop, List.length_take]; rfl)) ?_; (with_reducible refine (spec_SoIn.calls k t348 t349 t350 t351 t352 t355 _ A5.out).mono ?_); rintro e w19 ⟨rfl, hb⟩; refine ⟨_, rfl, ?_⟩; have n0_ := Aside0.mk (blk_below (g := gb353) (o := .cells #[.int .i64 t350, .int .i64 t351, .int .i64 t352] 25 (0, 0)) (by (with_reducible repeat (first | refine blk_drewN ?_ _ | refine blk_drew ?_ | refine blk_alloc ?_ _)); exact BK353.out) hb); have n1_ := Aside0.mk (below_step (by repeat (first | (with_reducible first | exact HB.out | apply below_alloc | apply pw_below_drewN | apply below_drew1 | refine below_set ?_ GE353.out) | exact HB.out)) hb); clear BK353 HB; have BK353 := n0_; have HB := n1_; clear n0_ n1_; (try clear hb); (try clear hb2); (try clear hk); (try clear hi)))
      (try simp only [Act.put, List.setIfInBounds_toArray, List.set_cons_zero, List.set_cons_succ])
      go_cut [41] (fun v41 wc => ∃ (kq : Nat) (x41_12 : Bool), v41 = .bool x41_12 ∧ Aside0 (laws_FnSoIn.j0 kq t348 t349 t354 x41_12 t350 t351 t352 = some r) ∧ Aside0 (kq ≤ k) ∧ Aside0 (wc.heap[gb353]? = some (.cells #[.int .i64 t350, .int .i64 t351, .int .i64 t352] 25 (0, 0))) ∧ Aside0 (Below w.heap.size w wc))
      case first =>
        have H := HC13.out; clear HC13
        replace H := Option.bind_eq_some_iff.mp H
        obtain ⟨t356, A200, H⟩ := H
        replace H : (if t356 = true then (if t349 < 0 then (laws_FnSoIn.j0 k t348 t349 t354 true t350 t351 t352) else (if 0 ≤ t348 then (laws_FnSoIn.j0 k t348 t349 t354 (decide (t349 ≥ (shl .i64 1 (shl .u64 1 t348)))) t350 t351 t352) else (none))) else (laws_FnSoIn.j0 k t348 t349 t354 true t350 t351 t352)) = some r := H
        have A20 := Aside0.mk A200; clear A200
        by_cases c21 : t356 = true
        · subst c21
          have H1 : (if t349 < 0 then (laws_FnSoIn.j0 k t348 t349 t354 true t350 t351 t352) else (if 0 ≤ t348 then (laws_FnSoIn.j0 k t348 t349 t354 (decide (t349 ≥ (shl .i64 1 (shl .u64 1 t348)))) t350 t351 t352) else (none))) = some r := by rw [if_pos rfl] at H; exact H
          clear H; have H := H1; clear H1
          by_cases c22 : t349 < 0
          · rw [if_pos c22] at H
            have c22b0 : decide (t349 < 0) = true := decide_eq_true c22; clear c22
            (first | rw [c22b0] | (simp only [i64_w, i32_w]; rw [c22b0]) | skip)
            have H' := Aside0.mk H; clear H
            have hcz23_0 : w19.cell? ⟨gb353, 0, none⟩ = some (.int .i64 t350) := (blk_cell BK353.out 0).trans rfl
            have hcz23_1 : w19.cell? ⟨gb353, 1, none⟩ = some (.int .i64 t351) := (blk_cell BK353.out 1).trans rfl
            have hcz23_2 : w19.cell? ⟨gb353, 2, none⟩ = some (.int .i64 t352) := (blk_cell BK353.out 2).trans rfl
            have hfz23_0 := blk_frozen BK353.out 0
            have hfz23_1 := blk_frozen BK353.out 1
            have hfz23_2 := blk_frozen BK353.out 2
            go_wp2_with (first | ((with_reducible refine gate_callee (f := 19) rfl ?_); refine goesL_ (some 29) rfl rfl Try.func19 (by kernel_rfl) rfl #[.int .i64 t348, .agg #[.int .i64 t350, .int .i64 t351, .int .i64 t352]] rfl (by (try simp only [List.map_toArray, List.map_cons, List.map_nil]); first | done | rfl | (simp only [List.length_drop, List.length_take]; rfl)) ?_; (with_reducible refine (spec_SayOk.calls t348 t350 t351 t352 true _ A20.out).mono ?_); rintro e w24 ⟨rfl, hb⟩; refine ⟨_, rfl, ?_⟩; have n0_ := Aside0.mk (blk_below (g := gb353) (o := .cells #[.int .i64 t350, .int .i64 t351, .int .i64 t352] 25 (0, 0)) (by (with_reducible repeat (first | refine blk_drewN ?_ _ | refine blk_drew ?_ | refine blk_alloc ?_ _)); exact BK353.out) hb); have n1_ := Aside0.mk (below_step (by repeat (first | (with_reducible first | exact HB.out | apply below_alloc | apply pw_below_drewN | apply below_drew1 | refine below_set ?_ GE353.out) | exact HB.out)) hb); clear BK353 HB; have BK353 := n0_; have HB := n1_; clear n0_ n1_; (try clear hb); (try clear hb2); (try clear hk); (try clear hi)))
            go_meet
            case rel => exact ⟨_, (true), (by first | rfl | (simp; done) | (simp [*]; done)), H', ⟨by first | omega | exact Nat.le_refl _⟩, ⟨by (with_reducible repeat (first | refine blk_drewN ?_ _ | refine blk_drew ?_ | refine blk_alloc ?_ _)); exact BK353.out⟩, ⟨by repeat (first | (with_reducible first | exact HB.out | apply below_alloc | apply pw_below_drewN | apply below_drew1 | refine below_set ?_ GE353.out) | exact HB.out)⟩⟩
          · rw [if_neg c22] at H
            have c22b0 : decide (t349 < 0) = false := decide_eq_false c22; clear c22
            (first | rw [c22b0] | (simp only [i64_w, i32_w]; rw [c22b0]) | skip)
            by_cases c25 : 0 ≤ t348
            · rw [if_pos c25] at H
              have c25b0 := eq_true c25
              have c25b1 : decide (0 ≤ t348) = true := decide_eq_true c25; clear c25
              obtain ⟨ji26, hji26⟩ : ∃ j_ : Int, (shl .u64 1 t348) = j_ := ⟨_, rfl⟩
              replace H : (laws_FnSoIn.j0 k t348 t349 t354 (decide (t349 ≥ (shl .i64 1 (ji26)))) t350 t351 t352) = some r := by first | (rw [hji26] at H; exact H) | (simp only [hji26] at H ⊢; exact H)
              (try rw [hji26] at A20)
              have hji26_ : (IntKind.u64.wrap (1 * 2 ^ min t348.toNat 64)) = ji26 := hji26
              have hji26z : t348 ≤ 64 → (IntKind.u64.wrap (1 * 2 ^ t348.toNat)) = ji26 := shl_small hji26
              have hji26u : (IntKind.u64.wrap (2 ^ min t348.toNat 64)) = ji26 := by have h_ := hji26_; rw [Int.one_mul] at h_; exact h_
              have hji26v : t348 ≤ 64 → (IntKind.u64.wrap (2 ^ t348.toNat)) = ji26 := fun hle_ => by have h_ := hji26z hle_; rw [Int.one_mul] at h_; exact h_
              have hji26p : (0 : Int) ≤ ji26 := by rw [← hji26_]; unfold IntKind.wrap; simp only [IntKind.signed, Bool.false_and, Bool.false_eq_true, if_false]; exact Int.emod_nonneg _ (by decide)
              have hji26d : decide ((0 : Int) ≤ ji26) = true := decide_eq_true hji26p
              obtain ⟨ji27, hji27⟩ : ∃ j_ : Int, (shl .i64 1 (ji26)) = j_ := ⟨_, rfl⟩
              replace H : (laws_FnSoIn.j0 k t348 t349 t354 (decide (t349 ≥ (ji27))) t350 t351 t352) = some r := by first | (rw [hji27] at H; exact H) | (simp only [hji27] at H ⊢; exact H)
              (try rw [hji27] at A20)
              have hji27_ : (IntKind.i64.wrap (1 * 2 ^ min (ji26).toNat 64)) = ji27 := hji27
              have hji27z : (ji26) ≤ 64 → (IntKind.i64.wrap (1 * 2 ^ (ji26).toNat)) = ji27 := shl_small hji27
              have hji27u : (IntKind.i64.wrap (2 ^ min (ji26).toNat 64)) = ji27 := by have h_ := hji27_; rw [Int.one_mul] at h_; exact h_
              have hji27v : (ji26) ≤ 64 → (IntKind.i64.wrap (2 ^ (ji26).toNat)) = ji27 := fun hle_ => by have h_ := hji27z hle_; rw [Int.one_mul] at h_; exact h_
              have hji27y : (wrap64 (1 * 2 ^ min (ji26).toNat 64)) = ji27 := (i64_w _).symm.trans hji27_
              have hji27x : (ji26) ≤ 64 → (wrap64 (1 * 2 ^ (ji26).toNat)) = ji27 := fun h_ => (i64_w _).symm.trans (hji27z h_)
              have H' := Aside0.mk H; clear H
              have hcz28_0 : w19.cell? ⟨gb353, 0, none⟩ = some (.int .i64 t350) := (blk_cell BK353.out 0).trans rfl
              have hcz28_1 : w19.cell? ⟨gb353, 1, none⟩ = some (.int .i64 t351) := (blk_cell BK353.out 1).trans rfl
              have hcz28_2 : w19.cell? ⟨gb353, 2, none⟩ = some (.int .i64 t352) := (blk_cell BK353.out 2).trans rfl
              have hfz28_0 := blk_frozen BK353.out 0
              have hfz28_1 := blk_frozen BK353.out 1
              have hfz28_2 := blk_frozen BK353.out 2
              go_wp2_with (first | ((with_reducible refine gate_callee (f := 19) rfl ?_); refine goesL_ (some 29) rfl rfl Try.func19 (by kernel_rfl) rfl #[.int .i64 t348, .agg #[.int .i64 t350, .int .i64 t351, .int .i64 t352]] rfl (by (try simp only [List.map_toArray, List.map_cons, List.map_nil]); first | done | rfl | (simp only [List.length_drop, List.length_take]; rfl)) ?_; (with_reducible refine (spec_SayOk.calls t348 t350 t351 t352 true _ A20.out).mono ?_); rintro e w29 ⟨rfl, hb⟩; refine ⟨_, rfl, ?_⟩; have n0_ := Aside0.mk (blk_below (g := gb353) (o := .cells #[.int .i64 t350, .int .i64 t351, .int .i64 t352] 25 (0, 0)) (by (with_reducible repeat (first | refine blk_drewN ?_ _ | refine blk_drew ?_ | refine blk_alloc ?_ _)); exact BK353.out) hb); have n1_ := Aside0.mk (below_step (by repeat (first | (with_reducible first | exact HB.out | apply below_alloc | apply pw_below_drewN | apply below_drew1 | refine below_set ?_ GE353.out) | exact HB.out)) hb); clear BK353 HB; have BK353 := n0_; have HB := n1_; clear n0_ n1_; (try clear hb); (try clear hb2); (try clear hk); (try clear hi)))
              go_meet
              case rel => exact ⟨_, (decide (t349 ≥ (ji27))), (by first | rfl | (simp; done) | (simp only [← hji27] <;> (first | rfl | simp)) | (simp [*]; done)), H', ⟨by first | omega | exact Nat.le_refl _⟩, ⟨by (with_reducible repeat (first | refine blk_drewN ?_ _ | refine blk_drew ?_ | refine blk_alloc ?_ _)); exact BK353.out⟩, ⟨by repeat (first | (with_reducible first | exact HB.out | apply below_alloc | apply pw_below_drewN | apply below_drew1 | refine below_set ?_ GE353.out) | exact HB.out)⟩⟩
            · rw [if_neg c25] at H
              exact absurd H (by simp)
        · replace c21 := Bool.eq_false_iff.mpr c21; subst c21
          have H1 : (laws_FnSoIn.j0 k t348 t349 t354 true t350 t351 t352) = some r := by rw [if_neg (show ¬ (false = true) by decide)] at H; exact H
          clear H; have H := H1; clear H1
          have H' := Aside0.mk H; clear H
          have hcz30_0 : w19.cell? ⟨gb353, 0, none⟩ = some (.int .i64 t350) := (blk_cell BK353.out 0).trans rfl
          have hcz30_1 : w19.cell? ⟨gb353, 1, none⟩ = some (.int .i64 t351) := (blk_cell BK353.out 1).trans rfl
          have hcz30_2 : w19.cell? ⟨gb353, 2, none⟩ = some (.int .i64 t352) := (blk_cell BK353.out 2).trans rfl
          have hfz30_0 := blk_frozen BK353.out 0
          have hfz30_1 := blk_frozen BK353.out 1
          have hfz30_2 := blk_frozen BK353.out 2
          go_wp2_with (first | ((with_reducible refine gate_callee (f := 19) rfl ?_); refine goesL_ (some 29) rfl rfl Try.func19 (by kernel_rfl) rfl #[.int .i64 t348, .agg #[.int .i64 t350, .int .i64 t351, .int .i64 t352]] rfl (by (try simp only [List.map_toArray, List.map_cons, List.map_nil]); first | done | rfl | (simp only [List.length_drop, List.length_take]; rfl)) ?_; (with_reducible refine (spec_SayOk.calls t348 t350 t351 t352 false _ A20.out).mono ?_); rintro e w31 ⟨rfl, hb⟩; refine ⟨_, rfl, ?_⟩; have n0_ := Aside0.mk (blk_below (g := gb353) (o := .cells #[.int .i64 t350, .int .i64 t351, .int .i64 t352] 25 (0, 0)) (by (with_reducible repeat (first | refine blk_drewN ?_ _ | refine blk_drew ?_ | refine blk_alloc ?_ _)); exact BK353.out) hb); have n1_ := Aside0.mk (below_step (by repeat (first | (with_reducible first | exact HB.out | apply below_alloc | apply pw_below_drewN | apply below_drew1 | refine below_set ?_ GE353.out) | exact HB.out)) hb); clear BK353 HB; have BK353 := n0_; have HB := n1_; clear n0_ n1_; (try clear hb); (try clear hb2); (try clear hk); (try clear hi)))
          go_meet
          case rel => exact ⟨_, (true), (by first | rfl | (simp; done) | (simp [*]; done)), H', ⟨by first | omega | exact Nat.le_refl _⟩, ⟨by (with_reducible repeat (first | refine blk_drewN ?_ _ | refine blk_drew ?_ | refine blk_alloc ?_ _)); exact BK353.out⟩, ⟨by repeat (first | (with_reducible first | exact HB.out | apply below_alloc | apply pw_below_drewN | apply below_drew1 | refine below_set ?_ GE353.out) | exact HB.out)⟩⟩
      case rest =>
        clear HC13
        try clear c1
        try clear c2
        try clear c2b0
        try clear c2b1
        try clear p2
        try clear c3
        try clear c6
        try clear c6b0
        try clear c6b1
        try clear c6b2
        try clear p6
        try clear c10
        try clear c19
        try clear c21
        try clear c22
        try clear c22b0
        try clear c24
        try clear c25
        try clear c25b0
        try clear c25b1
        try clear hcz11_0
        try clear hcz11_1
        try clear hcz11_2
        try clear hcz16_0
        try clear hcz16_1
        try clear hcz16_2
        try clear hcz18_0
        try clear hcz18_1
        try clear hcz18_2
        try clear hcz23_0
        try clear hcz23_1
        try clear hcz23_2
        try clear hcz28_0
        try clear hcz28_1
        try clear hcz28_2
        try clear hcz30_0
        try clear hcz30_1
        try clear hcz30_2
        try clear hcz9_0
        try clear hcz9_1
        try clear hcz9_2
        try clear hfz11_0
        try clear hfz11_1
        try clear hfz11_2
        try clear hfz16_0
        try clear hfz16_1
        try clear hfz16_2
        try clear hfz18_0
        try clear hfz18_1
        try clear hfz18_2
        try clear hfz23_0
        try clear hfz23_1
        try clear hfz23_2
        try clear hfz28_0
        try clear hfz28_1
        try clear hfz28_2
        try clear hfz30_0
        try clear hfz30_1
        try clear hfz30_2
        try clear hfz9_0
        try clear hfz9_1
        try clear hfz9_2
        obtain ⟨kq, x41_12, rfl, HA, HJ12, BK353, HB⟩ := hcut
        cases kq with
        | zero => exact absurd HA.out (by simp [laws_FnSoIn.j0])
        | succ kj12 =>
          have H := HA.out; clear HA
          simp only [laws_FnSoIn.j0] at H
          by_cases c32 : x41_12 = true
          · subst c32
            have H1 : (if t354 = true then (some false) else ((laws_alive.f).bind fun t357 => (some t357))) = some r := by rw [if_pos rfl] at H; exact H
            clear H; have H := H1; clear H1
            by_cases c33 : t354 = true
            · subst c33
              have H1 : (some false) = some r := by rw [if_pos rfl] at H; exact H
              clear H; have H := H1; clear H1
              obtain rfl := Option.some.inj H
              go_wp2
              go_ret
              exact ⟨by first | rfl | (simp [errW_none, errW_some] <;> rfl) | (simp [*, errW_none, errW_some] <;> rfl), by repeat (first | (with_reducible first | exact HB.out | apply below_alloc | apply pw_below_drewN | apply below_drew1 | refine below_set ?_ GE353.out) | exact HB.out)⟩
            · replace c33 := Bool.eq_false_iff.mpr c33; subst c33
              have H1 : ((laws_alive.f).bind fun t357 => (some t357)) = some r := by rw [if_neg (show ¬ (false = true) by decide)] at H; exact H
              clear H; have H := H1; clear H1
              replace H := Option.bind_eq_some_iff.mp H
              obtain ⟨t357, A340, H⟩ := H
              replace H : (some t357) = some r := H
              have A34 := Aside0.mk A340; clear A340
              obtain rfl := Option.some.inj H
              go_wp2_with (first | (go_at_call 30; (with_reducible refine (laws_alive.calls  t357 _ A34.out).mono ?_); rintro e w' ⟨rfl, ⟨nd, rfl⟩⟩))
              go_ret
              exact ⟨by first | rfl | (simp [errW_none, errW_some] <;> rfl) | (simp [*, errW_none, errW_some] <;> rfl), by repeat (first | (with_reducible first | exact HB.out | apply below_alloc | apply pw_below_drewN | apply below_drew1 | refine below_set ?_ GE353.out) | exact HB.out)⟩
          · replace c32 := Bool.eq_false_iff.mpr c32; subst c32
            have H1 : ((impl_SoIn.f kj12 t348 t349 (wrap64 (1 - t350)) t351 (wrap64 ((wrap64 (t352 + 1)) - (wrap64 (2 * (Int.tmod t352 2)))))).bind fun t358 => (some (t358 != t354))) = some r := by rw [if_neg (show ¬ (false = true) by decide)] at H; exact H
            clear H; have H := H1; clear H1
            replace H := Option.bind_eq_some_iff.mp H
            obtain ⟨t358, A350, H⟩ := H
            replace H : (some (t358 != t354)) = some r := H
            have A35 := Aside0.mk A350; clear A350
            obtain rfl := Option.some.inj H
            have hcz36_0 : wc.cell? ⟨gb353, 0, none⟩ = some (.int .i64 t350) := (blk_cell BK353.out 0).trans rfl
            have hcz36_1 : wc.cell? ⟨gb353, 1, none⟩ = some (.int .i64 t351) := (blk_cell BK353.out 1).trans rfl
            have hcz36_2 : wc.cell? ⟨gb353, 2, none⟩ = some (.int .i64 t352) := (blk_cell BK353.out 2).trans rfl
            have hfz36_0 := blk_frozen BK353.out 0
            have hfz36_1 := blk_frozen BK353.out 1
            have hfz36_2 := blk_frozen BK353.out 2
            go_wp2_with (first | ((with_reducible refine gate_callee (f := 25) rfl ?_); refine goesL_ (some 64) rfl rfl Try.func25 (by kernel_rfl) rfl #[.int .i64 t348, .int .i64 t349, .agg #[.int .i64 (wrap64 (1 - t350)), .int .i64 t351, .int .i64 (wrap64 ((wrap64 (t352 + 1)) - (wrap64 (2 * (Int.tmod t352 2)))))]] rfl (by (try simp only [List.map_toArray, List.map_cons, List.map_nil]); first | done | rfl | (simp only [List.length_drop, List.length_take]; rfl)) ?_; (with_reducible refine (impl_SoIn.calls kj12 t348 t349 (wrap64 (1 - t350)) t351 (wrap64 ((wrap64 (t352 + 1)) - (wrap64 (2 * (Int.tmod t352 2))))) t358 _ A35.out).mono ?_); rintro e w37 ⟨rfl, hb⟩; refine ⟨_, rfl, ?_⟩; have n0_ := Aside0.mk (blk_below (g := gb353) (o := .cells #[.int .i64 t350, .int .i64 t351, .int .i64 t352] 25 (0, 0)) (by (with_reducible repeat (first | refine blk_drewN ?_ _ | refine blk_drew ?_ | refine blk_alloc ?_ _)); exact BK353.out) hb); have n1_ := Aside0.mk (below_step (by repeat (first | (with_reducible first | exact HB.out | apply below_alloc | apply pw_below_drewN | apply below_drew1 | refine below_set ?_ GE353.out) | exact HB.out)) hb); clear BK353 HB; have BK353 := n0_; have HB := n1_; clear n0_ n1_; (try clear hb); (try clear hb2); (try clear hk); (try clear hi)))
            go_ret
            exact ⟨by first | rfl | (simp [errW_none, errW_some] <;> rfl) | (simp [*, errW_none, errW_some] <;> rfl), by repeat (first | (with_reducible first | exact HB.out | apply below_alloc | apply pw_below_drewN | apply below_drew1 | refine below_set ?_ GE353.out) | exact HB.out)⟩

/-- THE ONE PURE STATEMENT of laws_FnSoIn: yours. -/
def laws_FnSoIn.Pure : Prop := ∀ (l0 : List Int), l0.length ≤ maxLen → l0.length * 1 ≤ 140737488351232 → (∀ x ∈ l0, (Lit.int .u8 x).wf = true) → ∃ k, laws_FnSoIn.f k l0 = some true
theorem laws_FnSoIn.walk (P : laws_FnSoIn.Pure) (a0 : Option Addr) (len0 cap0 : Nat) (z0 : List Int) (w : World) (w0 : (a0 = none ∧ len0 = 0 ∧ cap0 = 0 ∧ z0 = []) ∨ ∃ x, a0 = some x ∧ len0 ≤ cap0 ∧ cap0 ≤ maxLen ∧ z0.length = cap0 ∧ (∀ i, i < z0.length → w.cell? (x.add i) = some (.int .u8 (z0.getD i 0))) ∧ ∀ n ∈ z0, (Lit.int .u8 n).wf = true) (y0 : len0 * 1 ≤ 140737488351232) :
    Calls Try.prog 10 #[.slice a0 len0 cap0] w fun e w' => e = .returned (.bool true) ∧ Below w.heap.size w w' := by
  obtain ⟨l0, rfl, hr0, hm0, hw0, hc0⟩ := ReadsInt.ofRowC w0
  obtain ⟨k, h⟩ := P l0 hm0 y0 hw0
  refine (laws_FnSoIn.calls k _ _ l0 true w (Kd.C_of_reads (d := (0 : Int)) (h1 := fun _ => rfl) hr0) hc0 h).mono ?_
  rintro e w' ⟨rfl, hd⟩
  exact ⟨rfl, hd⟩

end Go.Proofs.Ytainbbpmaengjaa.PA
