/- The machine side of functions of this seat, written by the session's program myprint.py: for each Go function a Lean function and the proof that the call answers just it. -/
import Derived.Test.YtknphpgalklclaaPAx0
import Derived.Test.YtknphpgalklclaaPAx2
import Derived.Test.YtknphpgalklclaaPAx4
import Derived.Test.YtknphpgalklclaaPAx12
import Derived.Test.YtknphpgalklclaaPAx30
import Derived.Test.YtknphpgalklclaaPAx40
import Derived.Test.YtknphpgalklclaaPAx41
import Derived.Test.YtknphpgalklclaaPAx50
namespace Go.Proofs.Ytknphpgalklclaa.PA
open Go.RowKit Go.Proofs.YtknphpgalklclaaW.PrintWords Go.Proofs.YtknphpgalklclaaW.PrintLast Go.Proofs.YtknphpgalklclaaW.PrintMore
attribute [local go_sem] max2_int min2_int max_two min_two max_three min_three max_four min_four   -- for this text's walks alone
set_option linter.unusedVariables false
set_option linter.unusedSimpArgs false

/-! ### laws_FnWeighSo: function 13 -/
mutual
def laws_FnWeighSo.j0 : Nat → List Int → Bool → Bool → Int → Int → Int → Option (Bool)
  | 0, _, _, _, _, _, _ => none
  | k + 1, x3, x5, x32, x708000, x708001, x708002 => if x32 = true then (if x5 = true then (some false) else ((laws_alive.f).bind fun t712 => (some t712))) else (laws_FnWeighSo.l0 k x3 x5 (([] : List Int)) 0 0 x708000 x708001 x708002)
def laws_FnWeighSo.l0 : Nat → List Int → Bool → List Int → Int → Int → Int → Int → Int → Option (Bool)
  | 0, _, _, _, _, _, _, _, _ => none
  | k + 1, x3, x5, x6, x7, x8, x708000, x708001, x708002 => if x8 < 4 then (if 0 ≤ x8 then (if x8 < (x3.length : Int) then (if x6.length < 17592186044416 then ((some (x6 ++ [wrap64 (2 * (rd x3 x8))] : List Int)).bind fun y717 => (if (rd x3 x8) > 0 then (laws_FnWeighSo.l0 k x3 x5 y717 (wrap64 (x7 + (shl .i64 1 x8))) (wrap64 (x8 + 1)) x708000 x708001 x708002) else (laws_FnWeighSo.l0 k x3 x5 y717 x7 (wrap64 (x8 + 1)) x708000 x708001 x708002))) else (none)) else (none)) else (none)) else ((impl_WeighSo.f k x6 x708000 x708001 x708002).bind fun t721 => (if (t721 == x5) = true then (if x708000 > 1 then (some true) else ((impl_SoIn.f k 2 x7 x708000 x708001 x708002).bind fun t722 => (some (t722 == x5)))) else (some false)))
end
def laws_FnWeighSo.f (k : Nat) (l0 : List Int) : Option (Bool) := if (l0.length : Int) > 1048576 then (some true) else ((spec_DrawWeighSo.f k l0).bind fun bt701 => ((impl_WeighSo.f k bt701.1 bt701.2.1 bt701.2.2.1 bt701.2.2.2).bind fun t708 => ((spec_WeighSo.f k bt701.1 bt701.2.1 bt701.2.2.1 bt701.2.2.2).bind fun t709 => (if (t708 != t709) = true then (some false) else ((spec_CountsOk.f k bt701.1).bind fun t710 => (if t710 = true then ((spec_WeighOk.f bt701.2.1 bt701.2.2.1 bt701.2.2.2).bind fun t711 => (laws_FnWeighSo.j0 k bt701.1 t708 (!t711) bt701.2.1 bt701.2.2.1 bt701.2.2.2)) else (laws_FnWeighSo.j0 k bt701.1 t708 true bt701.2.1 bt701.2.2.1 bt701.2.2.2)))))))
theorem laws_FnWeighSo.mono_l : ∀ k, (∀ y0 y1 y2 y3 y4 y5, LeO (laws_FnWeighSo.j0 k y0 y1 y2 y3 y4 y5) (laws_FnWeighSo.j0 (k + 1) y0 y1 y2 y3 y4 y5)) ∧ (∀ y0 y1 y2 y3 y4 y5 y6 y7, LeO (laws_FnWeighSo.l0 k y0 y1 y2 y3 y4 y5 y6 y7) (laws_FnWeighSo.l0 (k + 1) y0 y1 y2 y3 y4 y5 y6 y7))
  | 0 => ⟨fun _ _ _ _ _ _ r h => by simp [laws_FnWeighSo.j0] at h, fun _ _ _ _ _ _ _ _ r h => by simp [laws_FnWeighSo.l0] at h⟩
  | k + 1 => by
    obtain ⟨ih0, ih1⟩ := laws_FnWeighSo.mono_l k
    refine ⟨?_, ?_⟩
    · intro y0 y1 y2 y3 y4 y5
      unfold laws_FnWeighSo.j0
      repeat' first
      | (with_reducible exact ih0 _ _ _ _ _ _)
      | (with_reducible exact ih1 _ _ _ _ _ _ _ _)
      | (with_reducible exact impl_SoIn.mono _ _ _ _ _ _)
      | (with_reducible exact impl_WeighSo.mono _ _ _ _ _)
      | (with_reducible exact spec_CountsOk.mono _ _)
      | (with_reducible exact spec_DrawWeighSo.mono _ _)
      | (with_reducible exact spec_WeighSo.mono _ _ _ _ _)
      | (with_reducible exact LeO.refl _)
      | (with_reducible exact LeO.none _)
      | (with_reducible refine LeO.ite ?_ ?_)
      | (with_reducible refine LeO.bind ?_ (fun _ => ?_))
      | exact ih0 _ _ _ _ _ _
      | exact ih1 _ _ _ _ _ _ _ _
      | exact impl_SoIn.mono _ _ _ _ _ _
      | exact impl_WeighSo.mono _ _ _ _ _
      | exact spec_CountsOk.mono _ _
      | exact spec_DrawWeighSo.mono _ _
      | exact spec_WeighSo.mono _ _ _ _ _
      | exact LeO.none _
      | refine LeO.ite ?_ ?_
      | refine LeO.bind ?_ (fun _ => ?_)
    · intro y0 y1 y2 y3 y4 y5 y6 y7
      unfold laws_FnWeighSo.l0
      repeat' first
      | (with_reducible exact ih0 _ _ _ _ _ _)
      | (with_reducible exact ih1 _ _ _ _ _ _ _ _)
      | (with_reducible exact impl_SoIn.mono _ _ _ _ _ _)
      | (with_reducible exact impl_WeighSo.mono _ _ _ _ _)
      | (with_reducible exact spec_CountsOk.mono _ _)
      | (with_reducible exact spec_DrawWeighSo.mono _ _)
      | (with_reducible exact spec_WeighSo.mono _ _ _ _ _)
      | (with_reducible exact LeO.refl _)
      | (with_reducible exact LeO.none _)
      | (with_reducible refine LeO.ite ?_ ?_)
      | (with_reducible refine LeO.bind ?_ (fun _ => ?_))
      | exact ih0 _ _ _ _ _ _
      | exact ih1 _ _ _ _ _ _ _ _
      | exact impl_SoIn.mono _ _ _ _ _ _
      | exact impl_WeighSo.mono _ _ _ _ _
      | exact spec_CountsOk.mono _ _
      | exact spec_DrawWeighSo.mono _ _
      | exact spec_WeighSo.mono _ _ _ _ _
      | exact LeO.none _
      | refine LeO.ite ?_ ?_
      | refine LeO.bind ?_ (fun _ => ?_)
theorem laws_FnWeighSo.mono : ∀ a0 k, LeO (laws_FnWeighSo.f k a0) (laws_FnWeighSo.f (k + 1) a0) := by
  intro a0 k
  obtain ⟨ih0, ih1⟩ := laws_FnWeighSo.mono_l k
  unfold laws_FnWeighSo.f
  repeat' first
      | (with_reducible exact ih0 _ _ _ _ _ _)
      | (with_reducible exact ih1 _ _ _ _ _ _ _ _)
      | (with_reducible exact impl_SoIn.mono _ _ _ _ _ _)
      | (with_reducible exact impl_WeighSo.mono _ _ _ _ _)
      | (with_reducible exact spec_CountsOk.mono _ _)
      | (with_reducible exact spec_DrawWeighSo.mono _ _)
      | (with_reducible exact spec_WeighSo.mono _ _ _ _ _)
      | (with_reducible exact LeO.refl _)
      | (with_reducible exact LeO.none _)
      | (with_reducible refine LeO.ite ?_ ?_)
      | (with_reducible refine LeO.bind ?_ (fun _ => ?_))
      | exact ih0 _ _ _ _ _ _
      | exact ih1 _ _ _ _ _ _ _ _
      | exact impl_SoIn.mono _ _ _ _ _ _
      | exact impl_WeighSo.mono _ _ _ _ _
      | exact spec_CountsOk.mono _ _
      | exact spec_DrawWeighSo.mono _ _
      | exact spec_WeighSo.mono _ _ _ _ _
      | exact LeO.none _
      | refine LeO.ite ?_ ?_
      | refine LeO.bind ?_ (fun _ => ?_)
set_option maxHeartbeats 8000000 in
set_option maxRecDepth 100000 in
theorem laws_FnWeighSo.calls (k : Nat) (A0 : Option Addr) (c0 : Nat) (l0 : List Int) (r : Bool) (w : World) (hr0 : Kd.C (Kd.int .u8) w A0 l0.length l0) (hc0 : l0.length ≤ c0) (h : laws_FnWeighSo.f k l0 = some r) :
    Calls Try.prog 13 #[.slice A0 l0.length c0] w fun e w' => e = .returned (.bool r) ∧ Below w.heap.size w w' := by
  have hu25 := Try.underlying25
  have HR0 := Aside0.mk hr0
  have HC0 := Aside0.mk hc0; clear hr0 hc0; have HB := Aside0.mk (Below.refl w.heap.size w)
  have H : (if (l0.length : Int) > 1048576 then (some true) else ((spec_DrawWeighSo.f k l0).bind fun bt701 => ((impl_WeighSo.f k bt701.1 bt701.2.1 bt701.2.2.1 bt701.2.2.2).bind fun t708 => ((spec_WeighSo.f k bt701.1 bt701.2.1 bt701.2.2.1 bt701.2.2.2).bind fun t709 => (if (t708 != t709) = true then (some false) else ((spec_CountsOk.f k bt701.1).bind fun t710 => (if t710 = true then ((spec_WeighOk.f bt701.2.1 bt701.2.2.1 bt701.2.2.2).bind fun t711 => (laws_FnWeighSo.j0 k bt701.1 t708 (!t711) bt701.2.1 bt701.2.2.1 bt701.2.2.2)) else (laws_FnWeighSo.j0 k bt701.1 t708 true bt701.2.1 bt701.2.2.1 bt701.2.2.2)))))))) = some r := h; clear h
  by_cases c2 : (l0.length : Int) > 1048576
  · rw [if_pos c2] at H
    have c2b0 : decide (1048576 < (l0.length : Int)) = true := decide_eq_true c2
    have c2b1 : decide (1048576 < l0.length) = true := decide_eq_true (by omega); clear c2
    obtain rfl := Option.some.inj H
    go_enter Try.func13, Try.ntmps13
    go_wp2
    go_ret
    exact ⟨by first | rfl | (simp [errW_none, errW_some] <;> rfl) | (simp [*, errW_none, errW_some] <;> rfl), by repeat (first | (with_reducible first | exact HB.out | apply below_alloc | apply pw_below_drewN | apply below_drew1) | exact HB.out)⟩
  · rw [if_neg c2] at H
    have c2b0 : decide (1048576 < (l0.length : Int)) = false := decide_eq_false c2
    have c2b1 : decide (1048576 < l0.length) = false := decide_eq_false (by omega); clear c2
    replace H := Option.bind_eq_some_iff.mp H
    obtain ⟨⟨t701, t704, t705, t706⟩, A30, H⟩ := H
    replace H : ((impl_WeighSo.f k t701 t704 t705 t706).bind fun t708 => ((spec_WeighSo.f k t701 t704 t705 t706).bind fun t709 => (if (t708 != t709) = true then (some false) else ((spec_CountsOk.f k t701).bind fun t710 => (if t710 = true then ((spec_WeighOk.f t704 t705 t706).bind fun t711 => (laws_FnWeighSo.j0 k t701 t708 (!t711) t704 t705 t706)) else (laws_FnWeighSo.j0 k t701 t708 true t704 t705 t706)))))) = some r := H
    have A3 := Aside0.mk A30; clear A30
    replace H := Option.bind_eq_some_iff.mp H
    obtain ⟨t708, A40, H⟩ := H
    replace H : ((spec_WeighSo.f k t701 t704 t705 t706).bind fun t709 => (if (t708 != t709) = true then (some false) else ((spec_CountsOk.f k t701).bind fun t710 => (if t710 = true then ((spec_WeighOk.f t704 t705 t706).bind fun t711 => (laws_FnWeighSo.j0 k t701 t708 (!t711) t704 t705 t706)) else (laws_FnWeighSo.j0 k t701 t708 true t704 t705 t706))))) = some r := H
    have A4 := Aside0.mk A40; clear A40
    replace H := Option.bind_eq_some_iff.mp H
    obtain ⟨t709, A50, H⟩ := H
    replace H : (if (t708 != t709) = true then (some false) else ((spec_CountsOk.f k t701).bind fun t710 => (if t710 = true then ((spec_WeighOk.f t704 t705 t706).bind fun t711 => (laws_FnWeighSo.j0 k t701 t708 (!t711) t704 t705 t706)) else (laws_FnWeighSo.j0 k t701 t708 true t704 t705 t706)))) = some r := H
    have A5 := Aside0.mk A50; clear A50
    by_cases c6 : (t708 != t709) = true
    · rw [if_pos c6] at H
      have c6b0 : (t708 != t709) = true := c6
      (try (have c6b1 : decide (t708 = t709) = false := by simpa using c6))
      (try (have c6b2 : (t708 == t709) = false := by simpa using c6))
      (try (have c6b3 : ¬ (t708 = t709) := by simpa using c6)); clear c6
      obtain rfl := Option.some.inj H
      go_enter Try.func13, Try.ntmps13
      go_wp2_with (first | ((with_reducible refine gate_callee (f := 40) rfl ?_); refine goesL_ (some 14) rfl rfl Try.func40 (by kernel_rfl) rfl #[.slice A0 l0.length c0] rfl (by (try simp only [List.map_toArray, List.map_cons, List.map_nil]); first | done | rfl | (simp only [List.length_drop, List.length_take]; rfl)) ?_; (with_reducible refine (spec_DrawWeighSo.calls k _ _ l0 t701 t704 t705 t706 _ ?side1 ?side2 A3.out).mono ?_); (case side1 => repeat (first | exact HR0.out | (with_reducible refine Kd.C_alloc ?_ _) | (with_reducible refine Kd.C_drewN ?_ _) | (with_reducible refine Kd.C_drew ?_))); (case side2 => exact HC0.out); rintro e w7 ⟨v702, rfl, ho0, hb⟩; refine ⟨_, rfl, ?_⟩; have n0_ := Aside0.mk (Kd.R_lower ho0 (below_size (by repeat (first | (with_reducible first | exact HB.out | apply below_alloc | apply pw_below_drewN | apply below_drew1) | exact HB.out)))); have n1_ := Aside0.mk (below_step (by repeat (first | (with_reducible first | exact HB.out | apply below_alloc | apply pw_below_drewN | apply below_drew1) | exact HB.out)) hb); clear HB; have HO703 := n0_; have HB := n1_; clear n0_ n1_; (try clear hb); (try clear hb2); (try clear hk); (try clear hi); (try clear ho0)) | ((with_reducible refine gate_dst (N := 4) rfl ?_); refine box_event ?hg (N := 4) ?hd (cs := #[.int .i64 0, .int .i64 0, .int .i64 0]) (t := 25) ?hr ?_; (case hd => rfl); (case hg => rfl); (case hr => first | (go_simp; done) | (go_simp; rfl)); intro gb707 hg w8 hbox hb; have n0_ := Aside0.mk (Kd.R_below (by (with_reducible repeat (first | apply Kd.R_alloc | apply Kd.R_drewN | apply Kd.R_drew)); exact HO703.out) hb); have n1_ := Aside0.mk (below_step (by repeat (first | (with_reducible first | exact HB.out | apply below_alloc | apply pw_below_drewN | apply below_drew1) | exact HB.out)) hb); have n2_ := Aside0.mk (hbox); have n3_ := Aside0.mk ((by rw [hg]; exact (below_size (by repeat (first | (with_reducible first | exact HB.out | apply below_alloc | apply pw_below_drewN | apply below_drew1) | exact HB.out))) : w.heap.size ≤ gb707)); have n4_ := Aside0.mk ((by rw [hg]; exact (below_size (by repeat (first | (with_reducible first | exact HB.out | apply below_alloc | apply pw_below_drewN | apply below_drew1) | exact HB.out))) : w.heap.size ≤ gb707)); clear HO703 HB; have HO703 := n0_; have HB := n1_; have BK707 := n2_; have GW707 := n3_; have GE707 := n4_; clear n0_ n1_ n2_ n3_ n4_ hb hbox hg; have hcz9_0 : w8.cell? ⟨gb707, 0, none⟩ = some (.int .i64 0) := (blk_cell BK707.out 0).trans rfl; have hcz9_1 : w8.cell? ⟨gb707, 1, none⟩ = some (.int .i64 0) := (blk_cell BK707.out 1).trans rfl; have hcz9_2 : w8.cell? ⟨gb707, 2, none⟩ = some (.int .i64 0) := (blk_cell BK707.out 2).trans rfl; have hfz9_0 := blk_frozen BK707.out 0; have hfz9_1 := blk_frozen BK707.out 1; have hfz9_2 := blk_frozen BK707.out 2; obtain ⟨Ao10, co10, eo10⟩ := Kd.R_slice HO703.out; subst eo10) | ((with_reducible refine gate_callee (f := 39) rfl ?_); refine goesL_ (some 19) rfl rfl Try.func39 (by kernel_rfl) rfl #[.slice Ao10 t701.length co10, .agg #[.int .i64 t704, .int .i64 t705, .int .i64 t706]] rfl (by (try simp only [List.map_toArray, List.map_cons, List.map_nil]); first | done | rfl | (simp only [List.length_drop, List.length_take]; rfl)) ?_; (with_reducible refine (impl_WeighSo.calls k _ _ t701 t704 t705 t706 t708 _ ?side1 ?side2 A4.out).mono ?_); (case side1 => refine (Kd.R_reads' (e := 3) (base := w.heap.size) (ok := fun k_ => True) (n := t701.length) (c := co10) ?_).2.2; exact (by (with_reducible repeat (first | apply Kd.R_alloc | apply Kd.R_drewN | apply Kd.R_drew)); exact (Kd.R_mono (Kd.R_far (p := ⟨gb707, 2, none⟩) (Kd.R_far (p := ⟨gb707, 1, none⟩) (Kd.R_far (p := ⟨gb707, 0, none⟩) (Kd.R_types HO703.out BK707.out (by decide)) (fun _ hk => hk.2) (.int .i64 t704)) (fun _ hk => hk.2) (.int .i64 t705)) (fun _ hk => hk.2) (.int .i64 t706)) (fun _ h_ => h_.1)))); (case side2 => exact (Kd.R_reads' HO703.out).2.1); rintro e w11 ⟨rfl, hb⟩; refine ⟨_, rfl, ?_⟩; have n0_ := Aside0.mk (Kd.R_below (by (with_reducible repeat (first | apply Kd.R_alloc | apply Kd.R_drewN | apply Kd.R_drew)); exact (Kd.R_mono (Kd.R_far (p := ⟨gb707, 2, none⟩) (Kd.R_far (p := ⟨gb707, 1, none⟩) (Kd.R_far (p := ⟨gb707, 0, none⟩) (Kd.R_types HO703.out BK707.out (by decide)) (fun _ hk => hk.2) (.int .i64 t704)) (fun _ hk => hk.2) (.int .i64 t705)) (fun _ hk => hk.2) (.int .i64 t706)) (fun _ h_ => h_.1))) hb); have n1_ := Aside0.mk (blk_below (g := gb707) (o := .cells #[.int .i64 t704, .int .i64 t705, .int .i64 t706] 25 (0, 0)) (by (with_reducible repeat (first | refine blk_drewN ?_ _ | refine blk_drew ?_ | refine blk_alloc ?_ _)); refine blk_put (cs := #[.int .i64 t704, .int .i64 t705, .int .i64 0]) ?_ 2 _ rfl; (with_reducible repeat (first | refine blk_drewN ?_ _ | refine blk_drew ?_ | refine blk_alloc ?_ _)); refine blk_put (cs := #[.int .i64 t704, .int .i64 0, .int .i64 0]) ?_ 1 _ rfl; (with_reducible repeat (first | refine blk_drewN ?_ _ | refine blk_drew ?_ | refine blk_alloc ?_ _)); refine blk_put (cs := #[.int .i64 0, .int .i64 0, .int .i64 0]) ?_ 0 _ rfl; (with_reducible repeat (first | refine blk_drewN ?_ _ | refine blk_drew ?_ | refine blk_alloc ?_ _)); exact BK707.out) hb); have n2_ := Aside0.mk (below_step (by repeat (first | (with_reducible first | exact HB.out | apply below_alloc | apply pw_below_drewN | apply below_drew1 | refine below_set ?_ GE707.out) | exact HB.out)) hb); clear HO703 BK707 HB; have HO703 := n0_; have BK707 := n1_; have HB := n2_; clear n0_ n1_ n2_; (try clear hb); (try clear hb2); (try clear hk); (try clear hi); have hcz12_0 : w11.cell? ⟨gb707, 0, none⟩ = some (.int .i64 t704) := (blk_cell BK707.out 0).trans rfl; have hcz12_1 : w11.cell? ⟨gb707, 1, none⟩ = some (.int .i64 t705) := (blk_cell BK707.out 1).trans rfl; have hcz12_2 : w11.cell? ⟨gb707, 2, none⟩ = some (.int .i64 t706) := (blk_cell BK707.out 2).trans rfl; have hfz12_0 := blk_frozen BK707.out 0; have hfz12_1 := blk_frozen BK707.out 1; have hfz12_2 := blk_frozen BK707.out 2) | ((with_reducible refine gate_callee (f := 43) rfl ?_); refine goesL_ (some 23) rfl rfl Try.func43 (by kernel_rfl) rfl #[.slice Ao10 t701.length co10, .agg #[.int .i64 t704, .int .i64 t705, .int .i64 t706]] rfl (by (try simp only [List.map_toArray, List.map_cons, List.map_nil]); first | done | rfl | (simp only [List.length_drop, List.length_take]; rfl)) ?_; (with_reducible refine (spec_WeighSo.calls k _ _ t701 t704 t705 t706 t709 _ ?side1 ?side2 A5.out).mono ?_); (case side1 => repeat (first | exact (Kd.R_reads' HO703.out).2.2 | (with_reducible refine Kd.C_alloc ?_ _) | (with_reducible refine Kd.C_drewN ?_ _) | (with_reducible refine Kd.C_drew ?_))); (case side2 => exact (Kd.R_reads' HO703.out).2.1); rintro e w13 ⟨rfl, hb⟩; refine ⟨_, rfl, ?_⟩; have n0_ := Aside0.mk (Kd.R_below (by (with_reducible repeat (first | apply Kd.R_alloc | apply Kd.R_drewN | apply Kd.R_drew)); exact HO703.out) hb); have n1_ := Aside0.mk (blk_below (g := gb707) (o := .cells #[.int .i64 t704, .int .i64 t705, .int .i64 t706] 25 (0, 0)) (by (with_reducible repeat (first | refine blk_drewN ?_ _ | refine blk_drew ?_ | refine blk_alloc ?_ _)); exact BK707.out) hb); have n2_ := Aside0.mk (below_step (by repeat (first | (with_reducible first | exact HB.out | apply below_alloc | apply pw_below_drewN | apply below_drew1 | refine below_set ?_ GE707.out) | exact HB.out)) hb); clear HO703 BK707 HB; have HO703 := n0_; have BK707 := n1_; have HB := n2_; clear n0_ n1_ n2_; (try clear hb); (try clear hb2); (try clear hk); (try clear hi)))
      go_ret
      exact ⟨by first | rfl | (simp [errW_none, errW_some] <;> rfl) | (simp [*, errW_none, errW_some] <;> rfl), by repeat (first | (with_reducible first | exact HB.out | apply below_alloc | apply pw_below_drewN | apply below_drew1 | refine below_set ?_ GE707.out) | exact HB.out)⟩
    · rw [if_neg c6] at H
      have c6b0 : (t708 != t709) = false := by simpa using c6
      (try (have c6b1 : decide (t708 = t709) = true := by simpa using c6))
      (try (have c6b2 : (t708 == t709) = true := by simpa using c6)); clear c6
      have HC14 := Aside0.mk H; clear H
      go_enter Try.func13, Try.ntmps13
      go_upto_region 7 with (first | ((with_reducible refine gate_callee (f := 40) rfl ?_); refine goesL_ (some 14) rfl rfl Try.func40 (by kernel_rfl) rfl #[.slice A0 l0.length c0] rfl (by (try simp only [List.map_toArray, List.map_cons, List.map_nil]); first | done | rfl | (simp only [List.length_drop, List.length_take]; rfl)) ?_; (with_reducible refine (spec_DrawWeighSo.calls k _ _ l0 t701 t704 t705 t706 _ ?side1 ?side2 A3.out).mono ?_); (case side1 => repeat (first | exact HR0.out | (with_reducible refine Kd.C_alloc ?_ _) | (with_reducible refine Kd.C_drewN ?_ _) | (with_reducible refine Kd.C_drew ?_))); (case side2 => exact HC0.out); rintro e w15 ⟨v702, rfl, ho0, hb⟩; refine ⟨_, rfl, ?_⟩; have n0_ := Aside0.mk (Kd.R_lower ho0 (below_size (by repeat (first | (with_reducible first | exact HB.out | apply below_alloc | apply pw_below_drewN | apply below_drew1) | exact HB.out)))); have n1_ := Aside0.mk (below_step (by repeat (first | (with_reducible first | exact HB.out | apply below_alloc | apply pw_below_drewN | apply below_drew1) | exact HB.out)) hb); clear HB; have HO703 := n0_; have HB := n1_; clear n0_ n1_; (try clear hb); (try clear hb2); (try clear hk); (try clear hi); (try clear ho0)) | ((with_reducible refine gate_dst (N := 4) rfl ?_); refine box_event ?hg (N := 4) ?hd (cs := #[.int .i64 0, .int .i64 0, .int .i64 0]) (t := 25) ?hr ?_; (case hd => rfl); (case hg => rfl); (case hr => first | (go_simp; done) | (go_simp; rfl)); intro gb707 hg w16 hbox hb; have n0_ := Aside0.mk (Kd.R_below (by (with_reducible repeat (first | apply Kd.R_alloc | apply Kd.R_drewN | apply Kd.R_drew)); exact HO703.out) hb); have n1_ := Aside0.mk (below_step (by repeat (first | (with_reducible first | exact HB.out | apply below_alloc | apply pw_below_drewN | apply below_drew1) | exact HB.out)) hb); have n2_ := Aside0.mk (hbox); have n3_ := Aside0.mk ((by rw [hg]; exact (below_size (by repeat (first | (with_reducible first | exact HB.out | apply below_alloc | apply pw_below_drewN | apply below_drew1) | exact HB.out))) : w.heap.size ≤ gb707)); have n4_ := Aside0.mk ((by rw [hg]; exact (below_size (by repeat (first | (with_reducible first | exact HB.out | apply below_alloc | apply pw_below_drewN | apply below_drew1) | exact HB.out))) : w.heap.size ≤ gb707)); clear HO703 HB; have HO703 := n0_; have HB := n1_; have BK707 := n2_; have GW707 := n3_; have GE707 := n4_; clear n0_ n1_ n2_ n3_ n4_ hb hbox hg; have hcz17_0 : w16.cell? ⟨gb707, 0, none⟩ = some (.int .i64 0) := (blk_cell BK707.out 0).trans rfl; have hcz17_1 : w16.cell? ⟨gb707, 1, none⟩ = some (.int .i64 0) := (blk_cell BK707.out 1).trans rfl; have hcz17_2 : w16.cell? ⟨gb707, 2, none⟩ = some (.int .i64 0) := (blk_cell BK707.out 2).trans rfl; have hfz17_0 := blk_frozen BK707.out 0; have hfz17_1 := blk_frozen BK707.out 1; have hfz17_2 := blk_frozen BK707.out 2; obtain ⟨Ao18, co18, eo18⟩ := Kd.R_slice HO703.out; subst eo18) | ((with_reducible refine gate_callee (f := 39) rfl ?_); refine goesL_ (some 19) rfl rfl Try.func39 (by kernel_rfl) rfl #[.slice Ao18 t701.length co18, .agg #[.int .i64 t704, .int .i64 t705, .int .i64 t706]] rfl (by (try simp only [List.map_toArray, List.map_cons, List.map_nil]); first | done | rfl | (simp only [List.length_drop, List.length_take]; rfl)) ?_; (with_reducible refine (impl_WeighSo.calls k _ _ t701 t704 t705 t706 t708 _ ?side1 ?side2 A4.out).mono ?_); (case side1 => refine (Kd.R_reads' (e := 3) (base := w.heap.size) (ok := fun k_ => True) (n := t701.length) (c := co18) ?_).2.2; exact (by (with_reducible repeat (first | apply Kd.R_alloc | apply Kd.R_drewN | apply Kd.R_drew)); exact (Kd.R_mono (Kd.R_far (p := ⟨gb707, 2, none⟩) (Kd.R_far (p := ⟨gb707, 1, none⟩) (Kd.R_far (p := ⟨gb707, 0, none⟩) (Kd.R_types HO703.out BK707.out (by decide)) (fun _ hk => hk.2) (.int .i64 t704)) (fun _ hk => hk.2) (.int .i64 t705)) (fun _ hk => hk.2) (.int .i64 t706)) (fun _ h_ => h_.1)))); (case side2 => exact (Kd.R_reads' HO703.out).2.1); rintro e w19 ⟨rfl, hb⟩; refine ⟨_, rfl, ?_⟩; have n0_ := Aside0.mk (Kd.R_below (by (with_reducible repeat (first | apply Kd.R_alloc | apply Kd.R_drewN | apply Kd.R_drew)); exact (Kd.R_mono (Kd.R_far (p := ⟨gb707, 2, none⟩) (Kd.R_far (p := ⟨gb707, 1, none⟩) (Kd.R_far (p := ⟨gb707, 0, none⟩) (Kd.R_types HO703.out BK707.out (by decide)) (fun _ hk => hk.2) (.int .i64 t704)) (fun _ hk => hk.2) (.int .i64 t705)) (fun _ hk => hk.2) (.int .i64 t706)) (fun _ h_ => h_.1))) hb); have n1_ := Aside0.mk (blk_below (g := gb707) (o := .cells #[.int .i64 t704, .int .i64 t705, .int .i64 t706] 25 (0, 0)) (by (with_reducible repeat (first | refine blk_drewN ?_ _ | refine blk_drew ?_ | refine blk_alloc ?_ _)); refine blk_put (cs := #[.int .i64 t704, .int .i64 t705, .int .i64 0]) ?_ 2 _ rfl; (with_reducible repeat (first | refine blk_drewN ?_ _ | refine blk_drew ?_ | refine blk_alloc ?_ _)); refine blk_put (cs := #[.int .i64 t704, .int .i64 0, .int .i64 0]) ?_ 1 _ rfl; (with_reducible repeat (first | refine blk_drewN ?_ _ | refine blk_drew ?_ | refine blk_alloc ?_ _)); refine blk_put (cs := #[.int .i64 0, .int .i64 0, .int .i64 0]) ?_ 0 _ rfl; (with_reducible repeat (first | refine blk_drewN ?_ _ | refine blk_drew ?_ | refine blk_alloc ?_ _)); exact BK707.out) hb); have n2_ := Aside0.mk (below_step (by repeat (first | (with_reducible first | exact HB.out | apply below_alloc | apply pw_below_drewN | apply below_drew1 | refine below_set ?_ GE707.out) | exact HB.out)) hb); clear HO703 BK707 HB; have HO703 := n0_; have BK707 := n1_; have HB := n2_; clear n0_ n1_ n2_; (try clear hb); (try clear hb2); (try clear hk); (try clear hi); have hcz20_0 : w19.cell? ⟨gb707, 0, none⟩ = some (.int .i64 t704) := (blk_cell BK707.out 0).trans rfl; have hcz20_1 : w19.cell? ⟨gb707, 1, none⟩ = some (.int .i64 t705) := (blk_cell BK707.out 1).trans rfl; have hcz20_2 : w19.cell? ⟨gb707, 2, none⟩ = some (.int .i64 t706) := (blk_cell BK707.out 2).trans rfl; have hfz20_0 := blk_frozen BK707.out 0; have hfz20_1 := blk_frozen BK707.out 1; have hfz20_2 := blk_frozen BK707.out 2) | ((with_reducible refine gate_callee (f := 43) rfl ?_); refine goesL_ (some 23) rfl rfl Try.func43 (by kernel_rfl) rfl #[.slice Ao18 t701.length co18, .agg #[.int .i64 t704, .int .i64 t705, .int .i64 t706]] rfl (by (try simp only [List.map_toArray, List.map_cons, List.map_nil]); first | done | rfl | (simp only [List.length_drop, List.length_take]; rfl)) ?_; (with_reducible refine (spec_WeighSo.calls k _ _ t701 t704 t705 t706 t709 _ ?side1 ?side2 A5.out).mono ?_); (case side1 => repeat (first | exact (Kd.R_reads' HO703.out).2.2 | (with_reducible refine Kd.C_alloc ?_ _) | (with_reducible refine Kd.C_drewN ?_ _) | (with_reducible refine Kd.C_drew ?_))); (case side2 => exact (Kd.R_reads' HO703.out).2.1); rintro e w21 ⟨rfl, hb⟩; refine ⟨_, rfl, ?_⟩; have n0_ := Aside0.mk (Kd.R_below (by (with_reducible repeat (first | apply Kd.R_alloc | apply Kd.R_drewN | apply Kd.R_drew)); exact HO703.out) hb); have n1_ := Aside0.mk (blk_below (g := gb707) (o := .cells #[.int .i64 t704, .int .i64 t705, .int .i64 t706] 25 (0, 0)) (by (with_reducible repeat (first | refine blk_drewN ?_ _ | refine blk_drew ?_ | refine blk_alloc ?_ _)); exact BK707.out) hb); have n2_ := Aside0.mk (below_step (by repeat (first | (with_reducible first | exact HB.out | apply below_alloc | apply pw_below_drewN | apply below_drew1 | refine below_set ?_ GE707.out) | exact HB.out)) hb); clear HO703 BK707 HB; have HO703 := n0_; have BK707 := n1_; have HB := n2_; clear n0_ n1_ n2_; (try clear hb); (try clear hb2); (try clear hk); (try clear hi)))
      (try simp only [Act.put, List.setIfInBounds_toArray, List.set_cons_zero, List.set_cons_succ])
      go_cut [32] (fun v32 wc => ∃ (kq : Nat) (x32_13 : Bool), v32 = .bool x32_13 ∧ Aside0 (laws_FnWeighSo.j0 kq t701 t708 x32_13 t704 t705 t706 = some r) ∧ Aside0 (kq ≤ k) ∧ Aside0 (Kd.R (Kd.int .i64) 3 wc w.heap.size (fun _ => True) (.slice Ao18 t701.length co18) t701) ∧ Aside0 (wc.heap[gb707]? = some (.cells #[.int .i64 t704, .int .i64 t705, .int .i64 t706] 25 (0, 0))) ∧ Aside0 (Below w.heap.size w wc))
      case first =>
        have H := HC14.out; clear HC14
        replace H := Option.bind_eq_some_iff.mp H
        obtain ⟨t710, A220, H⟩ := H
        replace H : (if t710 = true then ((spec_WeighOk.f t704 t705 t706).bind fun t711 => (laws_FnWeighSo.j0 k t701 t708 (!t711) t704 t705 t706)) else (laws_FnWeighSo.j0 k t701 t708 true t704 t705 t706)) = some r := H
        have A22 := Aside0.mk A220; clear A220
        by_cases c23 : t710 = true
        · subst c23
          have H1 : ((spec_WeighOk.f t704 t705 t706).bind fun t711 => (laws_FnWeighSo.j0 k t701 t708 (!t711) t704 t705 t706)) = some r := by rw [if_pos rfl] at H; exact H
          clear H; have H := H1; clear H1
          replace H := Option.bind_eq_some_iff.mp H
          obtain ⟨t711, A240, H⟩ := H
          replace H : (laws_FnWeighSo.j0 k t701 t708 (!t711) t704 t705 t706) = some r := H
          have A24 := Aside0.mk A240; clear A240
          have H' := Aside0.mk H; clear H
          go_wp2_with (first | ((with_reducible refine gate_callee (f := 20) rfl ?_); refine goesL_ (some 26) rfl rfl Try.func20 (by kernel_rfl) rfl #[.slice Ao18 t701.length co18] rfl (by (try simp only [List.map_toArray, List.map_cons, List.map_nil]); first | done | rfl | (simp only [List.length_drop, List.length_take]; rfl)) ?_; (with_reducible refine (spec_CountsOk.calls k _ _ t701 true _ ?side1 ?side2 A22.out).mono ?_); (case side1 => repeat (first | exact (Kd.R_reads' HO703.out).2.2 | (with_reducible refine Kd.C_alloc ?_ _) | (with_reducible refine Kd.C_drewN ?_ _) | (with_reducible refine Kd.C_drew ?_))); (case side2 => exact (Kd.R_reads' HO703.out).2.1); rintro e w' ⟨rfl, ⟨nd, rfl⟩⟩; refine ⟨_, rfl, ?_⟩; have hcz25_0 : w21.cell? ⟨gb707, 0, none⟩ = some (.int .i64 t704) := (blk_cell BK707.out 0).trans rfl; have hcz25_1 : w21.cell? ⟨gb707, 1, none⟩ = some (.int .i64 t705) := (blk_cell BK707.out 1).trans rfl; have hcz25_2 : w21.cell? ⟨gb707, 2, none⟩ = some (.int .i64 t706) := (blk_cell BK707.out 2).trans rfl; have hfz25_0 := blk_frozen BK707.out 0; have hfz25_1 := blk_frozen BK707.out 1; have hfz25_2 := blk_frozen BK707.out 2) | (go_at_call 17; (with_reducible refine (spec_WeighOk.calls t704 t705 t706 t711 _ A24.out).mono ?_); rintro e w26 ⟨rfl, hb⟩; have n0_ := Aside0.mk (Kd.R_below (by (with_reducible repeat (first | apply Kd.R_alloc | apply Kd.R_drewN | apply Kd.R_drew)); exact HO703.out) hb); have n1_ := Aside0.mk (blk_below (g := gb707) (o := .cells #[.int .i64 t704, .int .i64 t705, .int .i64 t706] 25 (0, 0)) (by (with_reducible repeat (first | refine blk_drewN ?_ _ | refine blk_drew ?_ | refine blk_alloc ?_ _)); exact BK707.out) hb); have n2_ := Aside0.mk (below_step (by repeat (first | (with_reducible first | exact HB.out | apply below_alloc | apply pw_below_drewN | apply below_drew1 | refine below_set ?_ GE707.out) | exact HB.out)) hb); clear HO703 BK707 HB; have HO703 := n0_; have BK707 := n1_; have HB := n2_; clear n0_ n1_ n2_; (try clear hb); (try clear hb2); (try clear hk); (try clear hi)))
          go_meet
          case rel => exact ⟨_, (!t711), (by first | rfl | (simp; done) | (simp [*]; done)), H', ⟨by first | omega | exact Nat.le_refl _⟩, ⟨by (with_reducible repeat (first | apply Kd.R_alloc | apply Kd.R_drewN | apply Kd.R_drew)); exact HO703.out⟩, ⟨by (with_reducible repeat (first | refine blk_drewN ?_ _ | refine blk_drew ?_ | refine blk_alloc ?_ _)); exact BK707.out⟩, ⟨by repeat (first | (with_reducible first | exact HB.out | apply below_alloc | apply pw_below_drewN | apply below_drew1 | refine below_set ?_ GE707.out) | exact HB.out)⟩⟩
        · replace c23 := Bool.eq_false_iff.mpr c23; subst c23
          have H1 : (laws_FnWeighSo.j0 k t701 t708 true t704 t705 t706) = some r := by rw [if_neg (show ¬ (false = true) by decide)] at H; exact H
          clear H; have H := H1; clear H1
          have H' := Aside0.mk H; clear H
          go_wp2_with (first | ((with_reducible refine gate_callee (f := 20) rfl ?_); refine goesL_ (some 26) rfl rfl Try.func20 (by kernel_rfl) rfl #[.slice Ao18 t701.length co18] rfl (by (try simp only [List.map_toArray, List.map_cons, List.map_nil]); first | done | rfl | (simp only [List.length_drop, List.length_take]; rfl)) ?_; (with_reducible refine (spec_CountsOk.calls k _ _ t701 false _ ?side1 ?side2 A22.out).mono ?_); (case side1 => repeat (first | exact (Kd.R_reads' HO703.out).2.2 | (with_reducible refine Kd.C_alloc ?_ _) | (with_reducible refine Kd.C_drewN ?_ _) | (with_reducible refine Kd.C_drew ?_))); (case side2 => exact (Kd.R_reads' HO703.out).2.1); rintro e w' ⟨rfl, ⟨nd, rfl⟩⟩; refine ⟨_, rfl, ?_⟩))
          go_meet
          case rel => exact ⟨_, (true), (by first | rfl | (simp; done) | (simp [*]; done)), H', ⟨by first | omega | exact Nat.le_refl _⟩, ⟨by (with_reducible repeat (first | apply Kd.R_alloc | apply Kd.R_drewN | apply Kd.R_drew)); exact HO703.out⟩, ⟨by (with_reducible repeat (first | refine blk_drewN ?_ _ | refine blk_drew ?_ | refine blk_alloc ?_ _)); exact BK707.out⟩, ⟨by repeat (first | (with_reducible first | exact HB.out | apply below_alloc | apply pw_below_drewN | apply below_drew1 | refine below_set ?_ GE707.out) | exact HB.out)⟩⟩
      case rest =>
        clear HC14
        try clear c1
        try clear c2
        try clear c2b0
        try clear c2b1
        try clear p2
        try clear c3
        try clear c4
        try clear c6
        try clear c6b0
        try clear c6b1
        try clear c6b2
        try clear c13
        try clear c20
        try clear c23
        try clear hcz12_0
        try clear hcz12_1
        try clear hcz12_2
        try clear hcz17_0
        try clear hcz17_1
        try clear hcz17_2
        try clear hcz20_0
        try clear hcz20_1
        try clear hcz20_2
        try clear hcz25_0
        try clear hcz25_1
        try clear hcz25_2
        try clear hcz9_0
        try clear hcz9_1
        try clear hcz9_2
        try clear hfz12_0
        try clear hfz12_1
        try clear hfz12_2
        try clear hfz17_0
        try clear hfz17_1
        try clear hfz17_2
        try clear hfz20_0
        try clear hfz20_1
        try clear hfz20_2
        try clear hfz25_0
        try clear hfz25_1
        try clear hfz25_2
        try clear hfz9_0
        try clear hfz9_1
        try clear hfz9_2
        obtain ⟨kq, x32_13, rfl, HA, HJ13, HO_3, BK707, HB⟩ := hcut
        cases kq with
        | zero => exact absurd HA.out (by simp [laws_FnWeighSo.j0])
        | succ kj13 =>
          have H := HA.out; clear HA
          simp only [laws_FnWeighSo.j0] at H
          by_cases c27 : x32_13 = true
          · subst c27
            have H1 : (if t708 = true then (some false) else ((laws_alive.f).bind fun t712 => (some t712))) = some r := by rw [if_pos rfl] at H; exact H
            clear H; have H := H1; clear H1
            by_cases c28 : t708 = true
            · subst c28
              have H1 : (some false) = some r := by rw [if_pos rfl] at H; exact H
              clear H; have H := H1; clear H1
              obtain rfl := Option.some.inj H
              go_wp2
              go_ret
              exact ⟨by first | rfl | (simp [errW_none, errW_some] <;> rfl) | (simp [*, errW_none, errW_some] <;> rfl), by repeat (first | (with_reducible first | exact HB.out | apply below_alloc | apply pw_below_drewN | apply below_drew1 | refine below_set ?_ GE707.out) | exact HB.out)⟩
            · replace c28 := Bool.eq_false_iff.mpr c28; subst c28
              have H1 : ((laws_alive.f).bind fun t712 => (some t712)) = some r := by rw [if_neg (show ¬ (false = true) by decide)] at H; exact H
              clear H; have H := H1; clear H1
              replace H := Option.bind_eq_some_iff.mp H
              obtain ⟨t712, A290, H⟩ := H
              replace H : (some t712) = some r := H
              have A29 := Aside0.mk A290; clear A290
              obtain rfl := Option.some.inj H
              go_wp2_with (first | (go_at_call 30; (with_reducible refine (laws_alive.calls  t712 _ A29.out).mono ?_); rintro e w' ⟨rfl, ⟨nd, rfl⟩⟩))
              go_ret
              exact ⟨by first | rfl | (simp [errW_none, errW_some] <;> rfl) | (simp [*, errW_none, errW_some] <;> rfl), by repeat (first | (with_reducible first | exact HB.out | apply below_alloc | apply pw_below_drewN | apply below_drew1 | refine below_set ?_ GE707.out) | exact HB.out)⟩
          · replace c27 := Bool.eq_false_iff.mpr c27; subst c27
            have H1 : (laws_FnWeighSo.l0 kj13 t701 t708 (([] : List Int)) 0 0 t704 t705 t706) = some r := by rw [if_neg (show ¬ (false = true) by decide)] at H; exact H
            clear H; have H := H1; clear H1
            obtain ⟨y713, hy713⟩ : ∃ y_ : List Int, y_ = (([] : List Int)) := ⟨_, rfl⟩
            replace H : (laws_FnWeighSo.l0 kj13 t701 t708 y713 0 0 t704 t705 t706) = some r := by first | (rw [hy713]; with_reducible exact H) | (have H2_ := (Option.bind_some _ _).symm.trans H; rw [hy713]; with_reducible exact H2_) | (have H2_ := (Option.bind_some _ _).symm.trans H; with_reducible exact H2_) | with_reducible exact H | (rw [hy713]; exact H) | exact H
            have Ny713 := Aside0.mk hy713; clear hy713
            have H' := Aside0.mk H; clear H
            go_wp2_with (first | ((with_reducible refine gate_dst (N := 38) rfl ?_); refine Kd.R_lit (Kd.int .i64) _ 3 ?hg (N := 38) ?hd (xs := ([] : List Int)) (inner := []) (ok := fun _ => True) (okp := fun _ => True) ?hr ?hp (fun _ hk => hk) trivial (Below.refl _ _) (Nat.le_refl _) (by simp) ?_; (case hd => rfl); (case hg => rfl); (case hr => first | (go_simp; done) | (go_simp; rfl)); (case hp => exact (Reps.none _ _)); intro v714 w30 ho31 hb hg_ hnew_; clear hg_ hnew_; (first | rw [← Ny713.out] at ho31 | (simp only [Int.reduceToNat] at ho31; rw [← Ny713.out] at ho31)); have n0_ := Aside0.mk (Kd.R_elder' (by (with_reducible repeat (first | apply Kd.R_alloc | apply Kd.R_drewN | apply Kd.R_drew)); exact HO_3.out) (Kd.R_base ho31) hb); have n1_ := Aside0.mk (Kd.R_lower (Kd.R_new' ho31 (Kd.R_lt (by (with_reducible repeat (first | apply Kd.R_alloc | apply Kd.R_drewN | apply Kd.R_drew)); exact HO_3.out))) (below_size (by repeat (first | (with_reducible first | exact HB.out | apply below_alloc | apply pw_below_drewN | apply below_drew1 | refine below_set ?_ GE707.out) | exact HB.out)))); have n2_ := Aside0.mk (blk_below (g := gb707) (o := .cells #[.int .i64 t704, .int .i64 t705, .int .i64 t706] 25 (0, 0)) (by (with_reducible repeat (first | refine blk_drewN ?_ _ | refine blk_drew ?_ | refine blk_alloc ?_ _)); exact BK707.out) hb); have n3_ := Aside0.mk (below_step (by repeat (first | (with_reducible first | exact HB.out | apply below_alloc | apply pw_below_drewN | apply below_drew1 | refine below_set ?_ GE707.out) | exact HB.out)) hb); clear HO_3 BK707 HB; have HO_3 := n0_; have HO715 := n1_; have BK707 := n2_; have HB := n3_; clear n0_ n1_ n2_ n3_ hb ho31))
            go_loopg [6, 7, 8] kj13 (fun kq v6 v7 v8 w' => ∃ (x6_2 : List Int) (x7_2 : Int) (x8_2 : Int), v7 = .int .i64 x7_2 ∧ v8 = .int .i64 x8_2 ∧ Aside0 (laws_FnWeighSo.l0 kq t701 t708 x6_2 x7_2 x8_2 t704 t705 t706 = some r) ∧ Aside0 (kq ≤ kj13) ∧ Aside0 (Kd.R (Kd.int .i64) 3 w' w.heap.size (fun k_ => some k_ ≠ (v6 : Value).ownBlock) (.slice Ao18 t701.length co18) t701) ∧ Aside0 (Kd.R (Kd.int .i64) 3 w' w.heap.size (fun k_ => some k_ ≠ ((.slice Ao18 t701.length co18) : Value).ownBlock) v6 x6_2) ∧ Aside0 (w'.heap[gb707]? = some (.cells #[.int .i64 t704, .int .i64 t705, .int .i64 t706] 25 (0, 0))) ∧ Aside0 (Below w.heap.size w w'))
            case atStart => exact ⟨(y713), (0), (0), (by first | rfl | (simp; done) | (simp [*]; done)), (by first | rfl | (simp; done) | (simp [*]; done)), H', ⟨Nat.le_refl _⟩, ⟨by (with_reducible repeat (first | apply Kd.R_alloc | apply Kd.R_drewN | apply Kd.R_drew)); exact Kd.R_mono HO_3.out (fun _ hk => hk.2)⟩, ⟨by (with_reducible repeat (first | apply Kd.R_alloc | apply Kd.R_drewN | apply Kd.R_drew)); exact Kd.R_mono HO715.out (fun _ hk => hk.2)⟩, ⟨by (with_reducible repeat (first | refine blk_drewN ?_ _ | refine blk_drew ?_ | refine blk_alloc ?_ _)); exact BK707.out⟩, ⟨by repeat (first | (with_reducible first | exact HB.out | apply below_alloc | apply pw_below_drewN | apply below_drew1 | refine below_set ?_ GE707.out) | exact HB.out)⟩⟩
            case round =>
              clear H'
              try clear c1
              try clear c2
              try clear c2b0
              try clear c2b1
              try clear p2
              try clear c3
              try clear c4
              try clear c6
              try clear c6b0
              try clear c6b1
              try clear c6b2
              try clear c13
              try clear c20
              try clear c23
              try clear c27
              try clear c28
              try clear hcz12_0
              try clear hcz12_1
              try clear hcz12_2
              try clear hcz17_0
              try clear hcz17_1
              try clear hcz17_2
              try clear hcz20_0
              try clear hcz20_1
              try clear hcz20_2
              try clear hcz25_0
              try clear hcz25_1
              try clear hcz25_2
              try clear hcz9_0
              try clear hcz9_1
              try clear hcz9_2
              try clear hfz12_0
              try clear hfz12_1
              try clear hfz12_2
              try clear hfz17_0
              try clear hfz17_1
              try clear hfz17_2
              try clear hfz20_0
              try clear hfz20_1
              try clear hfz20_2
              try clear hfz25_0
              try clear hfz25_1
              try clear hfz25_2
              try clear hfz9_0
              try clear hfz9_1
              try clear hfz9_2
              try clear p2
              obtain ⟨x6_2, x7_2, x8_2, rfl, rfl, HA, HK2, HO_3, HO_6, BK707, HB⟩ := hrel
              cases gk with
              | zero => exact absurd HA.out (by simp [laws_FnWeighSo.l0])
              | succ k2 =>
                have H := HA.out; clear HA
                simp only [laws_FnWeighSo.l0] at H
                by_cases c32 : x8_2 < 4
                · rw [if_pos c32] at H
                  have c32b0 : decide (x8_2 < 4) = true := decide_eq_true c32; clear c32
                  by_cases c33 : 0 ≤ x8_2
                  · rw [if_pos c33] at H
                    have c33b0 : decide (0 ≤ x8_2) = true := decide_eq_true c33; clear c33
                    by_cases c34 : x8_2 < (t701.length : Int)
                    · rw [if_pos c34] at H
                      have c34b0 : decide (x8_2 < (t701.length : Int)) = true := decide_eq_true c34; clear c34
                      by_cases c35 : x6_2.length < 17592186044416
                      · rw [if_pos c35] at H
                        have LMc35 := Aside0.mk c35; clear c35
                        obtain ⟨y717, hy717⟩ : ∃ y_ : List Int, y_ = (x6_2 ++ [wrap64 (2 * (rd t701 x8_2))]) := ⟨_, rfl⟩
                        replace H : (if (rd t701 x8_2) > 0 then (laws_FnWeighSo.l0 k2 t701 t708 y717 (wrap64 (x7_2 + (shl .i64 1 x8_2))) (wrap64 (x8_2 + 1)) t704 t705 t706) else (laws_FnWeighSo.l0 k2 t701 t708 y717 x7_2 (wrap64 (x8_2 + 1)) t704 t705 t706)) = some r := by first | (rw [hy717]; with_reducible exact H) | (have H2_ := (Option.bind_some _ _).symm.trans H; rw [hy717]; with_reducible exact H2_) | (have H2_ := (Option.bind_some _ _).symm.trans H; with_reducible exact H2_) | with_reducible exact H | (rw [hy717]; exact H) | exact H
                        have Ny717 := Aside0.mk hy717; clear hy717
                        by_cases c36 : (rd t701 x8_2) > 0
                        · rw [if_pos c36] at H
                          have c36b0 : decide (0 < (rd t701 x8_2)) = true := decide_eq_true c36; clear c36
                          have c37b0 := eq_true (of_decide_eq_true (by first | (with_reducible assumption) | assumption) : 0 ≤ x8_2)
                          obtain ⟨ji38, hji38⟩ : ∃ j_ : Int, (shl .i64 1 x8_2) = j_ := ⟨_, rfl⟩
                          replace H : (laws_FnWeighSo.l0 k2 t701 t708 y717 (wrap64 (x7_2 + (ji38))) (wrap64 (x8_2 + 1)) t704 t705 t706) = some r := by first | (rw [hji38] at H; exact H) | (simp only [hji38] at H ⊢; exact H)
                          have hji38_ : (IntKind.i64.wrap (1 * 2 ^ min x8_2.toNat 64)) = ji38 := hji38
                          have hji38z : x8_2 ≤ 64 → (IntKind.i64.wrap (1 * 2 ^ x8_2.toNat)) = ji38 := shl_small hji38
                          have hji38u : (IntKind.i64.wrap (2 ^ min x8_2.toNat 64)) = ji38 := by have h_ := hji38_; rw [Int.one_mul] at h_; exact h_
                          have hji38v : x8_2 ≤ 64 → (IntKind.i64.wrap (2 ^ x8_2.toNat)) = ji38 := fun hle_ => by have h_ := hji38z hle_; rw [Int.one_mul] at h_; exact h_
                          have hji38y : (wrap64 (1 * 2 ^ min x8_2.toNat 64)) = ji38 := (i64_w _).symm.trans hji38_
                          have hji38x : x8_2 ≤ 64 → (wrap64 (1 * 2 ^ x8_2.toNat)) = ji38 := fun h_ => (i64_w _).symm.trans (hji38z h_)
                          have H' := Aside0.mk H; clear H
                          have p716 : 0 ≤ (x8_2 : Int) := of_decide_eq_true (by first | (with_reducible assumption) | assumption)
                          have q716 : x8_2 < (t701.length : Int) := of_decide_eq_true (by first | (with_reducible assumption) | assumption)
                          obtain ⟨ad716, e716, hx716_0⟩ := Kd.at_int (Kd.R_reads' HO_3.out).2.2 x8_2 p716 q716
                          cases e716
                          replace p716 := eq_true p716
                          replace q716 := eq_true q716
                          go_wp2_with (first | ((with_reducible refine gate_builtin (b := .append) (xs := #[.tmp 43, .tmp 49]) rfl ?_); at_builtin; refine Kd.R_append (Kd.int .i64) (w0 := w) w.heap.size rfl (.tmp 43) (.tmp 49) 28 3 (.int .i64 0) 8 rfl Try.underlying28 info3 rfl (by decide) (by omega) u6 x6_2 (wrap64 (2 * (rd t701 x8_2))) [.int .i64 (wrap64 (2 * (rd t701 x8_2)))] (fun k_ => some k_ ≠ (.slice (some ad716) t701.length co18 : Value).ownBlock) (fun _ => False) rfl rfl ?aP (fun _ hk => hk.elim) ?aF ?aO ?aB ?aS ?aL ?_; (case aP => exact rfl); (case aB => exact (by repeat (first | (with_reducible first | exact HB.out | apply below_alloc | apply pw_below_drewN | apply below_drew1 | refine below_set ?_ GE707.out) | exact HB.out))); (case aF => exact (fun k_ hk => Kd.fresh' (Kd.R_lt (by (with_reducible repeat (first | apply Kd.R_alloc | apply Kd.R_drewN | apply Kd.R_drew)); exact HO_3.out)) k_ hk)); (case aO => exact (by (with_reducible repeat (first | apply Kd.R_alloc | apply Kd.R_drewN | apply Kd.R_drew)); exact HO_6.out)); (case aS => exact (below_size (by repeat (first | (with_reducible first | exact HB.out | apply below_alloc | apply pw_below_drewN | apply below_drew1 | refine below_set ?_ GE707.out) | exact HB.out)))); (case aL => have := LMc35.out; omega); intro v718 w39 ho hb hg hat; rw [← Ny717.out] at ho; have n0_ := Aside0.mk (Kd.R_after (ok := (fun _ => True)) (by (with_reducible repeat (first | apply Kd.R_alloc | apply Kd.R_drewN | apply Kd.R_drew)); exact Kd.R_mono HO_3.out (fun _ hk => ⟨trivial, hk⟩)) hg hat); have n1_ := Aside0.mk (blk_grown (g := gb707) (o := .cells #[.int .i64 t704, .int .i64 t705, .int .i64 t706] 25 (0, 0)) (by (with_reducible repeat (first | refine blk_drewN ?_ _ | refine blk_drew ?_ | refine blk_alloc ?_ _)); exact BK707.out) hg (Kd.R_ne HO_6.out BK707.out (by decide))); have n2_ := Aside0.mk (hb); have n3_ := Aside0.mk (ho); clear HO_3 BK707 HB HO_6; have HO_3 := n0_; have BK707 := n1_; have HB := n2_; have HO719 := n3_; clear n0_ n1_ n2_ n3_ ho hb hg hat; have p720 : 0 ≤ (x8_2 : Int) := of_decide_eq_true (by first | (with_reducible assumption) | assumption); have q720 : x8_2 < (t701.length : Int) := of_decide_eq_true (by first | (with_reducible assumption) | assumption); obtain ⟨ad720, e720, hx720_0⟩ := Kd.at_int (Kd.R_reads' HO_3.out).2.2 x8_2 p720 q720; obtain rfl : ad716 = ad720 := (by injection e720); replace p720 := eq_true p720; replace q720 := eq_true q720))
                          go_roundg k2
                          case measure => have := HJ13.out; have := HK2.out; omega
                          case rel => exact ⟨(y717), (wrap64 (x7_2 + (ji38))), (wrap64 (x8_2 + 1)), (by first | rfl | (simp; done) | (simp only [← hji38] <;> (first | rfl | simp)) | (simp [*]; done)), (by first | rfl | (simp; done) | (simp [*]; done)), H', ⟨by have := HJ13.out; have := HK2.out; omega⟩, ⟨by (with_reducible repeat (first | apply Kd.R_alloc | apply Kd.R_drewN | apply Kd.R_drew)); exact Kd.R_mono HO_3.out (fun _ hk => hk.2)⟩, ⟨by (with_reducible repeat (first | apply Kd.R_alloc | apply Kd.R_drewN | apply Kd.R_drew)); exact HO719.out⟩, ⟨by (with_reducible repeat (first | refine blk_drewN ?_ _ | refine blk_drew ?_ | refine blk_alloc ?_ _)); exact BK707.out⟩, ⟨by repeat (first | (with_reducible first | exact HB.out | apply below_alloc | apply pw_below_drewN | apply below_drew1 | refine below_set ?_ GE707.out) | exact HB.out)⟩⟩
                        · rw [if_neg c36] at H
                          have c36b0 : decide (0 < (rd t701 x8_2)) = false := decide_eq_false c36; clear c36
                          have H' := Aside0.mk H; clear H
                          have p716 : 0 ≤ (x8_2 : Int) := of_decide_eq_true (by first | (with_reducible assumption) | assumption)
                          have q716 : x8_2 < (t701.length : Int) := of_decide_eq_true (by first | (with_reducible assumption) | assumption)
                          obtain ⟨ad716, e716, hx716_0⟩ := Kd.at_int (Kd.R_reads' HO_3.out).2.2 x8_2 p716 q716
                          cases e716
                          replace p716 := eq_true p716
                          replace q716 := eq_true q716
                          go_wp2_with (first | ((with_reducible refine gate_builtin (b := .append) (xs := #[.tmp 43, .tmp 49]) rfl ?_); at_builtin; refine Kd.R_append (Kd.int .i64) (w0 := w) w.heap.size rfl (.tmp 43) (.tmp 49) 28 3 (.int .i64 0) 8 rfl Try.underlying28 info3 rfl (by decide) (by omega) u6 x6_2 (wrap64 (2 * (rd t701 x8_2))) [.int .i64 (wrap64 (2 * (rd t701 x8_2)))] (fun k_ => some k_ ≠ (.slice (some ad716) t701.length co18 : Value).ownBlock) (fun _ => False) rfl rfl ?aP (fun _ hk => hk.elim) ?aF ?aO ?aB ?aS ?aL ?_; (case aP => exact rfl); (case aB => exact (by repeat (first | (with_reducible first | exact HB.out | apply below_alloc | apply pw_below_drewN | apply below_drew1 | refine below_set ?_ GE707.out) | exact HB.out))); (case aF => exact (fun k_ hk => Kd.fresh' (Kd.R_lt (by (with_reducible repeat (first | apply Kd.R_alloc | apply Kd.R_drewN | apply Kd.R_drew)); exact HO_3.out)) k_ hk)); (case aO => exact (by (with_reducible repeat (first | apply Kd.R_alloc | apply Kd.R_drewN | apply Kd.R_drew)); exact HO_6.out)); (case aS => exact (below_size (by repeat (first | (with_reducible first | exact HB.out | apply below_alloc | apply pw_below_drewN | apply below_drew1 | refine below_set ?_ GE707.out) | exact HB.out)))); (case aL => have := LMc35.out; omega); intro v718 w40 ho hb hg hat; rw [← Ny717.out] at ho; have n0_ := Aside0.mk (Kd.R_after (ok := (fun _ => True)) (by (with_reducible repeat (first | apply Kd.R_alloc | apply Kd.R_drewN | apply Kd.R_drew)); exact Kd.R_mono HO_3.out (fun _ hk => ⟨trivial, hk⟩)) hg hat); have n1_ := Aside0.mk (blk_grown (g := gb707) (o := .cells #[.int .i64 t704, .int .i64 t705, .int .i64 t706] 25 (0, 0)) (by (with_reducible repeat (first | refine blk_drewN ?_ _ | refine blk_drew ?_ | refine blk_alloc ?_ _)); exact BK707.out) hg (Kd.R_ne HO_6.out BK707.out (by decide))); have n2_ := Aside0.mk (hb); have n3_ := Aside0.mk (ho); clear HO_3 BK707 HB HO_6; have HO_3 := n0_; have BK707 := n1_; have HB := n2_; have HO719 := n3_; clear n0_ n1_ n2_ n3_ ho hb hg hat; have p720 : 0 ≤ (x8_2 : Int) := of_decide_eq_true (by first | (with_reducible assumption) | assumption); have q720 : x8_2 < (t701.length : Int) := of_decide_eq_true (by first | (with_reducible assumption) | assumption); obtain ⟨ad720, e720, hx720_0⟩ := Kd.at_int (Kd.R_reads' HO_3.out).2.2 x8_2 p720 q720; obtain rfl : ad716 = ad720 := (by injection e720); replace p720 := eq_true p720; replace q720 := eq_true q720))
                          go_roundg k2
                          case measure => have := HJ13.out; have := HK2.out; omega
                          case rel => exact ⟨(y717), (x7_2), (wrap64 (x8_2 + 1)), (by first | rfl | (simp; done) | (simp [*]; done)), (by first | rfl | (simp; done) | (simp [*]; done)), H', ⟨by have := HJ13.out; have := HK2.out; omega⟩, ⟨by (with_reducible repeat (first | apply Kd.R_alloc | apply Kd.R_drewN | apply Kd.R_drew)); exact Kd.R_mono HO_3.out (fun _ hk => hk.2)⟩, ⟨by (with_reducible repeat (first | apply Kd.R_alloc | apply Kd.R_drewN | apply Kd.R_drew)); exact HO719.out⟩, ⟨by (with_reducible repeat (first | refine blk_drewN ?_ _ | refine blk_drew ?_ | refine blk_alloc ?_ _)); exact BK707.out⟩, ⟨by repeat (first | (with_reducible first | exact HB.out | apply below_alloc | apply pw_below_drewN | apply below_drew1 | refine below_set ?_ GE707.out) | exact HB.out)⟩⟩
                      · rw [if_neg c35] at H
                        exact absurd H (by simp)
                    · rw [if_neg c34] at H
                      exact absurd H (by simp)
                  · rw [if_neg c33] at H
                    exact absurd H (by simp)
                · rw [if_neg c32] at H
                  have c32b0 : decide (x8_2 < 4) = false := decide_eq_false c32; clear c32
                  replace H := Option.bind_eq_some_iff.mp H
                  obtain ⟨t721, A410, H⟩ := H
                  replace H : (if (t721 == t708) = true then (if t704 > 1 then (some true) else ((impl_SoIn.f k2 2 x7_2 t704 t705 t706).bind fun t722 => (some (t722 == t708)))) else (some false)) = some r := H
                  have A41 := Aside0.mk A410; clear A410
                  by_cases c42 : (t721 == t708) = true
                  · rw [if_pos c42] at H
                    have c42b0 : (t721 == t708) = true := c42
                    (try (have c42b1 : decide (t721 = t708) = true := by simpa using c42))
                    (try (have c42b2 : (t721 == t708) = true := by simpa using c42)); clear c42
                    by_cases c43 : t704 > 1
                    · rw [if_pos c43] at H
                      have c43b0 : decide (1 < t704) = true := decide_eq_true c43; clear c43
                      obtain rfl := Option.some.inj H
                      have hcz44_0 : wr.cell? ⟨gb707, 0, none⟩ = some (.int .i64 t704) := (blk_cell BK707.out 0).trans rfl
                      have hcz44_1 : wr.cell? ⟨gb707, 1, none⟩ = some (.int .i64 t705) := (blk_cell BK707.out 1).trans rfl
                      have hcz44_2 : wr.cell? ⟨gb707, 2, none⟩ = some (.int .i64 t706) := (blk_cell BK707.out 2).trans rfl
                      have hfz44_0 := blk_frozen BK707.out 0
                      have hfz44_1 := blk_frozen BK707.out 1
                      have hfz44_2 := blk_frozen BK707.out 2
                      obtain ⟨Ao45, co45, eo45⟩ := Kd.R_slice HO_6.out; subst eo45
                      go_wp2_with (first | ((with_reducible refine gate_callee (f := 39) rfl ?_); refine goesL_ (some 62) rfl rfl Try.func39 (by kernel_rfl) rfl #[.slice Ao45 x6_2.length co45, .agg #[.int .i64 t704, .int .i64 t705, .int .i64 t706]] rfl (by (try simp only [List.map_toArray, List.map_cons, List.map_nil]); first | done | rfl | (simp only [List.length_drop, List.length_take]; rfl)) ?_; (with_reducible refine (impl_WeighSo.calls k2 _ _ x6_2 t704 t705 t706 t721 _ ?side1 ?side2 A41.out).mono ?_); (case side1 => repeat (first | exact (Kd.R_reads' HO_6.out).2.2 | (with_reducible refine Kd.C_alloc ?_ _) | (with_reducible refine Kd.C_drewN ?_ _) | (with_reducible refine Kd.C_drew ?_))); (case side2 => exact (Kd.R_reads' HO_6.out).2.1); rintro e w46 ⟨rfl, hb⟩; refine ⟨_, rfl, ?_⟩; have n0_ := Aside0.mk (Kd.R_below (by (with_reducible repeat (first | apply Kd.R_alloc | apply Kd.R_drewN | apply Kd.R_drew)); exact HO_3.out) hb); have n1_ := Aside0.mk (Kd.R_below (by (with_reducible repeat (first | apply Kd.R_alloc | apply Kd.R_drewN | apply Kd.R_drew)); exact HO_6.out) hb); have n2_ := Aside0.mk (blk_below (g := gb707) (o := .cells #[.int .i64 t704, .int .i64 t705, .int .i64 t706] 25 (0, 0)) (by (with_reducible repeat (first | refine blk_drewN ?_ _ | refine blk_drew ?_ | refine blk_alloc ?_ _)); exact BK707.out) hb); have n3_ := Aside0.mk (below_step (by repeat (first | (with_reducible first | exact HB.out | apply below_alloc | apply pw_below_drewN | apply below_drew1 | refine below_set ?_ GE707.out) | exact HB.out)) hb); clear HO_3 HO_6 BK707 HB; have HO_3 := n0_; have HO_6 := n1_; have BK707 := n2_; have HB := n3_; clear n0_ n1_ n2_ n3_; (try clear hb); (try clear hb2); (try clear hk); (try clear hi); have hcz47_0 : w46.cell? ⟨gb707, 0, none⟩ = some (.int .i64 t704) := (blk_cell BK707.out 0).trans rfl; have hcz47_1 : w46.cell? ⟨gb707, 1, none⟩ = some (.int .i64 t705) := (blk_cell BK707.out 1).trans rfl; have hcz47_2 : w46.cell? ⟨gb707, 2, none⟩ = some (.int .i64 t706) := (blk_cell BK707.out 2).trans rfl; have hfz47_0 := blk_frozen BK707.out 0; have hfz47_1 := blk_frozen BK707.out 1; have hfz47_2 := blk_frozen BK707.out 2))
                      go_ret
                      exact ⟨by first | rfl | (simp [errW_none, errW_some] <;> rfl) | (simp [*, errW_none, errW_some] <;> rfl), by repeat (first | (with_reducible first | exact HB.out | apply below_alloc | apply pw_below_drewN | apply below_drew1 | refine below_set ?_ GE707.out) | exact HB.out)⟩
                    · rw [if_neg c43] at H
                      have c43b0 : decide (1 < t704) = false := decide_eq_false c43; clear c43
                      replace H := Option.bind_eq_some_iff.mp H
                      obtain ⟨t722, A480, H⟩ := H
                      replace H : (some (t722 == t708)) = some r := H
                      have A48 := Aside0.mk A480; clear A480
                      obtain rfl := Option.some.inj H
                      have hcz49_0 : wr.cell? ⟨gb707, 0, none⟩ = some (.int .i64 t704) := (blk_cell BK707.out 0).trans rfl
                      have hcz49_1 : wr.cell? ⟨gb707, 1, none⟩ = some (.int .i64 t705) := (blk_cell BK707.out 1).trans rfl
                      have hcz49_2 : wr.cell? ⟨gb707, 2, none⟩ = some (.int .i64 t706) := (blk_cell BK707.out 2).trans rfl
                      have hfz49_0 := blk_frozen BK707.out 0
                      have hfz49_1 := blk_frozen BK707.out 1
                      have hfz49_2 := blk_frozen BK707.out 2
                      obtain ⟨Ao50, co50, eo50⟩ := Kd.R_slice HO_6.out; subst eo50
                      go_wp2_with (first | ((with_reducible refine gate_callee (f := 39) rfl ?_); refine goesL_ (some 62) rfl rfl Try.func39 (by kernel_rfl) rfl #[.slice Ao50 x6_2.length co50, .agg #[.int .i64 t704, .int .i64 t705, .int .i64 t706]] rfl (by (try simp only [List.map_toArray, List.map_cons, List.map_nil]); first | done | rfl | (simp only [List.length_drop, List.length_take]; rfl)) ?_; (with_reducible refine (impl_WeighSo.calls k2 _ _ x6_2 t704 t705 t706 t721 _ ?side1 ?side2 A41.out).mono ?_); (case side1 => repeat (first | exact (Kd.R_reads' HO_6.out).2.2 | (with_reducible refine Kd.C_alloc ?_ _) | (with_reducible refine Kd.C_drewN ?_ _) | (with_reducible refine Kd.C_drew ?_))); (case side2 => exact (Kd.R_reads' HO_6.out).2.1); rintro e w51 ⟨rfl, hb⟩; refine ⟨_, rfl, ?_⟩; have n0_ := Aside0.mk (Kd.R_below (by (with_reducible repeat (first | apply Kd.R_alloc | apply Kd.R_drewN | apply Kd.R_drew)); exact HO_3.out) hb); have n1_ := Aside0.mk (Kd.R_below (by (with_reducible repeat (first | apply Kd.R_alloc | apply Kd.R_drewN | apply Kd.R_drew)); exact HO_6.out) hb); have n2_ := Aside0.mk (blk_below (g := gb707) (o := .cells #[.int .i64 t704, .int .i64 t705, .int .i64 t706] 25 (0, 0)) (by (with_reducible repeat (first | refine blk_drewN ?_ _ | refine blk_drew ?_ | refine blk_alloc ?_ _)); exact BK707.out) hb); have n3_ := Aside0.mk (below_step (by repeat (first | (with_reducible first | exact HB.out | apply below_alloc | apply pw_below_drewN | apply below_drew1 | refine below_set ?_ GE707.out) | exact HB.out)) hb); clear HO_3 HO_6 BK707 HB; have HO_3 := n0_; have HO_6 := n1_; have BK707 := n2_; have HB := n3_; clear n0_ n1_ n2_ n3_; (try clear hb); (try clear hb2); (try clear hk); (try clear hi); have hcz52_0 : w51.cell? ⟨gb707, 0, none⟩ = some (.int .i64 t704) := (blk_cell BK707.out 0).trans rfl; have hcz52_1 : w51.cell? ⟨gb707, 1, none⟩ = some (.int .i64 t705) := (blk_cell BK707.out 1).trans rfl; have hcz52_2 : w51.cell? ⟨gb707, 2, none⟩ = some (.int .i64 t706) := (blk_cell BK707.out 2).trans rfl; have hfz52_0 := blk_frozen BK707.out 0; have hfz52_1 := blk_frozen BK707.out 1; have hfz52_2 := blk_frozen BK707.out 2) | (go_at_call 45; (with_reducible refine (impl_SoIn.calls k2 2 x7_2 t704 t705 t706 t722 _ A48.out).mono ?_); rintro e w53 ⟨rfl, hb⟩; have n0_ := Aside0.mk (Kd.R_below (by (with_reducible repeat (first | apply Kd.R_alloc | apply Kd.R_drewN | apply Kd.R_drew)); exact HO_3.out) hb); have n1_ := Aside0.mk (Kd.R_below (by (with_reducible repeat (first | apply Kd.R_alloc | apply Kd.R_drewN | apply Kd.R_drew)); exact HO_6.out) hb); have n2_ := Aside0.mk (blk_below (g := gb707) (o := .cells #[.int .i64 t704, .int .i64 t705, .int .i64 t706] 25 (0, 0)) (by (with_reducible repeat (first | refine blk_drewN ?_ _ | refine blk_drew ?_ | refine blk_alloc ?_ _)); exact BK707.out) hb); have n3_ := Aside0.mk (below_step (by repeat (first | (with_reducible first | exact HB.out | apply below_alloc | apply pw_below_drewN | apply below_drew1 | refine below_set ?_ GE707.out) | exact HB.out)) hb); clear HO_3 HO_6 BK707 HB; have HO_3 := n0_; have HO_6 := n1_; have BK707 := n2_; have HB := n3_; clear n0_ n1_ n2_ n3_; (try clear hb); (try clear hb2); (try clear hk); (try clear hi)))
                      go_ret
                      exact ⟨by first | rfl | (simp [errW_none, errW_some] <;> rfl) | (simp [*, errW_none, errW_some] <;> rfl), by repeat (first | (with_reducible first | exact HB.out | apply below_alloc | apply pw_below_drewN | apply below_drew1 | refine below_set ?_ GE707.out) | exact HB.out)⟩
                  · rw [if_neg c42] at H
                    have c42b0 : (t721 == t708) = false := by simpa using c42
                    (try (have c42b1 : decide (t721 = t708) = false := by simpa using c42))
                    (try (have c42b2 : (t721 == t708) = false := by simpa using c42))
                    (try (have c42b3 : ¬ (t721 = t708) := by simpa using c42)); clear c42
                    obtain rfl := Option.some.inj H
                    have hcz54_0 : wr.cell? ⟨gb707, 0, none⟩ = some (.int .i64 t704) := (blk_cell BK707.out 0).trans rfl
                    have hcz54_1 : wr.cell? ⟨gb707, 1, none⟩ = some (.int .i64 t705) := (blk_cell BK707.out 1).trans rfl
                    have hcz54_2 : wr.cell? ⟨gb707, 2, none⟩ = some (.int .i64 t706) := (blk_cell BK707.out 2).trans rfl
                    have hfz54_0 := blk_frozen BK707.out 0
                    have hfz54_1 := blk_frozen BK707.out 1
                    have hfz54_2 := blk_frozen BK707.out 2
                    obtain ⟨Ao55, co55, eo55⟩ := Kd.R_slice HO_6.out; subst eo55
                    go_wp2_with (first | ((with_reducible refine gate_callee (f := 39) rfl ?_); refine goesL_ (some 62) rfl rfl Try.func39 (by kernel_rfl) rfl #[.slice Ao55 x6_2.length co55, .agg #[.int .i64 t704, .int .i64 t705, .int .i64 t706]] rfl (by (try simp only [List.map_toArray, List.map_cons, List.map_nil]); first | done | rfl | (simp only [List.length_drop, List.length_take]; rfl)) ?_; (with_reducible refine (impl_WeighSo.calls k2 _ _ x6_2 t704 t705 t706 t721 _ ?side1 ?side2 A41.out).mono ?_); (case side1 => repeat (first | exact (Kd.R_reads' HO_6.out).2.2 | (with_reducible refine Kd.C_alloc ?_ _) | (with_reducible refine Kd.C_drewN ?_ _) | (with_reducible refine Kd.C_drew ?_))); (case side2 => exact (Kd.R_reads' HO_6.out).2.1); rintro e w56 ⟨rfl, hb⟩; refine ⟨_, rfl, ?_⟩; have n0_ := Aside0.mk (Kd.R_below (by (with_reducible repeat (first | apply Kd.R_alloc | apply Kd.R_drewN | apply Kd.R_drew)); exact HO_3.out) hb); have n1_ := Aside0.mk (Kd.R_below (by (with_reducible repeat (first | apply Kd.R_alloc | apply Kd.R_drewN | apply Kd.R_drew)); exact HO_6.out) hb); have n2_ := Aside0.mk (blk_below (g := gb707) (o := .cells #[.int .i64 t704, .int .i64 t705, .int .i64 t706] 25 (0, 0)) (by (with_reducible repeat (first | refine blk_drewN ?_ _ | refine blk_drew ?_ | refine blk_alloc ?_ _)); exact BK707.out) hb); have n3_ := Aside0.mk (below_step (by repeat (first | (with_reducible first | exact HB.out | apply below_alloc | apply pw_below_drewN | apply below_drew1 | refine below_set ?_ GE707.out) | exact HB.out)) hb); clear HO_3 HO_6 BK707 HB; have HO_3 := n0_; have HO_6 := n1_; have BK707 := n2_; have HB := n3_; clear n0_ n1_ n2_ n3_; (try clear hb); (try clear hb2); (try clear hk); (try clear hi)))
                    go_ret
                    exact ⟨by first | rfl | (simp [errW_none, errW_some] <;> rfl) | (simp [*, errW_none, errW_some] <;> rfl), by repeat (first | (with_reducible first | exact HB.out | apply below_alloc | apply pw_below_drewN | apply below_drew1 | refine below_set ?_ GE707.out) | exact HB.out)⟩

/-- THE ONE PURE STATEMENT of laws_FnWeighSo: yours. -/
def laws_FnWeighSo.Pure : Prop := ∀ (l0 : List Int), l0.length ≤ maxLen → l0.length * 1 ≤ 140737488351232 → (∀ x ∈ l0, (Lit.int .u8 x).wf = true) → ∃ k, laws_FnWeighSo.f k l0 = some true
theorem laws_FnWeighSo.walk (P : laws_FnWeighSo.Pure) (a0 : Option Addr) (len0 cap0 : Nat) (z0 : List Int) (w : World) (w0 : (a0 = none ∧ len0 = 0 ∧ cap0 = 0 ∧ z0 = []) ∨ ∃ x, a0 = some x ∧ len0 ≤ cap0 ∧ cap0 ≤ maxLen ∧ z0.length = cap0 ∧ (∀ i, i < z0.length → w.cell? (x.add i) = some (.int .u8 (z0.getD i 0))) ∧ ∀ n ∈ z0, (Lit.int .u8 n).wf = true) (y0 : len0 * 1 ≤ 140737488351232) :
    Calls Try.prog 13 #[.slice a0 len0 cap0] w fun e w' => e = .returned (.bool true) ∧ Below w.heap.size w w' := by
  obtain ⟨l0, rfl, hr0, hm0, hw0, hc0⟩ := ReadsInt.ofRowC w0
  obtain ⟨k, h⟩ := P l0 hm0 y0 hw0
  refine (laws_FnWeighSo.calls k _ _ l0 true w (Kd.C_of_reads (d := (0 : Int)) (h1 := fun _ => rfl) hr0) hc0 h).mono ?_
  rintro e w' ⟨rfl, hd⟩
  exact ⟨rfl, hd⟩

end Go.Proofs.Ytknphpgalklclaa.PA
