/- The machine side of functions of this seat, written by the session's program myprint.py: for each Go function a Lean function and the proof that the call answers just it. -/
import Derived.Test.YtainbbpmaengjaaPAx0
import Derived.Test.YtainbbpmaengjaaPAx1
import Derived.Test.YtainbbpmaengjaaPAx6
import Derived.Test.YtainbbpmaengjaaPAx14
import Derived.Test.YtainbbpmaengjaaPAx15
import Derived.Test.YtainbbpmaengjaaPAx23
import Derived.Test.YtainbbpmaengjaaPAx37
namespace Go.Proofs.Ytainbbpmaengjaa.PA
open Go.RowKit Go.Proofs.YtainbbpmaengjaaW.PrintWords Go.Proofs.YtainbbpmaengjaaW.PrintLast Go.Proofs.YtainbbpmaengjaaW.PrintMore
attribute [local go_sem] max2_int min2_int max_two min_two max_three min_three max_four min_four   -- for this text's walks alone
set_option linter.unusedVariables false
set_option linter.unusedSimpArgs false

attribute [local go_sem high] eqA25
/-! ### laws_FnReadSay: function 12 -/
def laws_FnReadSay.j0 : Nat → Int → ByteArray → Bool → Bool → Int → Int → Int → Option (Bool)
  | 0, _, _, _, _, _, _, _ => none
  | k + 1, x3, x4, x6, x38, x410000, x410001, x410002 => if x38 = true then (some false) else (if x6 = true then (if x4.size + 1 ≤ 9223372036854775807 then ((impl_ReadSay.f k x3 (x4 ++ (⟨#[32]⟩ : ByteArray))).bind fun bt415 => ((impl_SayText.f x3 x410000 x410001 x410002).bind fun t420 => (if t420.toList = x4.toList then (some (!bt415.2.2.2)) else (some false)))) else (none)) else (if (x410000 == 0 && (x410001 == 0 && (x410002 == 0))) = true then ((laws_alive.f).bind fun t421 => (some t421)) else (some false)))
def laws_FnReadSay.f (k : Nat) (l0 : List Int) : Option (Bool) := if (l0.length : Int) > 1048576 then (some true) else ((spec_DrawReadSay.f k l0).bind fun bt403 => ((impl_ReadSay.f k bt403.1 bt403.2).bind fun bt405 => ((spec_ReadSay.f k bt403.1 bt403.2).bind fun bt410 => (if (!(bt405.1 == bt410.1) || (!(bt405.2.1 == bt410.2.1) || (!(bt405.2.2.1 == bt410.2.2.1)))) = true then (laws_FnReadSay.j0 k bt403.1 bt403.2 bt405.2.2.2 true bt405.1 bt405.2.1 bt405.2.2.1) else (laws_FnReadSay.j0 k bt403.1 bt403.2 bt405.2.2.2 (bt405.2.2.2 != bt410.2.2.2) bt405.1 bt405.2.1 bt405.2.2.1)))))
theorem laws_FnReadSay.mono_l : ∀ k, (∀ y0 y1 y2 y3 y4 y5 y6, LeO (laws_FnReadSay.j0 k y0 y1 y2 y3 y4 y5 y6) (laws_FnReadSay.j0 (k + 1) y0 y1 y2 y3 y4 y5 y6))
  | 0 => fun _ _ _ _ _ _ _ r h => by simp [laws_FnReadSay.j0] at h
  | k + 1 => by
    have ih0 := laws_FnReadSay.mono_l k
    · intro y0 y1 y2 y3 y4 y5 y6
      unfold laws_FnReadSay.j0
      repeat' first
      | (with_reducible exact ih0 _ _ _ _ _ _ _)
      | (with_reducible exact impl_ReadSay.mono _ _ _)
      | (with_reducible exact spec_DrawReadSay.mono _ _)
      | (with_reducible exact spec_ReadSay.mono _ _ _)
      | (with_reducible exact LeO.refl _)
      | (with_reducible exact LeO.none _)
      | (with_reducible refine LeO.ite ?_ ?_)
      | (with_reducible refine LeO.bind ?_ (fun _ => ?_))
      | exact ih0 _ _ _ _ _ _ _
      | exact impl_ReadSay.mono _ _ _
      | exact spec_DrawReadSay.mono _ _
      | exact spec_ReadSay.mono _ _ _
      | exact LeO.none _
      | refine LeO.ite ?_ ?_
      | refine LeO.bind ?_ (fun _ => ?_)
theorem laws_FnReadSay.mono : ∀ a0 k, LeO (laws_FnReadSay.f k a0) (laws_FnReadSay.f (k + 1) a0) := by
  intro a0 k
  have ih0 := laws_FnReadSay.mono_l k
  unfold laws_FnReadSay.f
  repeat' first
      | (with_reducible exact ih0 _ _ _ _ _ _ _)
      | (with_reducible exact impl_ReadSay.mono _ _ _)
      | (with_reducible exact spec_DrawReadSay.mono _ _)
      | (with_reducible exact spec_ReadSay.mono _ _ _)
      | (with_reducible exact LeO.refl _)
      | (with_reducible exact LeO.none _)
      | (with_reducible refine LeO.ite ?_ ?_)
      | (with_reducible refine LeO.bind ?_ (fun _ => ?_))
      | exact ih0 _ _ _ _ _ _ _
      | exact impl_ReadSay.mono _ _ _
      | exact spec_DrawReadSay.mono _ _
      | exact spec_ReadSay.mono _ _ _
      | exact LeO.none _
      | refine LeO.ite ?_ ?_
      | refine LeO.bind ?_ (fun _ => ?_)
set_option maxHeartbeats 8000000 in
set_option maxRecDepth 100000 in
theorem laws_FnReadSay.calls (k : Nat) (A0 : Option Addr) (c0 : Nat) (l0 : List Int) (r : Bool) (w : World) (hr0 : Kd.C (Kd.int .u8) w A0 l0.length l0) (hc0 : l0.length ≤ c0) (h : laws_FnReadSay.f k l0 = some r) :
    Calls Try.prog 12 #[.slice A0 l0.length c0] w fun e w' => e = .returned (.bool r) ∧ Below w.heap.size w w' := by
  have hu25 := Try.underlying25
  have HR0 := Aside0.mk hr0
  have HC0 := Aside0.mk hc0; clear hr0 hc0; have HB := Aside0.mk (Below.refl w.heap.size w)
  have H : (if (l0.length : Int) > 1048576 then (some true) else ((spec_DrawReadSay.f k l0).bind fun bt403 => ((impl_ReadSay.f k bt403.1 bt403.2).bind fun bt405 => ((spec_ReadSay.f k bt403.1 bt403.2).bind fun bt410 => (if (!(bt405.1 == bt410.1) || (!(bt405.2.1 == bt410.2.1) || (!(bt405.2.2.1 == bt410.2.2.1)))) = true then (laws_FnReadSay.j0 k bt403.1 bt403.2 bt405.2.2.2 true bt405.1 bt405.2.1 bt405.2.2.1) else (laws_FnReadSay.j0 k bt403.1 bt403.2 bt405.2.2.2 (bt405.2.2.2 != bt410.2.2.2) bt405.1 bt405.2.1 bt405.2.2.1)))))) = some r := h; clear h
  by_cases c2 : (l0.length : Int) > 1048576
  · rw [if_pos c2] at H
    have c2b0 : decide (1048576 < (l0.length : Int)) = true := decide_eq_true c2
    have c2b1 : decide (1048576 < l0.length) = true := decide_eq_true (by omega); clear c2
    obtain rfl := Option.some.inj H
    go_enter Try.func12, Try.ntmps12
    go_wp2
    go_ret
    exact ⟨by first | rfl | (simp [errW_none, errW_some] <;> rfl) | (simp [*, errW_none, errW_some] <;> rfl), by repeat (first | (with_reducible first | exact HB.out | apply below_alloc | apply pw_below_drewN | apply below_drew1) | exact HB.out)⟩
  · rw [if_neg c2] at H
    have c2b0 : decide (1048576 < (l0.length : Int)) = false := decide_eq_false c2
    have c2b1 : decide (1048576 < l0.length) = false := decide_eq_false (by omega); clear c2
    replace H := Option.bind_eq_some_iff.mp H
    obtain ⟨⟨t403, t404⟩, A30, H⟩ := H
    replace H : ((impl_ReadSay.f k t403 t404).bind fun bt405 => ((spec_ReadSay.f k t403 t404).bind fun bt410 => (if (!(bt405.1 == bt410.1) || (!(bt405.2.1 == bt410.2.1) || (!(bt405.2.2.1 == bt410.2.2.1)))) = true then (laws_FnReadSay.j0 k t403 t404 bt405.2.2.2 true bt405.1 bt405.2.1 bt405.2.2.1) else (laws_FnReadSay.j0 k t403 t404 bt405.2.2.2 (bt405.2.2.2 != bt410.2.2.2) bt405.1 bt405.2.1 bt405.2.2.1)))) = some r := H
    have A3 := Aside0.mk A30; clear A30
    replace H := Option.bind_eq_some_iff.mp H
    obtain ⟨⟨t405, t406, t407, t408⟩, A40, H⟩ := H
    replace H : ((spec_ReadSay.f k t403 t404).bind fun bt410 => (if (!(t405 == bt410.1) || (!(t406 == bt410.2.1) || (!(t407 == bt410.2.2.1)))) = true then (laws_FnReadSay.j0 k t403 t404 t408 true t405 t406 t407) else (laws_FnReadSay.j0 k t403 t404 t408 (t408 != bt410.2.2.2) t405 t406 t407))) = some r := H
    have A4 := Aside0.mk A40; clear A40
    replace H := Option.bind_eq_some_iff.mp H
    obtain ⟨⟨t410, t411, t412, t413⟩, A50, H⟩ := H
    replace H : (if (!(t405 == t410) || (!(t406 == t411) || (!(t407 == t412)))) = true then (laws_FnReadSay.j0 k t403 t404 t408 true t405 t406 t407) else (laws_FnReadSay.j0 k t403 t404 t408 (t408 != t413) t405 t406 t407)) = some r := H
    have A5 := Aside0.mk A50; clear A50
    have HC6 := Aside0.mk H; clear H
    go_enter Try.func12, Try.ntmps12
    go_upto_region 6 with (first | ((with_reducible refine gate_callee (f := 39) rfl ?_); refine goesL_ (some 16) rfl rfl Try.func39 (by kernel_rfl) rfl #[.slice A0 l0.length c0] rfl (by (try simp only [List.map_toArray, List.map_cons, List.map_nil]); first | done | rfl | (simp only [List.length_drop, List.length_take]; rfl)) ?_; (with_reducible refine (spec_DrawReadSay.calls k _ _ l0 t403 t404 _ ?side1 ?side2 A3.out).mono ?_); (case side1 => repeat (first | exact HR0.out | (with_reducible refine Kd.C_alloc ?_ _) | (with_reducible refine Kd.C_drewN ?_ _) | (with_reducible refine Kd.C_drew ?_))); (case side2 => exact HC0.out); rintro e w7 ⟨rfl, hb⟩; refine ⟨_, rfl, ?_⟩; have n0_ := Aside0.mk (below_step (by repeat (first | (with_reducible first | exact HB.out | apply below_alloc | apply pw_below_drewN | apply below_drew1) | exact HB.out)) hb); clear HB; have HB := n0_; clear n0_; (try clear hb); (try clear hb2); (try clear hk); (try clear hi)) | ((with_reducible refine gate_callee (f := 27) rfl ?_); refine goesL_ (some 22) rfl rfl Try.func27 (by kernel_rfl) rfl #[.int .i64 t403, .string t404] rfl (by (try simp only [List.map_toArray, List.map_cons, List.map_nil]); first | done | rfl | (simp only [List.length_drop, List.length_take]; rfl)) ?_; (with_reducible refine (impl_ReadSay.calls k t403 t404 t405 t406 t407 t408 _ A4.out).mono ?_); rintro e w8 ⟨rfl, hb⟩; refine ⟨_, rfl, ?_⟩; have n0_ := Aside0.mk (below_step (by repeat (first | (with_reducible first | exact HB.out | apply below_alloc | apply pw_below_drewN | apply below_drew1) | exact HB.out)) hb); clear HB; have HB := n0_; clear n0_; (try clear hb); (try clear hb2); (try clear hk); (try clear hi)) | ((with_reducible refine gate_dst (N := 5) rfl ?_); refine box_event ?hg (N := 5) ?hd (cs := #[.int .i64 0, .int .i64 0, .int .i64 0]) (t := 25) ?hr ?_; (case hd => rfl); (case hg => rfl); (case hr => first | (go_simp; done) | (go_simp; rfl)); intro gb409 hg w9 hbox hb; have n0_ := Aside0.mk (below_step (by repeat (first | (with_reducible first | exact HB.out | apply below_alloc | apply pw_below_drewN | apply below_drew1) | exact HB.out)) hb); have n1_ := Aside0.mk (hbox); have n2_ := Aside0.mk ((by rw [hg]; exact (below_size (by repeat (first | (with_reducible first | exact HB.out | apply below_alloc | apply pw_below_drewN | apply below_drew1) | exact HB.out))) : w.heap.size ≤ gb409)); have n3_ := Aside0.mk ((by rw [hg]; exact (below_size (by repeat (first | (with_reducible first | exact HB.out | apply below_alloc | apply pw_below_drewN | apply below_drew1) | exact HB.out))) : w.heap.size ≤ gb409)); clear HB; have HB := n0_; have BK409 := n1_; have GW409 := n2_; have GE409 := n3_; clear n0_ n1_ n2_ n3_ hb hbox hg; have hcz10_0 : w9.cell? ⟨gb409, 0, none⟩ = some (.int .i64 0) := (blk_cell BK409.out 0).trans rfl; have hcz10_1 : w9.cell? ⟨gb409, 1, none⟩ = some (.int .i64 0) := (blk_cell BK409.out 1).trans rfl; have hcz10_2 : w9.cell? ⟨gb409, 2, none⟩ = some (.int .i64 0) := (blk_cell BK409.out 2).trans rfl; have hfz10_0 := blk_frozen BK409.out 0; have hfz10_1 := blk_frozen BK409.out 1; have hfz10_2 := blk_frozen BK409.out 2) | ((with_reducible refine gate_callee (f := 26) rfl ?_); refine goesL_ (some 28) rfl rfl Try.func26 (by kernel_rfl) rfl #[.int .i64 t403, .string t404] rfl (by (try simp only [List.map_toArray, List.map_cons, List.map_nil]); first | done | rfl | (simp only [List.length_drop, List.length_take]; rfl)) ?_; (with_reducible refine (spec_ReadSay.calls k t403 t404 t410 t411 t412 t413 _ A5.out).mono ?_); rintro e w11 ⟨rfl, hb⟩; refine ⟨_, rfl, ?_⟩; have n0_ := Aside0.mk (blk_below (g := gb409) (o := .cells #[.int .i64 t405, .int .i64 t406, .int .i64 t407] 25 (0, 0)) (by (with_reducible repeat (first | refine blk_drewN ?_ _ | refine blk_drew ?_ | refine blk_alloc ?_ _)); refine blk_put (cs := #[.int .i64 t405, .int .i64 t406, .int .i64 0]) ?_ 2 _ rfl; (with_reducible repeat (first | refine blk_drewN ?_ _ | refine blk_drew ?_ | refine blk_alloc ?_ _)); refine blk_put (cs := #[.int .i64 t405, .int .i64 0, .int .i64 0]) ?_ 1 _ rfl; (with_reducible repeat (first | refine blk_drewN ?_ _ | refine blk_drew ?_ | refine blk_alloc ?_ _)); refine blk_put (cs := #[.int .i64 0, .int .i64 0, .int .i64 0]) ?_ 0 _ rfl; (with_reducible repeat (first | refine blk_drewN ?_ _ | refine blk_drew ?_ | refine blk_alloc ?_ _)); exact BK409.out) hb); have n1_ := Aside0.mk (below_step (by repeat (first | (with_reducible first | exact HB.out | apply below_alloc | apply pw_below_drewN | apply below_drew1 | refine below_set ?_ GE409.out) | exact HB.out)) hb); clear BK409 HB; have BK409 := n0_; have HB := n1_; clear n0_ n1_; (try clear hb); (try clear hb2); (try clear hk); (try clear hi)) | ((with_reducible refine gate_dst (N := 7) rfl ?_); refine box_event ?hg (N := 7) ?hd (cs := #[.int .i64 0, .int .i64 0, .int .i64 0]) (t := 25) ?hr ?_; (case hd => rfl); (case hg => rfl); (case hr => first | (go_simp; done) | (go_simp; rfl)); intro gb414 hg w12 hbox hb; have n0_ := Aside0.mk (blk_below (g := gb409) (o := .cells #[.int .i64 t405, .int .i64 t406, .int .i64 t407] 25 (0, 0)) (by (with_reducible repeat (first | refine blk_drewN ?_ _ | refine blk_drew ?_ | refine blk_alloc ?_ _)); exact BK409.out) hb); have n1_ := Aside0.mk (below_step (by repeat (first | (with_reducible first | exact HB.out | apply below_alloc | apply pw_below_drewN | apply below_drew1 | refine below_set ?_ GE409.out) | exact HB.out)) hb); have n2_ := Aside0.mk (hbox); have n3_ := Aside0.mk ((by rw [hg]; exact (below_size (by repeat (first | (with_reducible first | exact HB.out | apply below_alloc | apply pw_below_drewN | apply below_drew1 | refine below_set ?_ GE409.out) | exact HB.out))) : w.heap.size ≤ gb414)); have n4_ := Aside0.mk ((by rw [hg]; exact (below_size (by repeat (first | (with_reducible first | exact HB.out | apply below_alloc | apply pw_below_drewN | apply below_drew1 | refine below_set ?_ GE409.out) | exact HB.out))) : w.heap.size ≤ gb414)); have n5_ := Aside0.mk ((by rw [hg]; exact Nat.ne_of_lt (blk_lt (g := gb409) (o := .cells #[.int .i64 t405, .int .i64 t406, .int .i64 t407] 25 (0, 0)) (by (with_reducible repeat (first | refine blk_drewN ?_ _ | refine blk_drew ?_ | refine blk_alloc ?_ _)); exact BK409.out)) : gb409 ≠ gb414)); have n6_ := Aside0.mk ((by rw [hg]; exact Nat.ne_of_gt (blk_lt (g := gb409) (o := .cells #[.int .i64 t405, .int .i64 t406, .int .i64 t407] 25 (0, 0)) (by (with_reducible repeat (first | refine blk_drewN ?_ _ | refine blk_drew ?_ | refine blk_alloc ?_ _)); exact BK409.out)) : gb414 ≠ gb409)); clear BK409 HB; have BK409 := n0_; have HB := n1_; have BK414 := n2_; have GW414 := n3_; have GE414 := n4_; have NB409_414 := n5_; have NB414_409 := n6_; clear n0_ n1_ n2_ n3_ n4_ n5_ n6_ hb hbox hg; have hnb13 := NB414_409.out; have hnc13 := NB409_414.out; have hcz14_0 : w12.cell? ⟨gb414, 0, none⟩ = some (.int .i64 0) := (blk_cell BK414.out 0).trans rfl; have hcz14_1 : w12.cell? ⟨gb414, 1, none⟩ = some (.int .i64 0) := (blk_cell BK414.out 1).trans rfl; have hcz14_2 : w12.cell? ⟨gb414, 2, none⟩ = some (.int .i64 0) := (blk_cell BK414.out 2).trans rfl; have hfz14_0 := blk_frozen BK414.out 0; have hfz14_1 := blk_frozen BK414.out 1; have hfz14_2 := blk_frozen BK414.out 2))
    (try simp only [Act.put, List.setIfInBounds_toArray, List.set_cons_zero, List.set_cons_succ])
    go_cut [38] (fun v38 wc => ∃ (kq : Nat) (x38_5 : Bool), v38 = .bool x38_5 ∧ Aside0 (laws_FnReadSay.j0 kq t403 t404 t408 x38_5 t405 t406 t407 = some r) ∧ Aside0 (kq ≤ k) ∧ Aside0 (wc.heap[gb409]? = some (.cells #[.int .i64 t405, .int .i64 t406, .int .i64 t407] 25 (0, 0))) ∧ Aside0 (wc.heap[gb414]? = some (.cells #[.int .i64 t410, .int .i64 t411, .int .i64 t412] 25 (0, 0))) ∧ Aside0 (Below w.heap.size w wc))
    case first =>
      have H := HC6.out; clear HC6
      by_cases c15 : (!(t405 == t410) || (!(t406 == t411) || (!(t407 == t412)))) = true
      · rw [if_pos c15] at H
        have c15b0 : (!(t405 == t410) || (!(t406 == t411) || (!(t407 == t412)))) = true := c15; clear c15
        (first | rw [c15b0] | (simp only [i64_w, i32_w]; rw [c15b0]) | skip)
        have H' := Aside0.mk H; clear H; have hnb16 := NB409_414.out; have hnc16 := NB414_409.out
        have hcz17_0 : w12.cell? ⟨gb409, 0, none⟩ = some (.int .i64 t405) := (blk_cell BK409.out 0).trans rfl
        have hcz17_1 : w12.cell? ⟨gb409, 1, none⟩ = some (.int .i64 t406) := (blk_cell BK409.out 1).trans rfl
        have hcz17_2 : w12.cell? ⟨gb409, 2, none⟩ = some (.int .i64 t407) := (blk_cell BK409.out 2).trans rfl
        have hfz17_0 := blk_frozen BK409.out 0
        have hfz17_1 := blk_frozen BK409.out 1
        have hfz17_2 := blk_frozen BK409.out 2
        have hcz18_0 : w12.cell? ⟨gb414, 0, none⟩ = some (.int .i64 0) := (blk_cell BK414.out 0).trans rfl
        have hcz18_1 : w12.cell? ⟨gb414, 1, none⟩ = some (.int .i64 0) := (blk_cell BK414.out 1).trans rfl
        have hcz18_2 : w12.cell? ⟨gb414, 2, none⟩ = some (.int .i64 0) := (blk_cell BK414.out 2).trans rfl
        have hfz18_0 := blk_frozen BK414.out 0
        have hfz18_1 := blk_frozen BK414.out 1
        have hfz18_2 := blk_frozen BK414.out 2
        go_wp2
        go_meet
        case rel => exact ⟨_, (true), (by first | rfl | (simp; done) | (simp [*]; done)), H', ⟨by first | omega | exact Nat.le_refl _⟩, ⟨by (with_reducible repeat (first | refine blk_drewN ?_ _ | refine blk_drew ?_ | refine blk_alloc ?_ _)); refine blk_far ?_ NB409_414.out _; (with_reducible repeat (first | refine blk_drewN ?_ _ | refine blk_drew ?_ | refine blk_alloc ?_ _)); refine blk_far ?_ NB409_414.out _; (with_reducible repeat (first | refine blk_drewN ?_ _ | refine blk_drew ?_ | refine blk_alloc ?_ _)); refine blk_far ?_ NB409_414.out _; (with_reducible repeat (first | refine blk_drewN ?_ _ | refine blk_drew ?_ | refine blk_alloc ?_ _)); exact BK409.out⟩, ⟨by (with_reducible repeat (first | refine blk_drewN ?_ _ | refine blk_drew ?_ | refine blk_alloc ?_ _)); refine blk_put (cs := #[.int .i64 t410, .int .i64 t411, .int .i64 0]) ?_ 2 _ rfl; (with_reducible repeat (first | refine blk_drewN ?_ _ | refine blk_drew ?_ | refine blk_alloc ?_ _)); refine blk_put (cs := #[.int .i64 t410, .int .i64 0, .int .i64 0]) ?_ 1 _ rfl; (with_reducible repeat (first | refine blk_drewN ?_ _ | refine blk_drew ?_ | refine blk_alloc ?_ _)); refine blk_put (cs := #[.int .i64 0, .int .i64 0, .int .i64 0]) ?_ 0 _ rfl; (with_reducible repeat (first | refine blk_drewN ?_ _ | refine blk_drew ?_ | refine blk_alloc ?_ _)); exact BK414.out⟩, ⟨by repeat (first | (with_reducible first | exact HB.out | apply below_alloc | apply pw_below_drewN | apply below_drew1 | refine below_set ?_ GE409.out | refine below_set ?_ GE414.out) | exact HB.out)⟩⟩
      · rw [if_neg c15] at H
        have c15b0 : (!(t405 == t410) || (!(t406 == t411) || (!(t407 == t412)))) = false := by simpa using c15
        clear c15
        (first | rw [c15b0] | (simp only [i64_w, i32_w]; rw [c15b0]) | skip)
        have H' := Aside0.mk H; clear H; have hnb19 := NB409_414.out; have hnc19 := NB414_409.out
        have hcz20_0 : w12.cell? ⟨gb409, 0, none⟩ = some (.int .i64 t405) := (blk_cell BK409.out 0).trans rfl
        have hcz20_1 : w12.cell? ⟨gb409, 1, none⟩ = some (.int .i64 t406) := (blk_cell BK409.out 1).trans rfl
        have hcz20_2 : w12.cell? ⟨gb409, 2, none⟩ = some (.int .i64 t407) := (blk_cell BK409.out 2).trans rfl
        have hfz20_0 := blk_frozen BK409.out 0
        have hfz20_1 := blk_frozen BK409.out 1
        have hfz20_2 := blk_frozen BK409.out 2
        have hcz21_0 : w12.cell? ⟨gb414, 0, none⟩ = some (.int .i64 0) := (blk_cell BK414.out 0).trans rfl
        have hcz21_1 : w12.cell? ⟨gb414, 1, none⟩ = some (.int .i64 0) := (blk_cell BK414.out 1).trans rfl
        have hcz21_2 : w12.cell? ⟨gb414, 2, none⟩ = some (.int .i64 0) := (blk_cell BK414.out 2).trans rfl
        have hfz21_0 := blk_frozen BK414.out 0
        have hfz21_1 := blk_frozen BK414.out 1
        have hfz21_2 := blk_frozen BK414.out 2
        go_wp2
        go_meet
        case rel => exact ⟨_, ((t408 != t413)), (by first | rfl | (simp; done) | (simp [*]; done)), H', ⟨by first | omega | exact Nat.le_refl _⟩, ⟨by (with_reducible repeat (first | refine blk_drewN ?_ _ | refine blk_drew ?_ | refine blk_alloc ?_ _)); refine blk_far ?_ NB409_414.out _; (with_reducible repeat (first | refine blk_drewN ?_ _ | refine blk_drew ?_ | refine blk_alloc ?_ _)); refine blk_far ?_ NB409_414.out _; (with_reducible repeat (first | refine blk_drewN ?_ _ | refine blk_drew ?_ | refine blk_alloc ?_ _)); refine blk_far ?_ NB409_414.out _; (with_reducible repeat (first | refine blk_drewN ?_ _ | refine blk_drew ?_ | refine blk_alloc ?_ _)); exact BK409.out⟩, ⟨by (with_reducible repeat (first | refine blk_drewN ?_ _ | refine blk_drew ?_ | refine blk_alloc ?_ _)); refine blk_put (cs := #[.int .i64 t410, .int .i64 t411, .int .i64 0]) ?_ 2 _ rfl; (with_reducible repeat (first | refine blk_drewN ?_ _ | refine blk_drew ?_ | refine blk_alloc ?_ _)); refine blk_put (cs := #[.int .i64 t410, .int .i64 0, .int .i64 0]) ?_ 1 _ rfl; (with_reducible repeat (first | refine blk_drewN ?_ _ | refine blk_drew ?_ | refine blk_alloc ?_ _)); refine blk_put (cs := #[.int .i64 0, .int .i64 0, .int .i64 0]) ?_ 0 _ rfl; (with_reducible repeat (first | refine blk_drewN ?_ _ | refine blk_drew ?_ | refine blk_alloc ?_ _)); exact BK414.out⟩, ⟨by repeat (first | (with_reducible first | exact HB.out | apply below_alloc | apply pw_below_drewN | apply below_drew1 | refine below_set ?_ GE409.out | refine below_set ?_ GE414.out) | exact HB.out)⟩⟩
    case rest =>
      clear HC6
      try clear c1
      try clear c2
      try clear c2b0
      try clear c2b1
      try clear p2
      try clear c3
      try clear c12
      try clear c13
      try clear c15
      try clear c15b0
      try clear c16
      try clear c19
      try clear hcz10_0
      try clear hcz10_1
      try clear hcz10_2
      try clear hcz14_0
      try clear hcz14_1
      try clear hcz14_2
      try clear hcz17_0
      try clear hcz17_1
      try clear hcz17_2
      try clear hcz18_0
      try clear hcz18_1
      try clear hcz18_2
      try clear hcz20_0
      try clear hcz20_1
      try clear hcz20_2
      try clear hcz21_0
      try clear hcz21_1
      try clear hcz21_2
      try clear hfz10_0
      try clear hfz10_1
      try clear hfz10_2
      try clear hfz14_0
      try clear hfz14_1
      try clear hfz14_2
      try clear hfz17_0
      try clear hfz17_1
      try clear hfz17_2
      try clear hfz18_0
      try clear hfz18_1
      try clear hfz18_2
      try clear hfz20_0
      try clear hfz20_1
      try clear hfz20_2
      try clear hfz21_0
      try clear hfz21_1
      try clear hfz21_2
      obtain ⟨kq, x38_5, rfl, HA, HJ5, BK409, BK414, HB⟩ := hcut
      cases kq with
      | zero => exact absurd HA.out (by simp [laws_FnReadSay.j0])
      | succ kj5 =>
        have H := HA.out; clear HA
        simp only [laws_FnReadSay.j0] at H
        by_cases c22 : x38_5 = true
        · subst c22
          have H1 : (some false) = some r := by rw [if_pos rfl] at H; exact H
          clear H; have H := H1; clear H1
          obtain rfl := Option.some.inj H
          go_wp2
          go_ret
          exact ⟨by first | rfl | (simp [errW_none, errW_some] <;> rfl) | (simp [*, errW_none, errW_some] <;> rfl), by repeat (first | (with_reducible first | exact HB.out | apply below_alloc | apply pw_below_drewN | apply below_drew1 | refine below_set ?_ GE409.out | refine below_set ?_ GE414.out) | exact HB.out)⟩
        · replace c22 := Bool.eq_false_iff.mpr c22; subst c22
          have H1 : (if t408 = true then (if t404.size + 1 ≤ 9223372036854775807 then ((impl_ReadSay.f kj5 t403 (t404 ++ (⟨#[32]⟩ : ByteArray))).bind fun bt415 => ((impl_SayText.f t403 t405 t406 t407).bind fun t420 => (if t420.toList = t404.toList then (some (!bt415.2.2.2)) else (some false)))) else (none)) else (if (t405 == 0 && (t406 == 0 && (t407 == 0))) = true then ((laws_alive.f).bind fun t421 => (some t421)) else (some false))) = some r := by rw [if_neg (show ¬ (false = true) by decide)] at H; exact H
          clear H; have H := H1; clear H1
          by_cases c23 : t408 = true
          · subst c23
            have H1 : (if t404.size + 1 ≤ 9223372036854775807 then ((impl_ReadSay.f kj5 t403 (t404 ++ (⟨#[32]⟩ : ByteArray))).bind fun bt415 => ((impl_SayText.f t403 t405 t406 t407).bind fun t420 => (if t420.toList = t404.toList then (some (!bt415.2.2.2)) else (some false)))) else (none)) = some r := by rw [if_pos rfl] at H; exact H
            clear H; have H := H1; clear H1
            by_cases c24 : t404.size + 1 ≤ 9223372036854775807
            · rw [if_pos c24] at H
              have c24b0 := eq_true c24
              have c24b1 : decide (t404.size + 1 ≤ 9223372036854775807) = true := decide_eq_true c24
              try have c24b2 : (9223372036854775807 < t404.size + 1) = False := eq_false (Nat.not_lt.2 c24)
              have zl0 : (⟨#[32]⟩ : ByteArray).size = 1 := rfl; have c24n := c24
              (try simp only [ByteArray.size_append, zl0, Nat.reduceAdd] at c24n)
              (try have c24n0 := eq_true c24n)
              (try have c24n1 := decide_eq_true c24n)
              (try have c24n2 := eq_false (Nat.not_lt.2 c24n)); clear zl0
              replace H := Option.bind_eq_some_iff.mp H
              obtain ⟨⟨t415, t416, t417, t418⟩, A250, H⟩ := H
              replace H : ((impl_SayText.f t403 t405 t406 t407).bind fun t420 => (if t420.toList = t404.toList then (some (!t418)) else (some false))) = some r := H
              have A25 := Aside0.mk A250; clear A250
              replace H := Option.bind_eq_some_iff.mp H
              obtain ⟨t420, A260, H⟩ := H
              replace H : (if t420.toList = t404.toList then (some (!t418)) else (some false)) = some r := H
              have A26 := Aside0.mk A260; clear A260
              by_cases c27 : t420.toList = t404.toList
              · rw [if_pos c27] at H
                have c27b0 : (t420.toList == t404.toList) = true := beq_iff_eq.mpr c27
                have c27b1 : (t420.toList != t404.toList) = false := bne_eq_false_iff_eq.mpr c27; clear c27
                obtain rfl := Option.some.inj H
                go_wp2_with (first | ((with_reducible refine gate_callee (f := 27) rfl ?_); refine goesL_ (some 51) rfl rfl Try.func27 (by kernel_rfl) rfl #[.int .i64 t403, .string (t404 ++ (⟨#[32]⟩ : ByteArray))] rfl (by (try simp only [List.map_toArray, List.map_cons, List.map_nil]); first | done | rfl | (simp only [List.length_drop, List.length_take]; rfl)) ?_; (with_reducible refine (impl_ReadSay.calls kj5 t403 (t404 ++ (⟨#[32]⟩ : ByteArray)) t415 t416 t417 t418 _ A25.out).mono ?_); rintro e w28 ⟨rfl, hb⟩; refine ⟨_, rfl, ?_⟩; have n0_ := Aside0.mk (blk_below (g := gb409) (o := .cells #[.int .i64 t405, .int .i64 t406, .int .i64 t407] 25 (0, 0)) (by (with_reducible repeat (first | refine blk_drewN ?_ _ | refine blk_drew ?_ | refine blk_alloc ?_ _)); exact BK409.out) hb); have n1_ := Aside0.mk (blk_below (g := gb414) (o := .cells #[.int .i64 t410, .int .i64 t411, .int .i64 t412] 25 (0, 0)) (by (with_reducible repeat (first | refine blk_drewN ?_ _ | refine blk_drew ?_ | refine blk_alloc ?_ _)); exact BK414.out) hb); have n2_ := Aside0.mk (below_step (by repeat (first | (with_reducible first | exact HB.out | apply below_alloc | apply pw_below_drewN | apply below_drew1 | refine below_set ?_ GE409.out | refine below_set ?_ GE414.out) | exact HB.out)) hb); clear BK409 BK414 HB; have BK409 := n0_; have BK414 := n1_; have HB := n2_; clear n0_ n1_ n2_; (try clear hb); (try clear hb2); (try clear hk); (try clear hi)) | ((with_reducible refine gate_dst (N := 9) rfl ?_); refine box_event ?hg (N := 9) ?hd (cs := #[.int .i64 0, .int .i64 0, .int .i64 0]) (t := 25) ?hr ?_; (case hd => rfl); (case hg => rfl); (case hr => first | (go_simp; done) | (go_simp; rfl)); intro gb419 hg w29 hbox hb; have n0_ := Aside0.mk (blk_below (g := gb409) (o := .cells #[.int .i64 t405, .int .i64 t406, .int .i64 t407] 25 (0, 0)) (by (with_reducible repeat (first | refine blk_drewN ?_ _ | refine blk_drew ?_ | refine blk_alloc ?_ _)); exact BK409.out) hb); have n1_ := Aside0.mk (blk_below (g := gb414) (o := .cells #[.int .i64 t410, .int .i64 t411, .int .i64 t412] 25 (0, 0)) (by (with_reducible repeat (first | refine blk_drewN ?_ _ | refine blk_drew ?_ | refine blk_alloc ?_ _)); exact BK414.out) hb); have n2_ := Aside0.mk (below_step (by repeat (first | (with_reducible first | exact HB.out | apply below_alloc | apply pw_below_drewN | apply below_drew1 | refine below_set ?_ GE409.out | refine below_set ?_ GE414.out) | exact HB.out)) hb); have n3_ := Aside0.mk (hbox); have n4_ := Aside0.mk ((by rw [hg]; exact (below_size (by repeat (first | (with_reducible first | exact HB.out | apply below_alloc | apply pw_below_drewN | apply below_drew1 | refine below_set ?_ GE409.out | refine below_set ?_ GE414.out) | exact HB.out))) : w.heap.size ≤ gb419)); have n5_ := Aside0.mk ((by rw [hg]; exact (below_size (by repeat (first | (with_reducible first | exact HB.out | apply below_alloc | apply pw_below_drewN | apply below_drew1 | refine below_set ?_ GE409.out | refine below_set ?_ GE414.out) | exact HB.out))) : w.heap.size ≤ gb419)); have n6_ := Aside0.mk ((by rw [hg]; exact Nat.ne_of_lt (blk_lt (g := gb409) (o := .cells #[.int .i64 t405, .int .i64 t406, .int .i64 t407] 25 (0, 0)) (by (with_reducible repeat (first | refine blk_drewN ?_ _ | refine blk_drew ?_ | refine blk_alloc ?_ _)); exact BK409.out)) : gb409 ≠ gb419)); have n7_ := Aside0.mk ((by rw [hg]; exact Nat.ne_of_gt (blk_lt (g := gb409) (o := .cells #[.int .i64 t405, .int .i64 t406, .int .i64 t407] 25 (0, 0)) (by (with_reducible repeat (first | refine blk_drewN ?_ _ | refine blk_drew ?_ | refine blk_alloc ?_ _)); exact BK409.out)) : gb419 ≠ gb409)); have n8_ := Aside0.mk ((by rw [hg]; exact Nat.ne_of_lt (blk_lt (g := gb414) (o := .cells #[.int .i64 t410, .int .i64 t411, .int .i64 t412] 25 (0, 0)) (by (with_reducible repeat (first | refine blk_drewN ?_ _ | refine blk_drew ?_ | refine blk_alloc ?_ _)); exact BK414.out)) : gb414 ≠ gb419)); have n9_ := Aside0.mk ((by rw [hg]; exact Nat.ne_of_gt (blk_lt (g := gb414) (o := .cells #[.int .i64 t410, .int .i64 t411, .int .i64 t412] 25 (0, 0)) (by (with_reducible repeat (first | refine blk_drewN ?_ _ | refine blk_drew ?_ | refine blk_alloc ?_ _)); exact BK414.out)) : gb419 ≠ gb414)); clear BK409 BK414 HB; have BK409 := n0_; have BK414 := n1_; have HB := n2_; have BK419 := n3_; have GW419 := n4_; have GE419 := n5_; have NB409_419 := n6_; have NB419_409 := n7_; have NB414_419 := n8_; have NB419_414 := n9_; clear n0_ n1_ n2_ n3_ n4_ n5_ n6_ n7_ n8_ n9_ hb hbox hg; have hnb30 := NB419_409.out; have hnc30 := NB409_419.out; have hnb31 := NB419_414.out; have hnc31 := NB414_419.out; have hcz32_0 : w29.cell? ⟨gb419, 0, none⟩ = some (.int .i64 0) := (blk_cell BK419.out 0).trans rfl; have hcz32_1 : w29.cell? ⟨gb419, 1, none⟩ = some (.int .i64 0) := (blk_cell BK419.out 1).trans rfl; have hcz32_2 : w29.cell? ⟨gb419, 2, none⟩ = some (.int .i64 0) := (blk_cell BK419.out 2).trans rfl; have hfz32_0 := blk_frozen BK419.out 0; have hfz32_1 := blk_frozen BK419.out 1; have hfz32_2 := blk_frozen BK419.out 2; have hnb33 := NB409_414.out; have hnc33 := NB414_409.out; have hcz34_0 : w29.cell? ⟨gb409, 0, none⟩ = some (.int .i64 t405) := (blk_cell BK409.out 0).trans rfl; have hcz34_1 : w29.cell? ⟨gb409, 1, none⟩ = some (.int .i64 t406) := (blk_cell BK409.out 1).trans rfl; have hcz34_2 : w29.cell? ⟨gb409, 2, none⟩ = some (.int .i64 t407) := (blk_cell BK409.out 2).trans rfl; have hfz34_0 := blk_frozen BK409.out 0; have hfz34_1 := blk_frozen BK409.out 1; have hfz34_2 := blk_frozen BK409.out 2) | ((with_reducible refine gate_callee (f := 23) rfl ?_); refine goesL_ (some 56) rfl rfl Try.func23 (by kernel_rfl) rfl #[.int .i64 t403, .agg #[.int .i64 t405, .int .i64 t406, .int .i64 t407]] rfl (by (try simp only [List.map_toArray, List.map_cons, List.map_nil]); first | done | rfl | (simp only [List.length_drop, List.length_take]; rfl)) ?_; (with_reducible refine (impl_SayText.calls t403 t405 t406 t407 t420 _ A26.out).mono ?_); rintro e w35 ⟨rfl, hb⟩; refine ⟨_, rfl, ?_⟩; have n0_ := Aside0.mk (blk_below (g := gb409) (o := .cells #[.int .i64 t405, .int .i64 t406, .int .i64 t407] 25 (0, 0)) (by (with_reducible repeat (first | refine blk_drewN ?_ _ | refine blk_drew ?_ | refine blk_alloc ?_ _)); refine blk_far ?_ NB409_419.out _; (with_reducible repeat (first | refine blk_drewN ?_ _ | refine blk_drew ?_ | refine blk_alloc ?_ _)); refine blk_far ?_ NB409_419.out _; (with_reducible repeat (first | refine blk_drewN ?_ _ | refine blk_drew ?_ | refine blk_alloc ?_ _)); refine blk_far ?_ NB409_419.out _; (with_reducible repeat (first | refine blk_drewN ?_ _ | refine blk_drew ?_ | refine blk_alloc ?_ _)); exact BK409.out) hb); have n1_ := Aside0.mk (blk_below (g := gb414) (o := .cells #[.int .i64 t410, .int .i64 t411, .int .i64 t412] 25 (0, 0)) (by (with_reducible repeat (first | refine blk_drewN ?_ _ | refine blk_drew ?_ | refine blk_alloc ?_ _)); refine blk_far ?_ NB414_419.out _; (with_reducible repeat (first | refine blk_drewN ?_ _ | refine blk_drew ?_ | refine blk_alloc ?_ _)); refine blk_far ?_ NB414_419.out _; (with_reducible repeat (first | refine blk_drewN ?_ _ | refine blk_drew ?_ | refine blk_alloc ?_ _)); refine blk_far ?_ NB414_419.out _; (with_reducible repeat (first | refine blk_drewN ?_ _ | refine blk_drew ?_ | refine blk_alloc ?_ _)); exact BK414.out) hb); have n2_ := Aside0.mk (blk_below (g := gb419) (o := .cells #[.int .i64 t415, .int .i64 t416, .int .i64 t417] 25 (0, 0)) (by (with_reducible repeat (first | refine blk_drewN ?_ _ | refine blk_drew ?_ | refine blk_alloc ?_ _)); refine blk_put (cs := #[.int .i64 t415, .int .i64 t416, .int .i64 0]) ?_ 2 _ rfl; (with_reducible repeat (first | refine blk_drewN ?_ _ | refine blk_drew ?_ | refine blk_alloc ?_ _)); refine blk_put (cs := #[.int .i64 t415, .int .i64 0, .int .i64 0]) ?_ 1 _ rfl; (with_reducible repeat (first | refine blk_drewN ?_ _ | refine blk_drew ?_ | refine blk_alloc ?_ _)); refine blk_put (cs := #[.int .i64 0, .int .i64 0, .int .i64 0]) ?_ 0 _ rfl; (with_reducible repeat (first | refine blk_drewN ?_ _ | refine blk_drew ?_ | refine blk_alloc ?_ _)); exact BK419.out) hb); have n3_ := Aside0.mk (below_step (by repeat (first | (with_reducible first | exact HB.out | apply below_alloc | apply pw_below_drewN | apply below_drew1 | refine below_set ?_ GE409.out | refine below_set ?_ GE414.out | refine below_set ?_ GE419.out) | exact HB.out)) hb); clear BK409 BK414 BK419 HB; have BK409 := n0_; have BK414 := n1_; have BK419 := n2_; have HB := n3_; clear n0_ n1_ n2_ n3_; (try clear hb); (try clear hb2); (try clear hk); (try clear hi)))
                go_ret
                exact ⟨by first | rfl | (simp [errW_none, errW_some] <;> rfl) | (simp [*, errW_none, errW_some] <;> rfl), by repeat (first | (with_reducible first | exact HB.out | apply below_alloc | apply pw_below_drewN | apply below_drew1 | refine below_set ?_ GE409.out | refine below_set ?_ GE414.out | refine below_set ?_ GE419.out) | exact HB.out)⟩
              · rw [if_neg c27] at H
                have c27b0 : (t420.toList == t404.toList) = false := beq_eq_false_iff_ne.mpr c27
                have c27b1 : (t420.toList != t404.toList) = true := bne_iff_ne.mpr c27
                obtain rfl := Option.some.inj H
                go_wp2_with (first | ((with_reducible refine gate_callee (f := 27) rfl ?_); refine goesL_ (some 51) rfl rfl Try.func27 (by kernel_rfl) rfl #[.int .i64 t403, .string (t404 ++ (⟨#[32]⟩ : ByteArray))] rfl (by (try simp only [List.map_toArray, List.map_cons, List.map_nil]); first | done | rfl | (simp only [List.length_drop, List.length_take]; rfl)) ?_; (with_reducible refine (impl_ReadSay.calls kj5 t403 (t404 ++ (⟨#[32]⟩ : ByteArray)) t415 t416 t417 t418 _ A25.out).mono ?_); rintro e w36 ⟨rfl, hb⟩; refine ⟨_, rfl, ?_⟩; have n0_ := Aside0.mk (blk_below (g := gb409) (o := .cells #[.int .i64 t405, .int .i64 t406, .int .i64 t407] 25 (0, 0)) (by (with_reducible repeat (first | refine blk_drewN ?_ _ | refine blk_drew ?_ | refine blk_alloc ?_ _)); exact BK409.out) hb); have n1_ := Aside0.mk (blk_below (g := gb414) (o := .cells #[.int .i64 t410, .int .i64 t411, .int .i64 t412] 25 (0, 0)) (by (with_reducible repeat (first | refine blk_drewN ?_ _ | refine blk_drew ?_ | refine blk_alloc ?_ _)); exact BK414.out) hb); have n2_ := Aside0.mk (below_step (by repeat (first | (with_reducible first | exact HB.out | apply below_alloc | apply pw_below_drewN | apply below_drew1 | refine below_set ?_ GE409.out | refine below_set ?_ GE414.out) | exact HB.out)) hb); clear BK409 BK414 HB; have BK409 := n0_; have BK414 := n1_; have HB := n2_; clear n0_ n1_ n2_; (try clear hb); (try clear hb2); (try clear hk); (try clear hi)) | ((with_reducible refine gate_dst (N := 9) rfl ?_); refine box_event ?hg (N := 9) ?hd (cs := #[.int .i64 0, .int .i64 0, .int .i64 0]) (t := 25) ?hr ?_; (case hd => rfl); (case hg => rfl); (case hr => first | (go_simp; done) | (go_simp; rfl)); intro gb419 hg w37 hbox hb; have n0_ := Aside0.mk (blk_below (g := gb409) (o := .cells #[.int .i64 t405, .int .i64 t406, .int .i64 t407] 25 (0, 0)) (by (with_reducible repeat (first | refine blk_drewN ?_ _ | refine blk_drew ?_ | refine blk_alloc ?_ _)); exact BK409.out) hb); have n1_ := Aside0.mk (blk_below (g := gb414) (o := .cells #[.int .i64 t410, .int .i64 t411, .int .i64 t412] 25 (0, 0)) (by (with_reducible repeat (first | refine blk_drewN ?_ _ | refine blk_drew ?_ | refine blk_alloc ?_ _)); exact BK414.out) hb); have n2_ := Aside0.mk (below_step (by repeat (first | (with_reducible first | exact HB.out | apply below_alloc | apply pw_below_drewN | apply below_drew1 | refine below_set ?_ GE409.out | refine below_set ?_ GE414.out) | exact HB.out)) hb); have n3_ := Aside0.mk (hbox); have n4_ := Aside0.mk ((by rw [hg]; exact (below_size (by repeat (first | (with_reducible first | exact HB.out | apply below_alloc | apply pw_below_drewN | apply below_drew1 | refine below_set ?_ GE409.out | refine below_set ?_ GE414.out) | exact HB.out))) : w.heap.size ≤ gb419)); have n5_ := Aside0.mk ((by rw [hg]; exact (below_size (by repeat (first | (with_reducible first | exact HB.out | apply below_alloc | apply pw_below_drewN | apply below_drew1 | refine below_set ?_ GE409.out | refine below_set ?_ GE414.out) | exact HB.out))) : w.heap.size ≤ gb419)); have n6_ := Aside0.mk ((by rw [hg]; exact Nat.ne_of_lt (blk_lt (g := gb409) (o := .cells #[.int .i64 t405, .int .i64 t406, .int .i64 t407] 25 (0, 0)) (by (with_reducible repeat (first | refine blk_drewN ?_ _ | refine blk_drew ?_ | refine blk_alloc ?_ _)); exact BK409.out)) : gb409 ≠ gb419)); have n7_ := Aside0.mk ((by rw [hg]; exact Nat.ne_of_gt (blk_lt (g := gb409) (o := .cells #[.int .i64 t405, .int .i64 t406, .int .i64 t407] 25 (0, 0)) (by (with_reducible repeat (first | refine blk_drewN ?_ _ | refine blk_drew ?_ | refine blk_alloc ?_ _)); exact BK409.out)) : gb419 ≠ gb409)); have n8_ := Aside0.mk ((by rw [hg]; exact Nat.ne_of_lt (blk_lt (g := gb414) (o := .cells #[.int .i64 t410, .int .i64 t411, .int .i64 t412] 25 (0, 0)) (by (with_reducible repeat (first | refine blk_drewN ?_ _ | refine blk_drew ?_ | refine blk_alloc ?_ _)); exact BK414.out)) : gb414 ≠ gb419)); have n9_ := Aside0.mk ((by rw [hg]; exact Nat.ne_of_gt (blk_lt (g := gb414) (o := .cells #[.int .i64 t410, .int .i64 t411, .int .i64 t412] 25 (0, 0)) (by (with_reducible repeat (first | refine blk_drewN ?_ _ | refine blk_drew ?_ | refine blk_alloc ?_ _)); exact BK414.out)) : gb419 ≠ gb414)); clear BK409 BK414 HB; have BK409 := n0_; have BK414 := n1_; have HB := n2_; have BK419 := n3_; have GW419 := n4_; have GE419 := n5_; have NB409_419 := n6_; have NB419_409 := n7_; have NB414_419 := n8_; have NB419_414 := n9_; clear n0_ n1_ n2_ n3_ n4_ n5_ n6_ n7_ n8_ n9_ hb hbox hg; have hnb38 := NB419_409.out; have hnc38 := NB409_419.out; have hnb39 := NB419_414.out; have hnc39 := NB414_419.out; have hcz40_0 : w37.cell? ⟨gb419, 0, none⟩ = some (.int .i64 0) := (blk_cell BK419.out 0).trans rfl; have hcz40_1 : w37.cell? ⟨gb419, 1, none⟩ = some (.int .i64 0) := (blk_cell BK419.out 1).trans rfl; have hcz40_2 : w37.cell? ⟨gb419, 2, none⟩ = some (.int .i64 0) := (blk_cell BK419.out 2).trans rfl; have hfz40_0 := blk_frozen BK419.out 0; have hfz40_1 := blk_frozen BK419.out 1; have hfz40_2 := blk_frozen BK419.out 2; have hnb41 := NB409_414.out; have hnc41 := NB414_409.out; have hcz42_0 : w37.cell? ⟨gb409, 0, none⟩ = some (.int .i64 t405) := (blk_cell BK409.out 0).trans rfl; have hcz42_1 : w37.cell? ⟨gb409, 1, none⟩ = some (.int .i64 t406) := (blk_cell BK409.out 1).trans rfl; have hcz42_2 : w37.cell? ⟨gb409, 2, none⟩ = some (.int .i64 t407) := (blk_cell BK409.out 2).trans rfl; have hfz42_0 := blk_frozen BK409.out 0; have hfz42_1 := blk_frozen BK409.out 1; have hfz42_2 := blk_frozen BK409.out 2) | ((with_reducible refine gate_callee (f := 23) rfl ?_); refine goesL_ (some 56) rfl rfl Try.func23 (by kernel_rfl) rfl #[.int .i64 t403, .agg #[.int .i64 t405, .int .i64 t406, .int .i64 t407]] rfl (by (try simp only [List.map_toArray, List.map_cons, List.map_nil]); first | done | rfl | (simp only [List.length_drop, List.length_take]; rfl)) ?_; (with_reducible refine (impl_SayText.calls t403 t405 t406 t407 t420 _ A26.out).mono ?_); rintro e w43 ⟨rfl, hb⟩; refine ⟨_, rfl, ?_⟩; have n0_ := Aside0.mk (blk_below (g := gb409) (o := .cells #[.int .i64 t405, .int .i64 t406, .int .i64 t407] 25 (0, 0)) (by (with_reducible repeat (first | refine blk_drewN ?_ _ | refine blk_drew ?_ | refine blk_alloc ?_ _)); refine blk_far ?_ NB409_419.out _; (with_reducible repeat (first | refine blk_drewN ?_ _ | refine blk_drew ?_ | refine blk_alloc ?_ _)); refine blk_far ?_ NB409_419.out _; (with_reducible repeat (first | refine blk_drewN ?_ _ | refine blk_drew ?_ | refine blk_alloc ?_ _)); refine blk_far ?_ NB409_419.out _; (with_reducible repeat (first | refine blk_drewN ?_ _ | refine blk_drew ?_ | refine blk_alloc ?_ _)); exact BK409.out) hb); have n1_ := Aside0.mk (blk_below (g := gb414) (o := .cells #[.int .i64 t410, .int .i64 t411, .int .i64 t412] 25 (0, 0)) (by (with_reducible repeat (first | refine blk_drewN ?_ _ | refine blk_drew ?_ | refine blk_alloc ?_ _)); refine blk_far ?_ NB414_419.out _; (with_reducible repeat (first | refine blk_drewN ?_ _ | refine blk_drew ?_ | refine blk_alloc ?_ _)); refine blk_far ?_ NB414_419.out _; (with_reducible repeat (first | refine blk_drewN ?_ _ | refine blk_drew ?_ | refine blk_alloc ?_ _)); refine blk_far ?_ NB414_419.out _; (with_reducible repeat (first | refine blk_drewN ?_ _ | refine blk_drew ?_ | refine blk_alloc ?_ _)); exact BK414.out) hb); have n2_ := Aside0.mk (blk_below (g := gb419) (o := .cells #[.int .i64 t415, .int .i64 t416, .int .i64 t417] 25 (0, 0)) (by (with_reducible repeat (first | refine blk_drewN ?_ _ | refine blk_drew ?_ | refine blk_alloc ?_ _)); refine blk_put (cs := #[.int .i64 t415, .int .i64 t416, .int .i64 0]) ?_ 2 _ rfl; (with_reducible repeat (first | refine blk_drewN ?_ _ | refine blk_drew ?_ | refine blk_alloc ?_ _)); refine blk_put (cs := #[.int .i64 t415, .int .i64 0, .int .i64 0]) ?_ 1 _ rfl; (with_reducible repeat (first | refine blk_drewN ?_ _ | refine blk_drew ?_ | refine blk_alloc ?_ _)); refine blk_put (cs := #[.int .i64 0, .int .i64 0, .int .i64 0]) ?_ 0 _ rfl; (with_reducible repeat (first | refine blk_drewN ?_ _ | refine blk_drew ?_ | refine blk_alloc ?_ _)); exact BK419.out) hb); have n3_ := Aside0.mk (below_step (by repeat (first | (with_reducible first | exact HB.out | apply below_alloc | apply pw_below_drewN | apply below_drew1 | refine below_set ?_ GE409.out | refine below_set ?_ GE414.out | refine below_set ?_ GE419.out) | exact HB.out)) hb); clear BK409 BK414 BK419 HB; have BK409 := n0_; have BK414 := n1_; have BK419 := n2_; have HB := n3_; clear n0_ n1_ n2_ n3_; (try clear hb); (try clear hb2); (try clear hk); (try clear hi)))
                go_ret
                exact ⟨by first | rfl | (simp [errW_none, errW_some] <;> rfl) | (simp [*, errW_none, errW_some] <;> rfl), by repeat (first | (with_reducible first | exact HB.out | apply below_alloc | apply pw_below_drewN | apply below_drew1 | refine below_set ?_ GE409.out | refine below_set ?_ GE414.out | refine below_set ?_ GE419.out) | exact HB.out)⟩
            · rw [if_neg c24] at H
              exact absurd H (by simp)
          · replace c23 := Bool.eq_false_iff.mpr c23; subst c23
            have H1 : (if (t405 == 0 && (t406 == 0 && (t407 == 0))) = true then ((laws_alive.f).bind fun t421 => (some t421)) else (some false)) = some r := by rw [if_neg (show ¬ (false = true) by decide)] at H; exact H
            clear H; have H := H1; clear H1
            by_cases c44 : (t405 == 0 && (t406 == 0 && (t407 == 0))) = true
            · rw [if_pos c44] at H
              have c44b0 : (t405 == 0 && (t406 == 0 && (t407 == 0))) = true := c44
              (try (have c44b1 : decide (t405 = 0 && (t406 == 0 && (t407 == 0))) = true := by simpa using c44))
              (try (have c44b2 : (t405 == 0 && (t406 == 0 && (t407 == 0))) = true := by simpa using c44)); clear c44
              replace H := Option.bind_eq_some_iff.mp H
              obtain ⟨t421, A450, H⟩ := H
              replace H : (some t421) = some r := H
              have A45 := Aside0.mk A450; clear A450
              obtain rfl := Option.some.inj H; have hnb46 := NB409_414.out; have hnc46 := NB414_409.out
              have hcz47_0 : wc.cell? ⟨gb409, 0, none⟩ = some (.int .i64 t405) := (blk_cell BK409.out 0).trans rfl
              have hcz47_1 : wc.cell? ⟨gb409, 1, none⟩ = some (.int .i64 t406) := (blk_cell BK409.out 1).trans rfl
              have hcz47_2 : wc.cell? ⟨gb409, 2, none⟩ = some (.int .i64 t407) := (blk_cell BK409.out 2).trans rfl
              have hfz47_0 := blk_frozen BK409.out 0
              have hfz47_1 := blk_frozen BK409.out 1
              have hfz47_2 := blk_frozen BK409.out 2
              go_wp2_with (first | (go_at_call 30; (with_reducible refine (laws_alive.calls  t421 _ A45.out).mono ?_); rintro e w' ⟨rfl, ⟨nd, rfl⟩⟩))
              go_ret
              exact ⟨by first | rfl | (simp [errW_none, errW_some] <;> rfl) | (simp [*, errW_none, errW_some] <;> rfl), by repeat (first | (with_reducible first | exact HB.out | apply below_alloc | apply pw_below_drewN | apply below_drew1 | refine below_set ?_ GE409.out | refine below_set ?_ GE414.out) | exact HB.out)⟩
            · rw [if_neg c44] at H
              have c44b0 : (t405 == 0 && (t406 == 0 && (t407 == 0))) = false := by simpa using c44
              (try (have c44b1 : decide (t405 = 0 && (t406 == 0 && (t407 == 0))) = false := by simpa using c44))
              (try (have c44b2 : (t405 == 0 && (t406 == 0 && (t407 == 0))) = false := by simpa using c44))
              (try (have c44b3 : ¬ (t405 = 0 && (t406 == 0 && (t407 == 0))) := by simpa using c44)); clear c44
              obtain rfl := Option.some.inj H; have hnb48 := NB409_414.out; have hnc48 := NB414_409.out
              have hcz49_0 : wc.cell? ⟨gb409, 0, none⟩ = some (.int .i64 t405) := (blk_cell BK409.out 0).trans rfl
              have hcz49_1 : wc.cell? ⟨gb409, 1, none⟩ = some (.int .i64 t406) := (blk_cell BK409.out 1).trans rfl
              have hcz49_2 : wc.cell? ⟨gb409, 2, none⟩ = some (.int .i64 t407) := (blk_cell BK409.out 2).trans rfl
              have hfz49_0 := blk_frozen BK409.out 0
              have hfz49_1 := blk_frozen BK409.out 1
              have hfz49_2 := blk_frozen BK409.out 2
              go_wp2
              go_ret
              exact ⟨by first | rfl | (simp [errW_none, errW_some] <;> rfl) | (simp [*, errW_none, errW_some] <;> rfl), by repeat (first | (with_reducible first | exact HB.out | apply below_alloc | apply pw_below_drewN | apply below_drew1 | refine below_set ?_ GE409.out | refine below_set ?_ GE414.out) | exact HB.out)⟩

/-- THE ONE PURE STATEMENT of laws_FnReadSay: yours. -/
def laws_FnReadSay.Pure : Prop := ∀ (l0 : List Int), l0.length ≤ maxLen → l0.length * 1 ≤ 140737488351232 → (∀ x ∈ l0, (Lit.int .u8 x).wf = true) → ∃ k, laws_FnReadSay.f k l0 = some true
theorem laws_FnReadSay.walk (P : laws_FnReadSay.Pure) (a0 : Option Addr) (len0 cap0 : Nat) (z0 : List Int) (w : World) (w0 : (a0 = none ∧ len0 = 0 ∧ cap0 = 0 ∧ z0 = []) ∨ ∃ x, a0 = some x ∧ len0 ≤ cap0 ∧ cap0 ≤ maxLen ∧ z0.length = cap0 ∧ (∀ i, i < z0.length → w.cell? (x.add i) = some (.int .u8 (z0.getD i 0))) ∧ ∀ n ∈ z0, (Lit.int .u8 n).wf = true) (y0 : len0 * 1 ≤ 140737488351232) :
    Calls Try.prog 12 #[.slice a0 len0 cap0] w fun e w' => e = .returned (.bool true) ∧ Below w.heap.size w w' := by
  obtain ⟨l0, rfl, hr0, hm0, hw0, hc0⟩ := ReadsInt.ofRowC w0
  obtain ⟨k, h⟩ := P l0 hm0 y0 hw0
  refine (laws_FnReadSay.calls k _ _ l0 true w (Kd.C_of_reads (d := (0 : Int)) (h1 := fun _ => rfl) hr0) hc0 h).mono ?_
  rintro e w' ⟨rfl, hd⟩
  exact ⟨rfl, hd⟩

end Go.Proofs.Ytainbbpmaengjaa.PA
