/- The machine side of functions of this seat, written by the session's program myprint.py: for each Go function a Lean function and the proof that the call answers just it. -/
import Derived.Test.YthnmllkhlinnaaaPAx0
import Derived.Test.YthnmllkhlinnaaaPAx22
namespace Go.Proofs.Ythnmllkhlinnaaa.PA
open Go.RowKit Go.Proofs.YthnmllkhlinnaaaW.PrintWords Go.Proofs.YthnmllkhlinnaaaW.PrintLast Go.Proofs.YthnmllkhlinnaaaW.PrintMore
attribute [local go_sem] max2_int min2_int max_two min_two max_three min_three max_four min_four   -- for this text's walks alone
set_option linter.unusedVariables false
set_option linter.unusedSimpArgs false

/-! ### spec_l5So: function 36 -/
mutual
def spec_l5So.l0 : Nat → Int → Int → Int → Int → Int → Int → Option (Bool)
  | 0, _, _, _, _, _, _ => none
  | k + 1, x0, x1, x7, x308000, x308001, x308002 => if 0 ≤ x0 then (if x7 < (shl .i64 1 x0) then (if 0 ≤ x7 then (if (Int.tmod (shr .i64 x1 x7) 2) = 0 then (spec_l5So.j1 k x0 x1 x7 true x308000 x308001 x308002) else ((spec_l5Is.f x7 x308001).bind fun t308 => (spec_l5So.j1 k x0 x1 x7 (!t308) x308000 x308001 x308002))) else (none)) else (some (x308000 == 0))) else (none)
def spec_l5So.j1 : Nat → Int → Int → Int → Bool → Int → Int → Int → Option (Bool)
  | 0, _, _, _, _, _, _, _ => none
  | k + 1, x0, x1, x7, x25, x308000, x308001, x308002 => if x25 = true then (spec_l5So.l0 k x0 x1 (wrap64 (x7 + 1)) x308000 x308001 x308002) else (if x308000 = 0 then ((spec_l5Is.f x7 x308002).bind fun t309 => (spec_l5So.j2 k x0 x1 x7 (!t309) x308000 x308001 x308002)) else (spec_l5So.j2 k x0 x1 x7 false x308000 x308001 x308002))
def spec_l5So.j2 : Nat → Int → Int → Int → Bool → Int → Int → Int → Option (Bool)
  | 0, _, _, _, _, _, _, _ => none
  | k + 1, x0, x1, x7, x35, x308000, x308001, x308002 => if x35 = true then (some false) else (if x308000 = 1 then ((spec_l5Is.f x7 x308002).bind fun t310 => (if t310 = true then (some true) else (spec_l5So.l0 k x0 x1 (wrap64 (x7 + 1)) x308000 x308001 x308002))) else (spec_l5So.l0 k x0 x1 (wrap64 (x7 + 1)) x308000 x308001 x308002))
end
def spec_l5So.f (k : Nat) (a0 : Int) (a1 : Int) (a2_0 : Int) (a2_1 : Int) (a2_2 : Int) : Option (Bool) := spec_l5So.l0 k a0 a1 0 a2_0 a2_1 a2_2
theorem spec_l5So.mono_l : ∀ k, (∀ y0 y1 y2 y3 y4 y5, LeO (spec_l5So.l0 k y0 y1 y2 y3 y4 y5) (spec_l5So.l0 (k + 1) y0 y1 y2 y3 y4 y5)) ∧ (∀ y0 y1 y2 y3 y4 y5 y6, LeO (spec_l5So.j1 k y0 y1 y2 y3 y4 y5 y6) (spec_l5So.j1 (k + 1) y0 y1 y2 y3 y4 y5 y6)) ∧ (∀ y0 y1 y2 y3 y4 y5 y6, LeO (spec_l5So.j2 k y0 y1 y2 y3 y4 y5 y6) (spec_l5So.j2 (k + 1) y0 y1 y2 y3 y4 y5 y6))
  | 0 => ⟨fun _ _ _ _ _ _ r h => by simp [spec_l5So.l0] at h, fun _ _ _ _ _ _ _ r h => by simp [spec_l5So.j1] at h, fun _ _ _ _ _ _ _ r h => by simp [spec_l5So.j2] at h⟩
  | k + 1 => by
    obtain ⟨ih0, ih1, ih2⟩ := spec_l5So.mono_l k
    refine ⟨?_, ?_, ?_⟩
    · intro y0 y1 y2 y3 y4 y5
      unfold spec_l5So.l0
      repeat' first
      | (with_reducible exact ih0 _ _ _ _ _ _)
      | (with_reducible exact ih1 _ _ _ _ _ _ _)
      | (with_reducible exact ih2 _ _ _ _ _ _ _)
      | (with_reducible exact LeO.refl _)
      | (with_reducible exact LeO.none _)
      | (with_reducible refine LeO.ite ?_ ?_)
      | (with_reducible refine LeO.bind ?_ (fun _ => ?_))
      | exact ih0 _ _ _ _ _ _
      | exact ih1 _ _ _ _ _ _ _
      | exact ih2 _ _ _ _ _ _ _
      | exact LeO.none _
      | refine LeO.ite ?_ ?_
      | refine LeO.bind ?_ (fun _ => ?_)
    · intro y0 y1 y2 y3 y4 y5 y6
      unfold spec_l5So.j1
      repeat' first
      | (with_reducible exact ih0 _ _ _ _ _ _)
      | (with_reducible exact ih1 _ _ _ _ _ _ _)
      | (with_reducible exact ih2 _ _ _ _ _ _ _)
      | (with_reducible exact LeO.refl _)
      | (with_reducible exact LeO.none _)
      | (with_reducible refine LeO.ite ?_ ?_)
      | (with_reducible refine LeO.bind ?_ (fun _ => ?_))
      | exact ih0 _ _ _ _ _ _
      | exact ih1 _ _ _ _ _ _ _
      | exact ih2 _ _ _ _ _ _ _
      | exact LeO.none _
      | refine LeO.ite ?_ ?_
      | refine LeO.bind ?_ (fun _ => ?_)
    · intro y0 y1 y2 y3 y4 y5 y6
      unfold spec_l5So.j2
      repeat' first
      | (with_reducible exact ih0 _ _ _ _ _ _)
      | (with_reducible exact ih1 _ _ _ _ _ _ _)
      | (with_reducible exact ih2 _ _ _ _ _ _ _)
      | (with_reducible exact LeO.refl _)
      | (with_reducible exact LeO.none _)
      | (with_reducible refine LeO.ite ?_ ?_)
      | (with_reducible refine LeO.bind ?_ (fun _ => ?_))
      | exact ih0 _ _ _ _ _ _
      | exact ih1 _ _ _ _ _ _ _
      | exact ih2 _ _ _ _ _ _ _
      | exact LeO.none _
      | refine LeO.ite ?_ ?_
      | refine LeO.bind ?_ (fun _ => ?_)
theorem spec_l5So.mono : ∀ a0 a1 a2 a3 a4 k, LeO (spec_l5So.f k a0 a1 a2 a3 a4) (spec_l5So.f (k + 1) a0 a1 a2 a3 a4) := by
  intro a0 a1 a2 a3 a4 k
  obtain ⟨ih0, ih1, ih2⟩ := spec_l5So.mono_l k
  unfold spec_l5So.f
  repeat' first
      | (with_reducible exact ih0 _ _ _ _ _ _)
      | (with_reducible exact ih1 _ _ _ _ _ _ _)
      | (with_reducible exact ih2 _ _ _ _ _ _ _)
      | (with_reducible exact LeO.refl _)
      | (with_reducible exact LeO.none _)
      | (with_reducible refine LeO.ite ?_ ?_)
      | (with_reducible refine LeO.bind ?_ (fun _ => ?_))
      | exact ih0 _ _ _ _ _ _
      | exact ih1 _ _ _ _ _ _ _
      | exact ih2 _ _ _ _ _ _ _
      | exact LeO.none _
      | refine LeO.ite ?_ ?_
      | refine LeO.bind ?_ (fun _ => ?_)
set_option maxHeartbeats 8000000 in
set_option maxRecDepth 100000 in
theorem spec_l5So.calls (k : Nat) (a0 : Int) (a1 : Int) (a2_0 : Int) (a2_1 : Int) (a2_2 : Int) (r : Bool) (w : World) (h : spec_l5So.f k a0 a1 a2_0 a2_1 a2_2 = some r) :
    Calls Try.prog 36 #[.int .i64 a0, .int .i64 a1, .agg #[.int .i64 a2_0, .int .i64 a2_1, .int .i64 a2_2]] w fun e w' => e = .returned (.bool r) ∧ Below w.heap.size w w' := by
  have hu29 := Try.underlying29; have HB := Aside0.mk (Below.refl w.heap.size w)
  have H : (spec_l5So.l0 k a0 a1 0 a2_0 a2_1 a2_2) = some r := h; clear h
  have H' := Aside0.mk H; clear H
  go_enter Try.func36, Try.ntmps36
  go_wp2_with (first | ((with_reducible refine gate_dst (N := 5) rfl ?_); refine box_event ?hg (N := 5) ?hd (cs := #[.int .i64 a2_0, .int .i64 a2_1, .int .i64 a2_2]) (t := 29) ?hr ?_; (case hd => rfl); (case hg => rfl); (case hr => first | (go_simp; done) | (go_simp; rfl)); intro gb307 hg w4 hbox hb; have n0_ := Aside0.mk (below_step (by repeat (first | (with_reducible first | exact HB.out | apply below_alloc | apply pw_below_drewN | apply below_drew1) | exact HB.out)) hb); have n1_ := Aside0.mk (hbox); have n2_ := Aside0.mk ((by rw [hg]; exact (below_size (by repeat (first | (with_reducible first | exact HB.out | apply below_alloc | apply pw_below_drewN | apply below_drew1) | exact HB.out))) : w.heap.size ≤ gb307)); have n3_ := Aside0.mk ((by rw [hg]; exact (below_size (by repeat (first | (with_reducible first | exact HB.out | apply below_alloc | apply pw_below_drewN | apply below_drew1) | exact HB.out))) : w.heap.size ≤ gb307)); clear HB; have HB := n0_; have BK307 := n1_; have GW307 := n2_; have GE307 := n3_; clear n0_ n1_ n2_ n3_ hb hbox hg))
  go_loopg [7] k (fun kq v7 w' => ∃ (x7_1 : Int), v7 = .int .i64 x7_1 ∧ Aside0 (spec_l5So.l0 kq a0 a1 x7_1 a2_0 a2_1 a2_2 = some r) ∧ Aside0 (kq ≤ k) ∧ Aside0 (w'.heap[gb307]? = some (.cells #[.int .i64 a2_0, .int .i64 a2_1, .int .i64 a2_2] 29 (0, 0))) ∧ Aside0 (Below w.heap.size w w'))
  case atStart => exact ⟨(0), (by first | rfl | (simp; done) | (simp [*]; done)), H', ⟨Nat.le_refl _⟩, ⟨by (with_reducible repeat (first | refine blk_drewN ?_ _ | refine blk_drew ?_ | refine blk_alloc ?_ _)); exact BK307.out⟩, ⟨by repeat (first | (with_reducible first | exact HB.out | apply below_alloc | apply pw_below_drewN | apply below_drew1 | refine below_set ?_ GE307.out) | exact HB.out)⟩⟩
  case round =>
    clear H'
    try clear p2
    try clear c3
    obtain ⟨x7_1, rfl, HA, HK1, BK307, HB⟩ := hrel
    cases gk with
    | zero => exact absurd HA.out (by simp [spec_l5So.l0])
    | succ k1 =>
      have H := HA.out; clear HA
      simp only [spec_l5So.l0] at H
      by_cases c5 : 0 ≤ a0
      · rw [if_pos c5] at H
        have c5b0 := eq_true c5
        have c5b1 : decide (0 ≤ a0) = true := decide_eq_true c5; clear c5
        obtain ⟨ji6, hji6⟩ : ∃ j_ : Int, (shl .i64 1 a0) = j_ := ⟨_, rfl⟩
        replace H : (if x7_1 < (ji6) then (if 0 ≤ x7_1 then (if (Int.tmod (shr .i64 a1 x7_1) 2) = 0 then (spec_l5So.j1 k1 a0 a1 x7_1 true a2_0 a2_1 a2_2) else ((spec_l5Is.f x7_1 a2_1).bind fun t308 => (spec_l5So.j1 k1 a0 a1 x7_1 (!t308) a2_0 a2_1 a2_2))) else (none)) else (some (a2_0 == 0))) = some r := by first | (rw [hji6] at H; exact H) | (simp only [hji6] at H ⊢; exact H)
        have hji6_ : (IntKind.i64.wrap (1 * 2 ^ min a0.toNat 64)) = ji6 := hji6
        have hji6z : a0 ≤ 64 → (IntKind.i64.wrap (1 * 2 ^ a0.toNat)) = ji6 := shl_small hji6
        have hji6u : (IntKind.i64.wrap (2 ^ min a0.toNat 64)) = ji6 := by have h_ := hji6_; rw [Int.one_mul] at h_; exact h_
        have hji6v : a0 ≤ 64 → (IntKind.i64.wrap (2 ^ a0.toNat)) = ji6 := fun hle_ => by have h_ := hji6z hle_; rw [Int.one_mul] at h_; exact h_
        have hji6y : (wrap64 (1 * 2 ^ min a0.toNat 64)) = ji6 := (i64_w _).symm.trans hji6_
        have hji6x : a0 ≤ 64 → (wrap64 (1 * 2 ^ a0.toNat)) = ji6 := fun h_ => (i64_w _).symm.trans (hji6z h_)
        by_cases c7 : x7_1 < (ji6)
        · rw [if_pos c7] at H
          have c7b0 : decide (x7_1 < (ji6)) = true := decide_eq_true c7; clear c7
          have HC8 := Aside0.mk H; clear H
          go_upto_region 4 with (fail)
          go_cut [25] (fun v25 wc => ∃ (kq : Nat) (x25_7 : Bool), v25 = .bool x25_7 ∧ Aside0 (spec_l5So.j1 kq a0 a1 x7_1 x25_7 a2_0 a2_1 a2_2 = some r) ∧ Aside0 (kq ≤ k1) ∧ Aside0 (wc.heap[gb307]? = some (.cells #[.int .i64 a2_0, .int .i64 a2_1, .int .i64 a2_2] 29 (0, 0))) ∧ Aside0 (Below w.heap.size w wc))
          case first =>
            have H := HC8.out; clear HC8
            by_cases c9 : 0 ≤ x7_1
            · rw [if_pos c9] at H
              have c9b0 := eq_true c9
              have c9b1 : decide (0 ≤ x7_1) = true := decide_eq_true c9; clear c9
              obtain ⟨ji10, hji10⟩ : ∃ j_ : Int, (shr .i64 a1 x7_1) = j_ := ⟨_, rfl⟩
              replace H : (if (Int.tmod (ji10) 2) = 0 then (spec_l5So.j1 k1 a0 a1 x7_1 true a2_0 a2_1 a2_2) else ((spec_l5Is.f x7_1 a2_1).bind fun t308 => (spec_l5So.j1 k1 a0 a1 x7_1 (!t308) a2_0 a2_1 a2_2))) = some r := by first | (rw [hji10] at H; exact H) | (simp only [hji10] at H ⊢; exact H)
              have hji10_ : (a1 / 2 ^ min x7_1.toNat 64) = ji10 := hji10
              have hji10z : x7_1 ≤ 64 → (a1 / 2 ^ x7_1.toNat) = ji10 := shr_small hji10
              by_cases c11 : (Int.tmod (ji10) 2) = 0
              · rw [if_pos c11] at H
                have c11b0 : ((Int.tmod (ji10) 2) == 0) = true := beq_iff_eq.mpr c11
                have c11b1 : ((Int.tmod (ji10) 2) != 0) = false := bne_eq_false_iff_eq.mpr c11; clear c11
                (first | rw [c11b0] | (simp only [i64_w, i32_w]; rw [c11b0]) | skip)
                have H' := Aside0.mk H; clear H
                go_wp2
                go_meet
                case rel => exact ⟨_, (true), (by first | rfl | (simp; done) | (simp [*]; done)), H', ⟨by have := HK1.out; first | omega | exact Nat.le_refl _⟩, ⟨by (with_reducible repeat (first | refine blk_drewN ?_ _ | refine blk_drew ?_ | refine blk_alloc ?_ _)); exact BK307.out⟩, ⟨by repeat (first | (with_reducible first | exact HB.out | apply below_alloc | apply pw_below_drewN | apply below_drew1 | refine below_set ?_ GE307.out) | exact HB.out)⟩⟩
              · rw [if_neg c11] at H
                have c11b0 : ((Int.tmod (ji10) 2) == 0) = false := beq_eq_false_iff_ne.mpr c11
                have c11b1 : ((Int.tmod (ji10) 2) != 0) = true := bne_iff_ne.mpr c11
                (first | rw [c11b0] | (simp only [i64_w, i32_w]; rw [c11b0]) | skip)
                replace H := Option.bind_eq_some_iff.mp H
                obtain ⟨t308, A120, H⟩ := H
                replace H : (spec_l5So.j1 k1 a0 a1 x7_1 (!t308) a2_0 a2_1 a2_2) = some r := H
                have A12 := Aside0.mk A120; clear A120
                have H' := Aside0.mk H; clear H
                have hcz13_0 : wr.cell? ⟨gb307, 0, none⟩ = some (.int .i64 a2_0) := (blk_cell BK307.out 0).trans rfl
                have hcz13_1 : wr.cell? ⟨gb307, 1, none⟩ = some (.int .i64 a2_1) := (blk_cell BK307.out 1).trans rfl
                have hcz13_2 : wr.cell? ⟨gb307, 2, none⟩ = some (.int .i64 a2_2) := (blk_cell BK307.out 2).trans rfl
                have hfz13_0 := blk_frozen BK307.out 0
                have hfz13_1 := blk_frozen BK307.out 1
                have hfz13_2 := blk_frozen BK307.out 2
                go_wp2_with (first | (go_at_call 48; (with_reducible refine (spec_l5Is.calls x7_1 a2_1 t308 _ A12.out).mono ?_); rintro e w' ⟨rfl, ⟨nd, rfl⟩⟩))
                go_meet
                case rel => exact ⟨_, (!t308), (by first | rfl | (simp; done) | (simp [*]; done)), H', ⟨by have := HK1.out; first | omega | exact Nat.le_refl _⟩, ⟨by (with_reducible repeat (first | refine blk_drewN ?_ _ | refine blk_drew ?_ | refine blk_alloc ?_ _)); exact BK307.out⟩, ⟨by repeat (first | (with_reducible first | exact HB.out | apply below_alloc | apply pw_below_drewN | apply below_drew1 | refine below_set ?_ GE307.out) | exact HB.out)⟩⟩
            · rw [if_neg c9] at H
              exact absurd H (by simp)
          case rest =>
            clear HC8
            try clear c1
            try clear p2
            try clear c3
            try clear c5
            try clear c5b0
            try clear c5b1
            try clear p6
            try clear c7
            try clear c7b0
            try clear c9
            try clear c9b0
            try clear c9b1
            try clear c11
            try clear c11b0
            try clear c11b1
            try clear hcz13_0
            try clear hcz13_1
            try clear hcz13_2
            try clear hfz13_0
            try clear hfz13_1
            try clear hfz13_2
            try clear p2
            obtain ⟨kq, x25_7, rfl, HA, HJ7, BK307, HB⟩ := hcut
            cases kq with
            | zero => exact absurd HA.out (by simp [spec_l5So.j1])
            | succ kj7 =>
              have H := HA.out; clear HA
              simp only [spec_l5So.j1] at H
              by_cases c14 : x25_7 = true
              · subst c14
                have H1 : (spec_l5So.l0 kj7 a0 a1 (wrap64 (x7_1 + 1)) a2_0 a2_1 a2_2) = some r := by rw [if_pos rfl] at H; exact H
                clear H; have H := H1; clear H1
                have H' := Aside0.mk H; clear H
                go_wp2
                go_roundg kj7
                case measure => have := HK1.out; have := HJ7.out; omega
                case rel => exact ⟨(wrap64 (x7_1 + 1)), (by first | rfl | (simp; done) | (simp [*]; done)), H', ⟨by have := HK1.out; have := HJ7.out; omega⟩, ⟨by (with_reducible repeat (first | refine blk_drewN ?_ _ | refine blk_drew ?_ | refine blk_alloc ?_ _)); exact BK307.out⟩, ⟨by repeat (first | (with_reducible first | exact HB.out | apply below_alloc | apply pw_below_drewN | apply below_drew1 | refine below_set ?_ GE307.out) | exact HB.out)⟩⟩
              · replace c14 := Bool.eq_false_iff.mpr c14; subst c14
                have H1 : (if a2_0 = 0 then ((spec_l5Is.f x7_1 a2_2).bind fun t309 => (spec_l5So.j2 kj7 a0 a1 x7_1 (!t309) a2_0 a2_1 a2_2)) else (spec_l5So.j2 kj7 a0 a1 x7_1 false a2_0 a2_1 a2_2)) = some r := by rw [if_neg (show ¬ (false = true) by decide)] at H; exact H
                clear H; have H := H1; clear H1
                have HC15 := Aside0.mk H; clear H
                go_upto_region 5 with (fail)
                go_cut [35] (fun v35 wc => ∃ (kq : Nat) (x35_14 : Bool), v35 = .bool x35_14 ∧ Aside0 (spec_l5So.j2 kq a0 a1 x7_1 x35_14 a2_0 a2_1 a2_2 = some r) ∧ Aside0 (kq ≤ kj7) ∧ Aside0 (wc.heap[gb307]? = some (.cells #[.int .i64 a2_0, .int .i64 a2_1, .int .i64 a2_2] 29 (0, 0))) ∧ Aside0 (Below w.heap.size w wc))
                case first =>
                  have H := HC15.out; clear HC15
                  by_cases c16 : a2_0 = 0
                  · rw [if_pos c16] at H
                    have c16b0 : (a2_0 == 0) = true := beq_iff_eq.mpr c16
                    have c16b1 : (a2_0 != 0) = false := bne_eq_false_iff_eq.mpr c16; clear c16
                    (first | rw [c16b0] | (simp only [i64_w, i32_w]; rw [c16b0]) | skip)
                    replace H := Option.bind_eq_some_iff.mp H
                    obtain ⟨t309, A170, H⟩ := H
                    replace H : (spec_l5So.j2 kj7 a0 a1 x7_1 (!t309) a2_0 a2_1 a2_2) = some r := H
                    have A17 := Aside0.mk A170; clear A170
                    have H' := Aside0.mk H; clear H
                    have hcz18_0 : wc.cell? ⟨gb307, 0, none⟩ = some (.int .i64 a2_0) := (blk_cell BK307.out 0).trans rfl
                    have hcz18_1 : wc.cell? ⟨gb307, 1, none⟩ = some (.int .i64 a2_1) := (blk_cell BK307.out 1).trans rfl
                    have hcz18_2 : wc.cell? ⟨gb307, 2, none⟩ = some (.int .i64 a2_2) := (blk_cell BK307.out 2).trans rfl
                    have hfz18_0 := blk_frozen BK307.out 0
                    have hfz18_1 := blk_frozen BK307.out 1
                    have hfz18_2 := blk_frozen BK307.out 2
                    go_wp2_with (first | (go_at_call 48; (with_reducible refine (spec_l5Is.calls x7_1 a2_2 t309 _ A17.out).mono ?_); rintro e w' ⟨rfl, ⟨nd, rfl⟩⟩))
                    go_meet
                    case rel => exact ⟨_, (!t309), (by first | rfl | (simp; done) | (simp [*]; done)), H', ⟨by have := HK1.out; have := HJ7.out; first | omega | exact Nat.le_refl _⟩, ⟨by (with_reducible repeat (first | refine blk_drewN ?_ _ | refine blk_drew ?_ | refine blk_alloc ?_ _)); exact BK307.out⟩, ⟨by repeat (first | (with_reducible first | exact HB.out | apply below_alloc | apply pw_below_drewN | apply below_drew1 | refine below_set ?_ GE307.out) | exact HB.out)⟩⟩
                  · rw [if_neg c16] at H
                    have c16b0 : (a2_0 == 0) = false := beq_eq_false_iff_ne.mpr c16
                    have c16b1 : (a2_0 != 0) = true := bne_iff_ne.mpr c16
                    (first | rw [c16b0] | (simp only [i64_w, i32_w]; rw [c16b0]) | skip)
                    have H' := Aside0.mk H; clear H
                    have hcz19_0 : wc.cell? ⟨gb307, 0, none⟩ = some (.int .i64 a2_0) := (blk_cell BK307.out 0).trans rfl
                    have hcz19_1 : wc.cell? ⟨gb307, 1, none⟩ = some (.int .i64 a2_1) := (blk_cell BK307.out 1).trans rfl
                    have hcz19_2 : wc.cell? ⟨gb307, 2, none⟩ = some (.int .i64 a2_2) := (blk_cell BK307.out 2).trans rfl
                    have hfz19_0 := blk_frozen BK307.out 0
                    have hfz19_1 := blk_frozen BK307.out 1
                    have hfz19_2 := blk_frozen BK307.out 2
                    go_wp2
                    go_meet
                    case rel => exact ⟨_, (false), (by first | rfl | (simp; done) | (simp [*]; done)), H', ⟨by have := HK1.out; have := HJ7.out; first | omega | exact Nat.le_refl _⟩, ⟨by (with_reducible repeat (first | refine blk_drewN ?_ _ | refine blk_drew ?_ | refine blk_alloc ?_ _)); exact BK307.out⟩, ⟨by repeat (first | (with_reducible first | exact HB.out | apply below_alloc | apply pw_below_drewN | apply below_drew1 | refine below_set ?_ GE307.out) | exact HB.out)⟩⟩
                case rest =>
                  clear HC15
                  try clear c1
                  try clear p2
                  try clear c3
                  try clear c5
                  try clear c5b0
                  try clear c5b1
                  try clear p6
                  try clear c7
                  try clear c7b0
                  try clear c9
                  try clear c9b0
                  try clear c9b1
                  try clear c11
                  try clear c11b0
                  try clear c11b1
                  try clear c14
                  try clear c16
                  try clear c16b0
                  try clear c16b1
                  try clear hcz13_0
                  try clear hcz13_1
                  try clear hcz13_2
                  try clear hcz18_0
                  try clear hcz18_1
                  try clear hcz18_2
                  try clear hcz19_0
                  try clear hcz19_1
                  try clear hcz19_2
                  try clear hfz13_0
                  try clear hfz13_1
                  try clear hfz13_2
                  try clear hfz18_0
                  try clear hfz18_1
                  try clear hfz18_2
                  try clear hfz19_0
                  try clear hfz19_1
                  try clear hfz19_2
                  try clear p2
                  try clear p6
                  obtain ⟨kq, x35_14, rfl, HA, HJ14, BK307, HB⟩ := hcut
                  cases kq with
                  | zero => exact absurd HA.out (by simp [spec_l5So.j2])
                  | succ kj14 =>
                    have H := HA.out; clear HA
                    simp only [spec_l5So.j2] at H
                    by_cases c20 : x35_14 = true
                    · subst c20
                      have H1 : (some false) = some r := by rw [if_pos rfl] at H; exact H
                      clear H; have H := H1; clear H1
                      obtain rfl := Option.some.inj H
                      go_wp2
                      go_ret
                      exact ⟨by first | rfl | (simp [errW_none, errW_some] <;> rfl) | (simp only [← hji6]; first | rfl | (simp [errW_none, errW_some] <;> rfl)) | (simp [*, errW_none, errW_some] <;> rfl), by repeat (first | (with_reducible first | exact HB.out | apply below_alloc | apply pw_below_drewN | apply below_drew1 | refine below_set ?_ GE307.out) | exact HB.out)⟩
                    · replace c20 := Bool.eq_false_iff.mpr c20; subst c20
                      have H1 : (if a2_0 = 1 then ((spec_l5Is.f x7_1 a2_2).bind fun t310 => (if t310 = true then (some true) else (spec_l5So.l0 kj14 a0 a1 (wrap64 (x7_1 + 1)) a2_0 a2_1 a2_2))) else (spec_l5So.l0 kj14 a0 a1 (wrap64 (x7_1 + 1)) a2_0 a2_1 a2_2)) = some r := by rw [if_neg (show ¬ (false = true) by decide)] at H; exact H
                      clear H; have H := H1; clear H1
                      by_cases c21 : a2_0 = 1
                      · rw [if_pos c21] at H
                        have c21b0 : (a2_0 == 1) = true := beq_iff_eq.mpr c21
                        have c21b1 : (a2_0 != 1) = false := bne_eq_false_iff_eq.mpr c21; clear c21
                        replace H := Option.bind_eq_some_iff.mp H
                        obtain ⟨t310, A220, H⟩ := H
                        replace H : (if t310 = true then (some true) else (spec_l5So.l0 kj14 a0 a1 (wrap64 (x7_1 + 1)) a2_0 a2_1 a2_2)) = some r := H
                        have A22 := Aside0.mk A220; clear A220
                        by_cases c23 : t310 = true
                        · subst c23
                          have H1 : (some true) = some r := by rw [if_pos rfl] at H; exact H
                          clear H; have H := H1; clear H1
                          obtain rfl := Option.some.inj H
                          have hcz24_0 : wc.cell? ⟨gb307, 0, none⟩ = some (.int .i64 a2_0) := (blk_cell BK307.out 0).trans rfl
                          have hcz24_1 : wc.cell? ⟨gb307, 1, none⟩ = some (.int .i64 a2_1) := (blk_cell BK307.out 1).trans rfl
                          have hcz24_2 : wc.cell? ⟨gb307, 2, none⟩ = some (.int .i64 a2_2) := (blk_cell BK307.out 2).trans rfl
                          have hfz24_0 := blk_frozen BK307.out 0
                          have hfz24_1 := blk_frozen BK307.out 1
                          have hfz24_2 := blk_frozen BK307.out 2
                          go_wp2_with (first | (go_at_call 48; (with_reducible refine (spec_l5Is.calls x7_1 a2_2 true _ A22.out).mono ?_); rintro e w' ⟨rfl, ⟨nd, rfl⟩⟩))
                          go_ret
                          exact ⟨by first | rfl | (simp [errW_none, errW_some] <;> rfl) | (simp only [← hji6]; first | rfl | (simp [errW_none, errW_some] <;> rfl)) | (simp [*, errW_none, errW_some] <;> rfl), by repeat (first | (with_reducible first | exact HB.out | apply below_alloc | apply pw_below_drewN | apply below_drew1 | refine below_set ?_ GE307.out) | exact HB.out)⟩
                        · replace c23 := Bool.eq_false_iff.mpr c23; subst c23
                          have H1 : (spec_l5So.l0 kj14 a0 a1 (wrap64 (x7_1 + 1)) a2_0 a2_1 a2_2) = some r := by rw [if_neg (show ¬ (false = true) by decide)] at H; exact H
                          clear H; have H := H1; clear H1
                          have H' := Aside0.mk H; clear H
                          have hcz25_0 : wc.cell? ⟨gb307, 0, none⟩ = some (.int .i64 a2_0) := (blk_cell BK307.out 0).trans rfl
                          have hcz25_1 : wc.cell? ⟨gb307, 1, none⟩ = some (.int .i64 a2_1) := (blk_cell BK307.out 1).trans rfl
                          have hcz25_2 : wc.cell? ⟨gb307, 2, none⟩ = some (.int .i64 a2_2) := (blk_cell BK307.out 2).trans rfl
                          have hfz25_0 := blk_frozen BK307.out 0
                          have hfz25_1 := blk_frozen BK307.out 1
                          have hfz25_2 := blk_frozen BK307.out 2
                          go_wp2_with (first | (go_at_call 48; (with_reducible refine (spec_l5Is.calls x7_1 a2_2 false _ A22.out).mono ?_); rintro e w' ⟨rfl, ⟨nd, rfl⟩⟩))
                          go_roundg kj14
                          case measure => have := HK1.out; have := HJ7.out; have := HJ14.out; omega
                          case rel => exact ⟨(wrap64 (x7_1 + 1)), (by first | rfl | (simp; done) | (simp [*]; done)), H', ⟨by have := HK1.out; have := HJ7.out; have := HJ14.out; omega⟩, ⟨by (with_reducible repeat (first | refine blk_drewN ?_ _ | refine blk_drew ?_ | refine blk_alloc ?_ _)); exact BK307.out⟩, ⟨by repeat (first | (with_reducible first | exact HB.out | apply below_alloc | apply pw_below_drewN | apply below_drew1 | refine below_set ?_ GE307.out) | exact HB.out)⟩⟩
                      · rw [if_neg c21] at H
                        have c21b0 : (a2_0 == 1) = false := beq_eq_false_iff_ne.mpr c21
                        have c21b1 : (a2_0 != 1) = true := bne_iff_ne.mpr c21
                        have H' := Aside0.mk H; clear H
                        have hcz26_0 : wc.cell? ⟨gb307, 0, none⟩ = some (.int .i64 a2_0) := (blk_cell BK307.out 0).trans rfl
                        have hcz26_1 : wc.cell? ⟨gb307, 1, none⟩ = some (.int .i64 a2_1) := (blk_cell BK307.out 1).trans rfl
                        have hcz26_2 : wc.cell? ⟨gb307, 2, none⟩ = some (.int .i64 a2_2) := (blk_cell BK307.out 2).trans rfl
                        have hfz26_0 := blk_frozen BK307.out 0
                        have hfz26_1 := blk_frozen BK307.out 1
                        have hfz26_2 := blk_frozen BK307.out 2
                        go_wp2
                        go_roundg kj14
                        case measure => have := HK1.out; have := HJ7.out; have := HJ14.out; omega
                        case rel => exact ⟨(wrap64 (x7_1 + 1)), (by first | rfl | (simp; done) | (simp [*]; done)), H', ⟨by have := HK1.out; have := HJ7.out; have := HJ14.out; omega⟩, ⟨by (with_reducible repeat (first | refine blk_drewN ?_ _ | refine blk_drew ?_ | refine blk_alloc ?_ _)); exact BK307.out⟩, ⟨by repeat (first | (with_reducible first | exact HB.out | apply below_alloc | apply pw_below_drewN | apply below_drew1 | refine below_set ?_ GE307.out) | exact HB.out)⟩⟩
        · rw [if_neg c7] at H
          have c7b0 : decide (x7_1 < (ji6)) = false := decide_eq_false c7; clear c7
          obtain rfl := Option.some.inj H
          have hcz27_0 : wr.cell? ⟨gb307, 0, none⟩ = some (.int .i64 a2_0) := (blk_cell BK307.out 0).trans rfl
          have hcz27_1 : wr.cell? ⟨gb307, 1, none⟩ = some (.int .i64 a2_1) := (blk_cell BK307.out 1).trans rfl
          have hcz27_2 : wr.cell? ⟨gb307, 2, none⟩ = some (.int .i64 a2_2) := (blk_cell BK307.out 2).trans rfl
          have hfz27_0 := blk_frozen BK307.out 0
          have hfz27_1 := blk_frozen BK307.out 1
          have hfz27_2 := blk_frozen BK307.out 2
          go_wp2
          go_ret
          exact ⟨by first | rfl | (simp [errW_none, errW_some] <;> rfl) | (simp only [← hji6]; first | rfl | (simp [errW_none, errW_some] <;> rfl)) | (simp [*, errW_none, errW_some] <;> rfl), by repeat (first | (with_reducible first | exact HB.out | apply below_alloc | apply pw_below_drewN | apply below_drew1 | refine below_set ?_ GE307.out) | exact HB.out)⟩
      · rw [if_neg c5] at H
        exact absurd H (by simp)

end Go.Proofs.Ythnmllkhlinnaaa.PA
