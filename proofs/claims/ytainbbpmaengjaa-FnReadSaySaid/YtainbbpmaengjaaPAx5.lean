/- The machine side of functions of this seat, written by the session's program myprint.py: for each Go function a Lean function and the proof that the call answers just it. -/
import Derived.Test.YtainbbpmaengjaaPAx0
import Derived.Test.YtainbbpmaengjaaPAx2
import Derived.Test.YtainbbpmaengjaaPAx4
namespace Go.Proofs.Ytainbbpmaengjaa.PA
open Go.RowKit Go.Proofs.YtainbbpmaengjaaW.PrintWords Go.Proofs.YtainbbpmaengjaaW.PrintLast Go.Proofs.YtainbbpmaengjaaW.PrintMore
attribute [local go_sem] max2_int min2_int max_two min_two max_three min_three max_four min_four   -- for this text's walks alone
set_option linter.unusedVariables false
set_option linter.unusedSimpArgs false

/-! ### spec_SayText: function 22 -/
def spec_SayText.f (a0 : Int) (a1_0 : Int) (a1_1 : Int) (a1_2 : Int) : Option (ByteArray) := (spec_SayOk.f a0 a1_0 a1_1 a1_2).bind fun t130 => (if t130 = true then ((some (([(⟨#[97, 108, 108]⟩ : ByteArray), (⟨#[115, 111, 109, 101]⟩ : ByteArray)] : List ByteArray) : List ByteArray)).bind fun y131 => (if 0 ≤ a1_0 then (if a1_0 < (y131.length : Int) then (if (rdOf ByteArray.empty y131 a1_0).size + 1 ≤ 9223372036854775807 then ((spec_l5Term.f a1_1).bind fun t135 => (if ((rdOf ByteArray.empty y131 a1_0) ++ (⟨#[32]⟩ : ByteArray)).size + t135.size ≤ 9223372036854775807 then (if (((rdOf ByteArray.empty y131 a1_0) ++ (⟨#[32]⟩ : ByteArray)) ++ t135).size + 5 ≤ 9223372036854775807 then ((spec_l5Term.f a1_2).bind fun t136 => (if ((((rdOf ByteArray.empty y131 a1_0) ++ (⟨#[32]⟩ : ByteArray)) ++ t135) ++ (⟨#[32, 97, 114, 101, 32]⟩ : ByteArray)).size + t136.size ≤ 9223372036854775807 then (some (((((rdOf ByteArray.empty y131 a1_0) ++ (⟨#[32]⟩ : ByteArray)) ++ t135) ++ (⟨#[32, 97, 114, 101, 32]⟩ : ByteArray)) ++ t136)) else (none))) else (none)) else (none))) else (none)) else (none)) else (none))) else (some (⟨#[]⟩ : ByteArray)))
def spec_SayText.T3 : Bool × List (List Nat × List Nat) := (true, [([], []), ([], []), ([1], [1]), ([0, 2], [0, 2]), ([3], [3]), ([4], [4]), ([], []), ([6], [6]), ([7], [7]), ([5, 8], [5, 8]), ([9], [9]), ([], []), ([11], [11]), ([12, 8], [12]), ([10, 13], [10, 13]), ([14, 13, 0, 1, 2, 3, 4, 5, 6, 7, 8, 9, 10, 11, 12, 13, 14], [14])])
def spec_SayText.B3 : List Nat := [0, 0, 2, 7, 15, 31, 0, 64, 192, 511, 1023, 0, 2048, 6592, 16383, 32767]
theorem spec_SayText.tab3 : rtab .any (opsOf Try.f22 3) = spec_SayText.T3 := by kernel_rfl
theorem spec_SayText.bits3 : waitsOk spec_SayText.T3.2 spec_SayText.B3 = true := by kernel_rfl
set_option maxHeartbeats 8000000 in
set_option maxRecDepth 100000 in
theorem spec_SayText.calls (a0 : Int) (a1_0 : Int) (a1_1 : Int) (a1_2 : Int) (r : ByteArray) (w : World) (h : spec_SayText.f a0 a1_0 a1_1 a1_2 = some r) :
    Calls Try.prog 22 #[.int .i64 a0, .agg #[.int .i64 a1_0, .int .i64 a1_1, .int .i64 a1_2]] w fun e w' => e = .returned (.string r) ∧ Below w.heap.size w w' := by
  have hu25 := Try.underlying25; have HB := Aside0.mk (Below.refl w.heap.size w)
  have H : ((spec_SayOk.f a0 a1_0 a1_1 a1_2).bind fun t130 => (if t130 = true then ((some (([(⟨#[97, 108, 108]⟩ : ByteArray), (⟨#[115, 111, 109, 101]⟩ : ByteArray)] : List ByteArray) : List ByteArray)).bind fun y131 => (if 0 ≤ a1_0 then (if a1_0 < (y131.length : Int) then (if (rdOf ByteArray.empty y131 a1_0).size + 1 ≤ 9223372036854775807 then ((spec_l5Term.f a1_1).bind fun t135 => (if ((rdOf ByteArray.empty y131 a1_0) ++ (⟨#[32]⟩ : ByteArray)).size + t135.size ≤ 9223372036854775807 then (if (((rdOf ByteArray.empty y131 a1_0) ++ (⟨#[32]⟩ : ByteArray)) ++ t135).size + 5 ≤ 9223372036854775807 then ((spec_l5Term.f a1_2).bind fun t136 => (if ((((rdOf ByteArray.empty y131 a1_0) ++ (⟨#[32]⟩ : ByteArray)) ++ t135) ++ (⟨#[32, 97, 114, 101, 32]⟩ : ByteArray)).size + t136.size ≤ 9223372036854775807 then (some (((((rdOf ByteArray.empty y131 a1_0) ++ (⟨#[32]⟩ : ByteArray)) ++ t135) ++ (⟨#[32, 97, 114, 101, 32]⟩ : ByteArray)) ++ t136)) else (none))) else (none)) else (none))) else (none)) else (none)) else (none))) else (some (⟨#[]⟩ : ByteArray)))) = some r := h; clear h
  replace H := Option.bind_eq_some_iff.mp H
  obtain ⟨t130, A30, H⟩ := H
  replace H : (if t130 = true then ((some (([(⟨#[97, 108, 108]⟩ : ByteArray), (⟨#[115, 111, 109, 101]⟩ : ByteArray)] : List ByteArray) : List ByteArray)).bind fun y131 => (if 0 ≤ a1_0 then (if a1_0 < (y131.length : Int) then (if (rdOf ByteArray.empty y131 a1_0).size + 1 ≤ 9223372036854775807 then ((spec_l5Term.f a1_1).bind fun t135 => (if ((rdOf ByteArray.empty y131 a1_0) ++ (⟨#[32]⟩ : ByteArray)).size + t135.size ≤ 9223372036854775807 then (if (((rdOf ByteArray.empty y131 a1_0) ++ (⟨#[32]⟩ : ByteArray)) ++ t135).size + 5 ≤ 9223372036854775807 then ((spec_l5Term.f a1_2).bind fun t136 => (if ((((rdOf ByteArray.empty y131 a1_0) ++ (⟨#[32]⟩ : ByteArray)) ++ t135) ++ (⟨#[32, 97, 114, 101, 32]⟩ : ByteArray)).size + t136.size ≤ 9223372036854775807 then (some (((((rdOf ByteArray.empty y131 a1_0) ++ (⟨#[32]⟩ : ByteArray)) ++ t135) ++ (⟨#[32, 97, 114, 101, 32]⟩ : ByteArray)) ++ t136)) else (none))) else (none)) else (none))) else (none)) else (none)) else (none))) else (some (⟨#[]⟩ : ByteArray))) = some r := H
  have A3 := Aside0.mk A30; clear A30
  by_cases c4 : t130 = true
  · subst c4
    have H1 : ((some (([(⟨#[97, 108, 108]⟩ : ByteArray), (⟨#[115, 111, 109, 101]⟩ : ByteArray)] : List ByteArray) : List ByteArray)).bind fun y131 => (if 0 ≤ a1_0 then (if a1_0 < (y131.length : Int) then (if (rdOf ByteArray.empty y131 a1_0).size + 1 ≤ 9223372036854775807 then ((spec_l5Term.f a1_1).bind fun t135 => (if ((rdOf ByteArray.empty y131 a1_0) ++ (⟨#[32]⟩ : ByteArray)).size + t135.size ≤ 9223372036854775807 then (if (((rdOf ByteArray.empty y131 a1_0) ++ (⟨#[32]⟩ : ByteArray)) ++ t135).size + 5 ≤ 9223372036854775807 then ((spec_l5Term.f a1_2).bind fun t136 => (if ((((rdOf ByteArray.empty y131 a1_0) ++ (⟨#[32]⟩ : ByteArray)) ++ t135) ++ (⟨#[32, 97, 114, 101, 32]⟩ : ByteArray)).size + t136.size ≤ 9223372036854775807 then (some (((((rdOf ByteArray.empty y131 a1_0) ++ (⟨#[32]⟩ : ByteArray)) ++ t135) ++ (⟨#[32, 97, 114, 101, 32]⟩ : ByteArray)) ++ t136)) else (none))) else (none)) else (none))) else (none)) else (none)) else (none))) = some r := by rw [if_pos rfl] at H; exact H
    clear H; have H := H1; clear H1
    obtain ⟨y131, hy131⟩ : ∃ y_ : List ByteArray, y_ = (([(⟨#[97, 108, 108]⟩ : ByteArray), (⟨#[115, 111, 109, 101]⟩ : ByteArray)] : List ByteArray)) := ⟨_, rfl⟩
    replace H : (if 0 ≤ a1_0 then (if a1_0 < (y131.length : Int) then (if (rdOf ByteArray.empty y131 a1_0).size + 1 ≤ 9223372036854775807 then ((spec_l5Term.f a1_1).bind fun t135 => (if ((rdOf ByteArray.empty y131 a1_0) ++ (⟨#[32]⟩ : ByteArray)).size + t135.size ≤ 9223372036854775807 then (if (((rdOf ByteArray.empty y131 a1_0) ++ (⟨#[32]⟩ : ByteArray)) ++ t135).size + 5 ≤ 9223372036854775807 then ((spec_l5Term.f a1_2).bind fun t136 => (if ((((rdOf ByteArray.empty y131 a1_0) ++ (⟨#[32]⟩ : ByteArray)) ++ t135) ++ (⟨#[32, 97, 114, 101, 32]⟩ : ByteArray)).size + t136.size ≤ 9223372036854775807 then (some (((((rdOf ByteArray.empty y131 a1_0) ++ (⟨#[32]⟩ : ByteArray)) ++ t135) ++ (⟨#[32, 97, 114, 101, 32]⟩ : ByteArray)) ++ t136)) else (none))) else (none)) else (none))) else (none)) else (none)) else (none)) = some r := by first | (rw [hy131]; with_reducible exact H) | (have H2_ := (Option.bind_some _ _).symm.trans H; rw [hy131]; with_reducible exact H2_) | (have H2_ := (Option.bind_some _ _).symm.trans H; with_reducible exact H2_) | with_reducible exact H | (rw [hy131]; exact H) | exact H
    have Ny131 := Aside0.mk hy131; clear hy131
    by_cases c5 : 0 ≤ a1_0
    · rw [if_pos c5] at H
      have c5b0 : decide (0 ≤ a1_0) = true := decide_eq_true c5; clear c5
      by_cases c6 : a1_0 < (y131.length : Int)
      · rw [if_pos c6] at H
        have c6b0 : decide (a1_0 < (y131.length : Int)) = true := decide_eq_true c6; clear c6
        by_cases c7 : (rdOf ByteArray.empty y131 a1_0).size + 1 ≤ 9223372036854775807
        · rw [if_pos c7] at H
          have c7b0 := eq_true c7
          have c7b1 : decide ((rdOf ByteArray.empty y131 a1_0).size + 1 ≤ 9223372036854775807) = true := decide_eq_true c7
          try have c7b2 : (9223372036854775807 < (rdOf ByteArray.empty y131 a1_0).size + 1) = False := eq_false (Nat.not_lt.2 c7)
          have zl0 : (⟨#[115, 111, 109, 101]⟩ : ByteArray).size = 4 := rfl
          have zl1 : (⟨#[32, 97, 114, 101, 32]⟩ : ByteArray).size = 5 := rfl
          have zl2 : (⟨#[32]⟩ : ByteArray).size = 1 := rfl
          have zl3 : (⟨#[97, 108, 108]⟩ : ByteArray).size = 3 := rfl
          have zl4 : (⟨#[]⟩ : ByteArray).size = 0 := rfl; have c7n := c7
          (try simp only [ByteArray.size_append, zl0, zl1, zl2, zl3, zl4, Nat.reduceAdd] at c7n)
          (try have c7n0 := eq_true c7n)
          (try have c7n1 := decide_eq_true c7n)
          (try have c7n2 := eq_false (Nat.not_lt.2 c7n)); clear zl0 zl1 zl2 zl3 zl4
          replace H := Option.bind_eq_some_iff.mp H
          obtain ⟨t135, A80, H⟩ := H
          replace H : (if ((rdOf ByteArray.empty y131 a1_0) ++ (⟨#[32]⟩ : ByteArray)).size + t135.size ≤ 9223372036854775807 then (if (((rdOf ByteArray.empty y131 a1_0) ++ (⟨#[32]⟩ : ByteArray)) ++ t135).size + 5 ≤ 9223372036854775807 then ((spec_l5Term.f a1_2).bind fun t136 => (if ((((rdOf ByteArray.empty y131 a1_0) ++ (⟨#[32]⟩ : ByteArray)) ++ t135) ++ (⟨#[32, 97, 114, 101, 32]⟩ : ByteArray)).size + t136.size ≤ 9223372036854775807 then (some (((((rdOf ByteArray.empty y131 a1_0) ++ (⟨#[32]⟩ : ByteArray)) ++ t135) ++ (⟨#[32, 97, 114, 101, 32]⟩ : ByteArray)) ++ t136)) else (none))) else (none)) else (none)) = some r := H
          have A8 := Aside0.mk A80; clear A80
          by_cases c9 : ((rdOf ByteArray.empty y131 a1_0) ++ (⟨#[32]⟩ : ByteArray)).size + t135.size ≤ 9223372036854775807
          · rw [if_pos c9] at H
            have c9b0 := eq_true c9
            have c9b1 : decide (((rdOf ByteArray.empty y131 a1_0) ++ (⟨#[32]⟩ : ByteArray)).size + t135.size ≤ 9223372036854775807) = true := decide_eq_true c9
            try have c9b2 : (9223372036854775807 < ((rdOf ByteArray.empty y131 a1_0) ++ (⟨#[32]⟩ : ByteArray)).size + t135.size) = False := eq_false (Nat.not_lt.2 c9)
            have zl0 : (⟨#[115, 111, 109, 101]⟩ : ByteArray).size = 4 := rfl
            have zl1 : (⟨#[32, 97, 114, 101, 32]⟩ : ByteArray).size = 5 := rfl
            have zl2 : (⟨#[32]⟩ : ByteArray).size = 1 := rfl
            have zl3 : (⟨#[97, 108, 108]⟩ : ByteArray).size = 3 := rfl
            have zl4 : (⟨#[]⟩ : ByteArray).size = 0 := rfl; have c9n := c9
            (try simp only [ByteArray.size_append, zl0, zl1, zl2, zl3, zl4, Nat.reduceAdd] at c9n)
            (try have c9n0 := eq_true c9n)
            (try have c9n1 := decide_eq_true c9n)
            (try have c9n2 := eq_false (Nat.not_lt.2 c9n)); clear zl0 zl1 zl2 zl3 zl4
            by_cases c10 : (((rdOf ByteArray.empty y131 a1_0) ++ (⟨#[32]⟩ : ByteArray)) ++ t135).size + 5 ≤ 9223372036854775807
            · rw [if_pos c10] at H
              have c10b0 := eq_true c10
              have c10b1 : decide ((((rdOf ByteArray.empty y131 a1_0) ++ (⟨#[32]⟩ : ByteArray)) ++ t135).size + 5 ≤ 9223372036854775807) = true := decide_eq_true c10
              try have c10b2 : (9223372036854775807 < (((rdOf ByteArray.empty y131 a1_0) ++ (⟨#[32]⟩ : ByteArray)) ++ t135).size + 5) = False := eq_false (Nat.not_lt.2 c10)
              have zl0 : (⟨#[115, 111, 109, 101]⟩ : ByteArray).size = 4 := rfl
              have zl1 : (⟨#[32, 97, 114, 101, 32]⟩ : ByteArray).size = 5 := rfl
              have zl2 : (⟨#[32]⟩ : ByteArray).size = 1 := rfl
              have zl3 : (⟨#[97, 108, 108]⟩ : ByteArray).size = 3 := rfl
              have zl4 : (⟨#[]⟩ : ByteArray).size = 0 := rfl; have c10n := c10
              (try simp only [ByteArray.size_append, zl0, zl1, zl2, zl3, zl4, Nat.reduceAdd] at c10n)
              (try have c10n0 := eq_true c10n)
              (try have c10n1 := decide_eq_true c10n)
              (try have c10n2 := eq_false (Nat.not_lt.2 c10n)); clear zl0 zl1 zl2 zl3 zl4
              replace H := Option.bind_eq_some_iff.mp H
              obtain ⟨t136, A110, H⟩ := H
              replace H : (if ((((rdOf ByteArray.empty y131 a1_0) ++ (⟨#[32]⟩ : ByteArray)) ++ t135) ++ (⟨#[32, 97, 114, 101, 32]⟩ : ByteArray)).size + t136.size ≤ 9223372036854775807 then (some (((((rdOf ByteArray.empty y131 a1_0) ++ (⟨#[32]⟩ : ByteArray)) ++ t135) ++ (⟨#[32, 97, 114, 101, 32]⟩ : ByteArray)) ++ t136)) else (none)) = some r := H
              have A11 := Aside0.mk A110; clear A110
              by_cases c12 : ((((rdOf ByteArray.empty y131 a1_0) ++ (⟨#[32]⟩ : ByteArray)) ++ t135) ++ (⟨#[32, 97, 114, 101, 32]⟩ : ByteArray)).size + t136.size ≤ 9223372036854775807
              · rw [if_pos c12] at H
                have c12b0 := eq_true c12
                have c12b1 : decide (((((rdOf ByteArray.empty y131 a1_0) ++ (⟨#[32]⟩ : ByteArray)) ++ t135) ++ (⟨#[32, 97, 114, 101, 32]⟩ : ByteArray)).size + t136.size ≤ 9223372036854775807) = true := decide_eq_true c12
                try have c12b2 : (9223372036854775807 < ((((rdOf ByteArray.empty y131 a1_0) ++ (⟨#[32]⟩ : ByteArray)) ++ t135) ++ (⟨#[32, 97, 114, 101, 32]⟩ : ByteArray)).size + t136.size) = False := eq_false (Nat.not_lt.2 c12)
                have zl0 : (⟨#[115, 111, 109, 101]⟩ : ByteArray).size = 4 := rfl
                have zl1 : (⟨#[32, 97, 114, 101, 32]⟩ : ByteArray).size = 5 := rfl
                have zl2 : (⟨#[32]⟩ : ByteArray).size = 1 := rfl
                have zl3 : (⟨#[97, 108, 108]⟩ : ByteArray).size = 3 := rfl
                have zl4 : (⟨#[]⟩ : ByteArray).size = 0 := rfl; have c12n := c12
                (try simp only [ByteArray.size_append, zl0, zl1, zl2, zl3, zl4, Nat.reduceAdd] at c12n)
                (try have c12n0 := eq_true c12n)
                (try have c12n1 := decide_eq_true c12n)
                (try have c12n2 := eq_false (Nat.not_lt.2 c12n)); clear zl0 zl1 zl2 zl3 zl4
                obtain rfl := Option.some.inj H
                go_enter Try.func22, Try.ntmps22
                try go_wp2_with (first | ((with_reducible refine gate_dst (N := 3) rfl ?_); refine box_event ?hg (N := 3) ?hd (cs := #[.int .i64 a1_0, .int .i64 a1_1, .int .i64 a1_2]) (t := 25) ?hr ?_; (case hd => rfl); (case hg => rfl); (case hr => first | (go_simp; done) | (go_simp; rfl)); intro gb129 hg w13 hbox hb; have n0_ := Aside0.mk (below_step (by repeat (first | (with_reducible first | exact HB.out | apply below_alloc | apply pw_below_drewN | apply below_drew1) | exact HB.out)) hb); have n1_ := Aside0.mk (hbox); have n2_ := Aside0.mk ((by rw [hg]; exact (below_size (by repeat (first | (with_reducible first | exact HB.out | apply below_alloc | apply pw_below_drewN | apply below_drew1) | exact HB.out))) : w.heap.size ≤ gb129)); have n3_ := Aside0.mk ((by rw [hg]; exact (below_size (by repeat (first | (with_reducible first | exact HB.out | apply below_alloc | apply pw_below_drewN | apply below_drew1) | exact HB.out))) : w.heap.size ≤ gb129)); clear HB; have HB := n0_; have BK129 := n1_; have GW129 := n2_; have GE129 := n3_; clear n0_ n1_ n2_ n3_ hb hbox hg; have hcz14_0 : w13.cell? ⟨gb129, 0, none⟩ = some (.int .i64 a1_0) := (blk_cell BK129.out 0).trans rfl; have hcz14_1 : w13.cell? ⟨gb129, 1, none⟩ = some (.int .i64 a1_1) := (blk_cell BK129.out 1).trans rfl; have hcz14_2 : w13.cell? ⟨gb129, 2, none⟩ = some (.int .i64 a1_2) := (blk_cell BK129.out 2).trans rfl; have hfz14_0 := blk_frozen BK129.out 0; have hfz14_1 := blk_frozen BK129.out 1; have hfz14_2 := blk_frozen BK129.out 2) | ((with_reducible refine gate_callee (f := 19) rfl ?_); refine goesL_ (some 7) rfl rfl Try.func19 (by kernel_rfl) rfl #[.int .i64 a0, .agg #[.int .i64 a1_0, .int .i64 a1_1, .int .i64 a1_2]] rfl (by (try simp only [List.map_toArray, List.map_cons, List.map_nil]); first | done | rfl | (simp only [List.length_drop, List.length_take]; rfl)) ?_; (with_reducible refine (spec_SayOk.calls a0 a1_0 a1_1 a1_2 true _ A3.out).mono ?_); rintro e w15 ⟨rfl, hb⟩; refine ⟨_, rfl, ?_⟩; have n0_ := Aside0.mk (blk_below (g := gb129) (o := .cells #[.int .i64 a1_0, .int .i64 a1_1, .int .i64 a1_2] 25 (0, 0)) (by (with_reducible repeat (first | refine blk_drewN ?_ _ | refine blk_drew ?_ | refine blk_alloc ?_ _)); exact BK129.out) hb); have n1_ := Aside0.mk (below_step (by repeat (first | (with_reducible first | exact HB.out | apply below_alloc | apply pw_below_drewN | apply below_drew1 | refine below_set ?_ GE129.out) | exact HB.out)) hb); clear BK129 HB; have BK129 := n0_; have HB := n1_; clear n0_ n1_; (try clear hb); (try clear hb2); (try clear hk); (try clear hi)))
                have pi134 : (0 ≤ (a1_0 : Int)) = True := eq_true (of_decide_eq_true (by first | (with_reducible assumption) | assumption))
                have qi134 : (a1_0 < (y131.length : Int)) = True := eq_true (of_decide_eq_true (by first | (with_reducible assumption) | assumption)); have n0_ := Aside0.mk (blk_drew BK129.out); have n1_ := Aside0.mk (below_drew1 HB.out); clear BK129 HB; have BK129 := n0_; have HB := n1_; clear n0_ n1_
                refine start_ (n := 16) (S := fun w' => True) (ds := []) #[false, false, false, false, false, false, false, false, false, false, false, false, false, false, false, false] (by kernel_rfl) rfl rfl trivial (fun hHeld => ?_); refine with_tabW spec_SayText.tab3 spec_SayText.bits3 (fun HT_ HW_ => ?_)
                generalize w15.drew = w16 at BK129 HB hHeld ⊢
                refine pure_ (i := 1) (N := some 10) (v := ?_) (a' := ?_) #[false, true, false, false, false, false, false, false, false, false, false, false, false, false, false, false] rfl rfl (any_of HT_.out (by kernel_rfl)) (fun _ _ _ h => h) (Or.inl ⟨by rfl, ?_⟩) ?_ ?_; rotate_left
                · intro w'
                  go_simp
                  with_reducible rfl
                rotate_left
                · simp only [Act.put, List.setIfInBounds_toArray, List.set_cons_zero, List.set_cons_succ, i64_w, i32_w]
                  rfl
                refine pure_ (i := 6) (N := some 15) (v := ?_) (a' := ?_) #[false, true, false, false, false, false, true, false, false, false, false, false, false, false, false, false] rfl rfl (any_of HT_.out (by kernel_rfl)) (fun _ _ _ h => h) (Or.inl ⟨by rfl, ?_⟩) ?_ ?_; rotate_left
                · intro w'
                  go_simp
                  with_reducible rfl
                rotate_left
                · simp only [Act.put, List.setIfInBounds_toArray, List.set_cons_zero, List.set_cons_succ, i64_w, i32_w]
                  rfl
                refine pure_ (i := 11) (N := some 20) (v := ?_) (a' := ?_) #[false, true, false, false, false, false, true, false, false, false, false, true, false, false, false, false] rfl rfl (any_of HT_.out (by kernel_rfl)) (fun _ _ _ h => h) (Or.inl ⟨by rfl, ?_⟩) ?_ ?_; rotate_left
                · intro w'
                  go_simp
                  with_reducible rfl
                rotate_left
                · simp only [Act.put, List.setIfInBounds_toArray, List.set_cons_zero, List.set_cons_succ, i64_w, i32_w]
                  rfl
                refine inv_at [0, 2, 3, 4, 5, 7, 8, 9, 10, 12, 13, 14, 15] (fun a0_ b a w' => ∃ (v132 : Value) (adz_v132 : Addr) (m3_ : Value), a = putSel a0_ b [(0, 9, v132), (2, 11, .int .i64 a1_0), (3, 12, m3_), (4, 13, .string (rdOf ByteArray.empty y131 a1_0)), (5, 14, .string ((rdOf ByteArray.empty y131 a1_0) ++ (⟨#[32]⟩ : ByteArray))), (7, 16, .int .i64 a1_1), (8, 17, .string t135), (9, 18, .string (((rdOf ByteArray.empty y131 a1_0) ++ (⟨#[32]⟩ : ByteArray)) ++ t135)), (10, 19, .string ((((rdOf ByteArray.empty y131 a1_0) ++ (⟨#[32]⟩ : ByteArray)) ++ t135) ++ (⟨#[32, 97, 114, 101, 32]⟩ : ByteArray))), (12, 21, .int .i64 a1_2), (13, 22, .string t136), (14, 23, .string (((((rdOf ByteArray.empty y131 a1_0) ++ (⟨#[32]⟩ : ByteArray)) ++ t135) ++ (⟨#[32, 97, 114, 101, 32]⟩ : ByteArray)) ++ t136)), (15, 4, .string (((((rdOf ByteArray.empty y131 a1_0) ++ (⟨#[32]⟩ : ByteArray)) ++ t135) ++ (⟨#[32, 97, 114, 101, 32]⟩ : ByteArray)) ++ t136))] ∧ (w'.heap[gb129]? = some (.cells #[.int .i64 a1_0, .int .i64 a1_1, .int .i64 a1_2] 25 (0, 0))) ∧ (Below w.heap.size w w') ∧ (b 0 = true → Kd.R Kd.string 9 w' w.heap.size (fun _ => True) v132 y131) ∧ (b 0 = true → ∃ c_, (v132 : Value) = .slice (some adz_v132) y131.length c_) ∧ (b 3 = true → (m3_ : Value) = .pointer (some (adz_v132.add (a1_0).toNat)))) HT_.out HW_.out (by kernel_rfl) (by kernel_rfl) ?_ ?_ ?_
                · exact ⟨.bool false, ⟨0, 0, none⟩, .bool false, by simp only [putSel, Bool.false_eq_true, if_false], BK129.out, HB.out, fun h_ => absurd h_ (by decide), fun h_ => absurd h_ (by decide), fun h_ => absurd h_ (by decide)⟩
                · skip; clear BK129 HB
                  refine steps_cons ?_ ?_
                  · rintro b a w' ⟨v132, adz_v132, m3_, ha, Q_BK129, Q_HB, Q_HO133, Q_HA_HO133, Q_X3_⟩ hb_ hon hoff
                    refine ⟨_, rfl, fun K hK => ?_⟩
                    replace ha := Aside0.mk ha
                    have BK129 := Aside0.mk Q_BK129
                    have HB := Aside0.mk Q_HB
                    refine Kd.R_lit_step Kd.string _ 9 ?hg (N := 9) ?hd (xs := ([(⟨#[97, 108, 108]⟩ : ByteArray), (⟨#[115, 111, 109, 101]⟩ : ByteArray)] : List ByteArray)) (inner := [.string (⟨#[97, 108, 108]⟩ : ByteArray), .string (⟨#[115, 111, 109, 101]⟩ : ByteArray)]) (ok := fun _ => True) (okp := fun _ => True) ?hr ?hp (fun _ hk => hk) trivial (Below.refl _ _) (Nat.le_refl _) (by simp) ?_; (case hd => rfl); (case hg => rfl); (case hr => first | (go_simp; done) | (go_simp; rfl)); (case hp => exact (Reps.one (show Kd.M Kd.string _ _ _ (⟨#[97, 108, 108]⟩ : ByteArray) [.string (⟨#[97, 108, 108]⟩ : ByteArray)] from rfl) (Reps.one (show Kd.M Kd.string _ _ _ (⟨#[115, 111, 109, 101]⟩ : ByteArray) [.string (⟨#[115, 111, 109, 101]⟩ : ByteArray)] from rfl) (Reps.none _ _)))); intro v132 w17 ho18 hb hg_ hnew_; clear hg_ hnew_
                    (first | rw [← Ny131.out] at ho18 | (simp only [Int.reduceToNat] at ho18; rw [← Ny131.out] at ho18)); have n0_ := Aside0.mk (Kd.R_lower ho18 (below_size (by repeat (first | (with_reducible first | exact HB.out | apply below_alloc | apply pw_below_drewN | apply below_drew1 | refine below_set ?_ GE129.out) | exact HB.out)))); have n1_ := Aside0.mk (blk_below (g := gb129) (o := .cells #[.int .i64 a1_0, .int .i64 a1_1, .int .i64 a1_2] 25 (0, 0)) (by (with_reducible repeat (first | refine blk_drewN ?_ _ | refine blk_drew ?_ | refine blk_alloc ?_ _)); exact BK129.out) hb); have n2_ := Aside0.mk (below_step (by repeat (first | (with_reducible first | exact HB.out | apply below_alloc | apply pw_below_drewN | apply below_drew1 | refine below_set ?_ GE129.out) | exact HB.out)) hb); clear BK129 HB; have HO133 := n0_; have BK129 := n1_; have HB := n2_; clear n0_ n1_ n2_ hb ho18
                    obtain ⟨Ao19, co19, eo19⟩ := Kd.R_slice HO133.out; subst eo19
                    obtain ⟨ado19, fo19, _⟩ := Kd.at_string (Kd.R_reads' HO133.out).2.2 0 (by decide) (by rw [Ny131.out]; simp)
                    cases fo19
                    refine hK.out _ _ ⟨.slice (some ado19) y131.length co19, ado19, m3_, (by rw [ha.out]; exact putSel_upk 0 hb_ rfl rfl rfl), (by (with_reducible repeat (first | refine blk_drewN ?_ _ | refine blk_drew ?_ | refine blk_alloc ?_ _)); exact BK129.out), (by repeat (first | (with_reducible first | exact HB.out | apply below_alloc | apply pw_below_drewN | apply below_drew1 | refine below_set ?_ GE129.out) | exact HB.out)), fun _ => (by (with_reducible repeat (first | apply Kd.R_alloc | apply Kd.R_drewN | apply Kd.R_drew)); exact HO133.out), fun _ => ⟨_, rfl⟩, fun h0_ => absurd ((hoff 3 (by kernel_rfl)).symm.trans h0_) (by decide)⟩
                  refine steps_cons ?_ ?_
                  · rintro b a w' ⟨v132, adz_v132, m3_, ha, Q_BK129, Q_HB, Q_HO133, Q_HA_HO133, Q_X3_⟩ hb_ hon hoff
                    refine ⟨_, rfl, fun K hK => ?_⟩
                    have e10 : a.tmps[10]? = some (.pointer (some ⟨gb129, 0, none⟩)) := by rw [ha]; exact (putSel_off rfl).trans rfl
                    replace ha := Aside0.mk ha
                    have BK129 := Aside0.mk Q_BK129
                    have HB := Aside0.mk Q_HB
                    have hc0_ : w'.cell? ⟨gb129, 0, none⟩ = some (.int .i64 a1_0) := (blk_cell BK129.out 0).trans rfl
                    have hc1_ : w'.cell? ⟨gb129, 1, none⟩ = some (.int .i64 a1_1) := (blk_cell BK129.out 1).trans rfl
                    have hc2_ : w'.cell? ⟨gb129, 2, none⟩ = some (.int .i64 a1_2) := (blk_cell BK129.out 2).trans rfl
                    refine value_ (w1 := w') (v := .int .i64 a1_0) (by rfl) rfl ?_ ?_
                    · go_simp
                      (try simp only [i64_w])
                      try rfl
                      all_goals (have zl0 : (⟨#[115, 111, 109, 101]⟩ : ByteArray).size = 4 := rfl; have zl1 : (⟨#[32, 97, 114, 101, 32]⟩ : ByteArray).size = 5 := rfl; have zl2 : (⟨#[32]⟩ : ByteArray).size = 1 := rfl; have zl3 : (⟨#[97, 108, 108]⟩ : ByteArray).size = 3 := rfl; have zl4 : (⟨#[]⟩ : ByteArray).size = 0 := rfl; (try simp only [ByteArray.size_append, ByteArray.size_extract, zl0, zl1, zl2, zl3, zl4] at c7); (try simp only [ByteArray.size_append, ByteArray.size_extract, zl0, zl1, zl2, zl3, zl4] at c9); (try simp only [ByteArray.size_append, ByteArray.size_extract, zl0, zl1, zl2, zl3, zl4] at c10); (try simp only [ByteArray.size_append, ByteArray.size_extract, zl0, zl1, zl2, zl3, zl4] at c12); (try simp only [ByteArray.size_append, ByteArray.size_extract, zl0, zl1, zl2, zl3, zl4]); omega)
                    refine hK.out _ _ ⟨v132, adz_v132, m3_, (by rw [ha.out]; exact putSel_upk 1 hb_ rfl rfl rfl), Q_BK129, Q_HB, Q_HO133, Q_HA_HO133, fun h0_ => absurd ((hoff 3 (by kernel_rfl)).symm.trans h0_) (by decide)⟩
                  refine steps_cons ?_ ?_
                  · rintro b a w' ⟨v132, adz_v132, m3_, ha, Q_BK129, Q_HB, Q_HO133, Q_HA_HO133, Q_X3_⟩ hb_ hon hoff
                    refine ⟨_, rfl, fun K hK => ?_⟩
                    have e9 : a.tmps[9]? = some (v132) := by rw [ha]; exact putSel_on (e := (0, 9, v132)) 0 rfl rfl (hon 0 (by kernel_rfl)) rfl
                    have e11 : a.tmps[11]? = some (.int .i64 a1_0) := by rw [ha]; exact putSel_on (e := (2, 11, .int .i64 a1_0)) 1 rfl rfl (hon 2 (by kernel_rfl)) rfl
                    replace ha := Aside0.mk ha
                    have BK129 := Aside0.mk Q_BK129
                    have HB := Aside0.mk Q_HB; have HO133 := Aside0.mk (Q_HO133 (hon 0 (by kernel_rfl))); have HA_HO133 := Aside0.mk (Q_HA_HO133 (hon 0 (by kernel_rfl)))
                    obtain ⟨c_, hv_⟩ := HA_HO133.out
                    rw [hv_] at e9
                    refine value_ (w1 := w') (v := .pointer (some (adz_v132.add (a1_0).toNat))) (by rfl) rfl ?_ ?_
                    · go_simp
                      (try simp only [i64_w])
                      try rfl
                      all_goals (have zl0 : (⟨#[115, 111, 109, 101]⟩ : ByteArray).size = 4 := rfl; have zl1 : (⟨#[32, 97, 114, 101, 32]⟩ : ByteArray).size = 5 := rfl; have zl2 : (⟨#[32]⟩ : ByteArray).size = 1 := rfl; have zl3 : (⟨#[97, 108, 108]⟩ : ByteArray).size = 3 := rfl; have zl4 : (⟨#[]⟩ : ByteArray).size = 0 := rfl; (try simp only [ByteArray.size_append, ByteArray.size_extract, zl0, zl1, zl2, zl3, zl4] at c7); (try simp only [ByteArray.size_append, ByteArray.size_extract, zl0, zl1, zl2, zl3, zl4] at c9); (try simp only [ByteArray.size_append, ByteArray.size_extract, zl0, zl1, zl2, zl3, zl4] at c10); (try simp only [ByteArray.size_append, ByteArray.size_extract, zl0, zl1, zl2, zl3, zl4] at c12); (try simp only [ByteArray.size_append, ByteArray.size_extract, zl0, zl1, zl2, zl3, zl4]); omega)
                    refine hK.out _ _ ⟨v132, adz_v132, (.pointer (some (adz_v132.add (a1_0).toNat))), (by rw [ha.out]; exact putSel_upk 2 hb_ rfl rfl rfl), Q_BK129, Q_HB, Q_HO133, Q_HA_HO133, fun _ => rfl⟩
                  refine steps_cons ?_ ?_
                  · rintro b a w' ⟨v132, adz_v132, m3_, ha, Q_BK129, Q_HB, Q_HO133, Q_HA_HO133, Q_X3_⟩ hb_ hon hoff
                    refine ⟨_, rfl, fun K hK => ?_⟩
                    have e12 : a.tmps[12]? = some (m3_) := by rw [ha]; exact putSel_on (e := (3, 12, m3_)) 2 rfl rfl (hon 3 (by kernel_rfl)) rfl
                    rw [Q_X3_ (hon 3 (by kernel_rfl))] at e12
                    replace ha := Aside0.mk ha
                    have BK129 := Aside0.mk Q_BK129
                    have HB := Aside0.mk Q_HB; have HO133 := Aside0.mk (Q_HO133 (hon 0 (by kernel_rfl))); have HA_HO133 := Aside0.mk (Q_HA_HO133 (hon 0 (by kernel_rfl)))
                    obtain ⟨c_, hv_⟩ := HA_HO133.out; have hF_ := HO133.out
                    rw [hv_] at hF_
                    obtain ⟨ad_, ea_, hx_⟩ := Kd.at_string (Kd.R_reads' hF_).2.2 a1_0 (of_eq_true pi134) (of_eq_true qi134)
                    cases ea_
                    refine value_ (w1 := w') (v := .string (rdOf ByteArray.empty y131 a1_0)) (by rfl) rfl ?_ ?_
                    · go_simp
                      (try simp only [i64_w])
                      try rfl
                      all_goals (have zl0 : (⟨#[115, 111, 109, 101]⟩ : ByteArray).size = 4 := rfl; have zl1 : (⟨#[32, 97, 114, 101, 32]⟩ : ByteArray).size = 5 := rfl; have zl2 : (⟨#[32]⟩ : ByteArray).size = 1 := rfl; have zl3 : (⟨#[97, 108, 108]⟩ : ByteArray).size = 3 := rfl; have zl4 : (⟨#[]⟩ : ByteArray).size = 0 := rfl; (try simp only [ByteArray.size_append, ByteArray.size_extract, zl0, zl1, zl2, zl3, zl4] at c7); (try simp only [ByteArray.size_append, ByteArray.size_extract, zl0, zl1, zl2, zl3, zl4] at c9); (try simp only [ByteArray.size_append, ByteArray.size_extract, zl0, zl1, zl2, zl3, zl4] at c10); (try simp only [ByteArray.size_append, ByteArray.size_extract, zl0, zl1, zl2, zl3, zl4] at c12); (try simp only [ByteArray.size_append, ByteArray.size_extract, zl0, zl1, zl2, zl3, zl4]); omega)
                    refine hK.out _ _ ⟨v132, adz_v132, m3_, (by rw [ha.out]; exact putSel_upk 3 hb_ rfl rfl rfl), Q_BK129, Q_HB, Q_HO133, Q_HA_HO133, Q_X3_⟩
                  refine steps_cons ?_ ?_
                  · rintro b a w' ⟨v132, adz_v132, m3_, ha, Q_BK129, Q_HB, Q_HO133, Q_HA_HO133, Q_X3_⟩ hb_ hon hoff
                    refine ⟨_, rfl, fun K hK => ?_⟩
                    have e13 : a.tmps[13]? = some (.string (rdOf ByteArray.empty y131 a1_0)) := by rw [ha]; exact putSel_on (e := (4, 13, .string (rdOf ByteArray.empty y131 a1_0))) 3 rfl rfl (hon 4 (by kernel_rfl)) rfl
                    replace ha := Aside0.mk ha
                    have BK129 := Aside0.mk Q_BK129
                    have HB := Aside0.mk Q_HB; have HO133 := Aside0.mk (Q_HO133 (hon 0 (by kernel_rfl))); have HA_HO133 := Aside0.mk (Q_HA_HO133 (hon 0 (by kernel_rfl)))
                    refine value_ (w1 := w') (v := .string ((rdOf ByteArray.empty y131 a1_0) ++ (⟨#[32]⟩ : ByteArray))) (by rfl) rfl ?_ ?_
                    · go_simp
                      (try simp only [i64_w])
                      try rfl
                      all_goals (have zl0 : (⟨#[115, 111, 109, 101]⟩ : ByteArray).size = 4 := rfl; have zl1 : (⟨#[32, 97, 114, 101, 32]⟩ : ByteArray).size = 5 := rfl; have zl2 : (⟨#[32]⟩ : ByteArray).size = 1 := rfl; have zl3 : (⟨#[97, 108, 108]⟩ : ByteArray).size = 3 := rfl; have zl4 : (⟨#[]⟩ : ByteArray).size = 0 := rfl; (try simp only [ByteArray.size_append, ByteArray.size_extract, zl0, zl1, zl2, zl3, zl4] at c7); (try simp only [ByteArray.size_append, ByteArray.size_extract, zl0, zl1, zl2, zl3, zl4] at c9); (try simp only [ByteArray.size_append, ByteArray.size_extract, zl0, zl1, zl2, zl3, zl4] at c10); (try simp only [ByteArray.size_append, ByteArray.size_extract, zl0, zl1, zl2, zl3, zl4] at c12); (try simp only [ByteArray.size_append, ByteArray.size_extract, zl0, zl1, zl2, zl3, zl4]); omega)
                    refine hK.out _ _ ⟨v132, adz_v132, m3_, (by rw [ha.out]; exact putSel_upk 4 hb_ rfl rfl rfl), Q_BK129, Q_HB, Q_HO133, Q_HA_HO133, Q_X3_⟩
                  refine steps_cons ?_ ?_
                  · rintro b a w' ⟨v132, adz_v132, m3_, ha, Q_BK129, Q_HB, Q_HO133, Q_HA_HO133, Q_X3_⟩ hb_ hon hoff
                    refine ⟨_, rfl, fun K hK => ?_⟩
                    have e15 : a.tmps[15]? = some (.pointer (some ⟨gb129, 1, none⟩)) := by rw [ha]; exact (putSel_off rfl).trans rfl
                    replace ha := Aside0.mk ha
                    have BK129 := Aside0.mk Q_BK129
                    have HB := Aside0.mk Q_HB
                    have hc0_ : w'.cell? ⟨gb129, 0, none⟩ = some (.int .i64 a1_0) := (blk_cell BK129.out 0).trans rfl
                    have hc1_ : w'.cell? ⟨gb129, 1, none⟩ = some (.int .i64 a1_1) := (blk_cell BK129.out 1).trans rfl
                    have hc2_ : w'.cell? ⟨gb129, 2, none⟩ = some (.int .i64 a1_2) := (blk_cell BK129.out 2).trans rfl
                    refine value_ (w1 := w') (v := .int .i64 a1_1) (by rfl) rfl ?_ ?_
                    · go_simp
                      (try simp only [i64_w])
                      try rfl
                      all_goals (have zl0 : (⟨#[115, 111, 109, 101]⟩ : ByteArray).size = 4 := rfl; have zl1 : (⟨#[32, 97, 114, 101, 32]⟩ : ByteArray).size = 5 := rfl; have zl2 : (⟨#[32]⟩ : ByteArray).size = 1 := rfl; have zl3 : (⟨#[97, 108, 108]⟩ : ByteArray).size = 3 := rfl; have zl4 : (⟨#[]⟩ : ByteArray).size = 0 := rfl; (try simp only [ByteArray.size_append, ByteArray.size_extract, zl0, zl1, zl2, zl3, zl4] at c7); (try simp only [ByteArray.size_append, ByteArray.size_extract, zl0, zl1, zl2, zl3, zl4] at c9); (try simp only [ByteArray.size_append, ByteArray.size_extract, zl0, zl1, zl2, zl3, zl4] at c10); (try simp only [ByteArray.size_append, ByteArray.size_extract, zl0, zl1, zl2, zl3, zl4] at c12); (try simp only [ByteArray.size_append, ByteArray.size_extract, zl0, zl1, zl2, zl3, zl4]); omega)
                    refine hK.out _ _ ⟨v132, adz_v132, m3_, (by rw [ha.out]; exact putSel_upk 5 hb_ rfl rfl rfl), Q_BK129, Q_HB, Q_HO133, Q_HA_HO133, Q_X3_⟩
                  refine steps_cons ?_ ?_
                  · rintro b a w' ⟨v132, adz_v132, m3_, ha, Q_BK129, Q_HB, Q_HO133, Q_HA_HO133, Q_X3_⟩ hb_ hon hoff
                    refine ⟨_, rfl, fun K hK => ?_⟩
                    have e16 : a.tmps[16]? = some (.int .i64 a1_1) := by rw [ha]; exact putSel_on (e := (7, 16, .int .i64 a1_1)) 5 rfl rfl (hon 7 (by kernel_rfl)) rfl
                    replace ha := Aside0.mk ha
                    have BK129 := Aside0.mk Q_BK129
                    have HB := Aside0.mk Q_HB
                    refine goes_ Try.func51 (by kernel_rfl) rfl #[.int .i64 a1_1] (by rfl) rfl rfl (by first | (simp only [List.map_toArray, List.map_cons, List.map_nil, Act.eval, Array.getD_eq_getD_getElem?, Option.getD_some, e16]; done) | (simp only [List.map_toArray, List.map_cons, List.map_nil, Act.eval, Array.getD_eq_getD_getElem?, Option.getD_some, e16]; rfl)) ?_
                    with_reducible refine (spec_l5Term.calls a1_1 t135 _ A8.out).mono ?_
                    rintro e w17 ⟨rfl, hb⟩
                    refine ⟨_, rfl, ?_⟩; have n0_ := Aside0.mk (blk_below (g := gb129) (o := .cells #[.int .i64 a1_0, .int .i64 a1_1, .int .i64 a1_2] 25 (0, 0)) (by (with_reducible repeat (first | refine blk_drewN ?_ _ | refine blk_drew ?_ | refine blk_alloc ?_ _)); exact BK129.out) hb); have n1_ := Aside0.mk (below_step (by repeat (first | (with_reducible first | exact HB.out | apply below_alloc | apply pw_below_drewN | apply below_drew1 | refine below_set ?_ GE129.out) | exact HB.out)) hb)
                    have z_HO133 := fun (h0_ : b 0 = true) => (show Kd.R Kd.string 9 w17 w.heap.size (fun _ => True) v132 y131 from by first | exact (Kd.R_below (by (with_reducible repeat (first | apply Kd.R_alloc | apply Kd.R_drewN | apply Kd.R_drew)); exact (Q_HO133 h0_)) hb) | exact Kd.R_mono (Kd.R_below (by (with_reducible repeat (first | apply Kd.R_alloc | apply Kd.R_drewN | apply Kd.R_drew)); exact (Q_HO133 h0_)) hb) (fun _ h_ => by first | trivial | exact h_ | exact h_.1))
                    clear BK129 HB; have BK129 := n0_; have HB := n1_; clear n0_ n1_
                    (try clear hb)
                    (try clear hb2)
                    (try clear hk)
                    (try clear hi)
                    refine hK.out _ _ ⟨v132, adz_v132, m3_, (by rw [ha.out]; exact putSel_upk 6 hb_ rfl rfl rfl), (by (with_reducible repeat (first | refine blk_drewN ?_ _ | refine blk_drew ?_ | refine blk_alloc ?_ _)); exact BK129.out), (by repeat (first | (with_reducible first | exact HB.out | apply below_alloc | apply pw_below_drewN | apply below_drew1 | refine below_set ?_ GE129.out) | exact HB.out)), z_HO133, Q_HA_HO133, Q_X3_⟩
                  refine steps_cons ?_ ?_
                  · rintro b a w' ⟨v132, adz_v132, m3_, ha, Q_BK129, Q_HB, Q_HO133, Q_HA_HO133, Q_X3_⟩ hb_ hon hoff
                    refine ⟨_, rfl, fun K hK => ?_⟩
                    have e14 : a.tmps[14]? = some (.string ((rdOf ByteArray.empty y131 a1_0) ++ (⟨#[32]⟩ : ByteArray))) := by rw [ha]; exact putSel_on (e := (5, 14, .string ((rdOf ByteArray.empty y131 a1_0) ++ (⟨#[32]⟩ : ByteArray)))) 4 rfl rfl (hon 5 (by kernel_rfl)) rfl
                    have e17 : a.tmps[17]? = some (.string t135) := by rw [ha]; exact putSel_on (e := (8, 17, .string t135)) 6 rfl rfl (hon 8 (by kernel_rfl)) rfl
                    replace ha := Aside0.mk ha
                    have BK129 := Aside0.mk Q_BK129
                    have HB := Aside0.mk Q_HB; have HO133 := Aside0.mk (Q_HO133 (hon 0 (by kernel_rfl))); have HA_HO133 := Aside0.mk (Q_HA_HO133 (hon 0 (by kernel_rfl)))
                    refine value_ (w1 := w') (v := .string (((rdOf ByteArray.empty y131 a1_0) ++ (⟨#[32]⟩ : ByteArray)) ++ t135)) (by rfl) rfl ?_ ?_
                    · go_simp
                      (try simp only [i64_w])
                      try rfl
                      all_goals (have zl0 : (⟨#[115, 111, 109, 101]⟩ : ByteArray).size = 4 := rfl; have zl1 : (⟨#[32, 97, 114, 101, 32]⟩ : ByteArray).size = 5 := rfl; have zl2 : (⟨#[32]⟩ : ByteArray).size = 1 := rfl; have zl3 : (⟨#[97, 108, 108]⟩ : ByteArray).size = 3 := rfl; have zl4 : (⟨#[]⟩ : ByteArray).size = 0 := rfl; (try simp only [ByteArray.size_append, ByteArray.size_extract, zl0, zl1, zl2, zl3, zl4] at c7); (try simp only [ByteArray.size_append, ByteArray.size_extract, zl0, zl1, zl2, zl3, zl4] at c9); (try simp only [ByteArray.size_append, ByteArray.size_extract, zl0, zl1, zl2, zl3, zl4] at c10); (try simp only [ByteArray.size_append, ByteArray.size_extract, zl0, zl1, zl2, zl3, zl4] at c12); (try simp only [ByteArray.size_append, ByteArray.size_extract, zl0, zl1, zl2, zl3, zl4]); omega)
                    refine hK.out _ _ ⟨v132, adz_v132, m3_, (by rw [ha.out]; exact putSel_upk 7 hb_ rfl rfl rfl), Q_BK129, Q_HB, Q_HO133, Q_HA_HO133, Q_X3_⟩
                  refine steps_cons ?_ ?_
                  · rintro b a w' ⟨v132, adz_v132, m3_, ha, Q_BK129, Q_HB, Q_HO133, Q_HA_HO133, Q_X3_⟩ hb_ hon hoff
                    refine ⟨_, rfl, fun K hK => ?_⟩
                    have e18 : a.tmps[18]? = some (.string (((rdOf ByteArray.empty y131 a1_0) ++ (⟨#[32]⟩ : ByteArray)) ++ t135)) := by rw [ha]; exact putSel_on (e := (9, 18, .string (((rdOf ByteArray.empty y131 a1_0) ++ (⟨#[32]⟩ : ByteArray)) ++ t135))) 7 rfl rfl (hon 9 (by kernel_rfl)) rfl
                    replace ha := Aside0.mk ha
                    have BK129 := Aside0.mk Q_BK129
                    have HB := Aside0.mk Q_HB; have HO133 := Aside0.mk (Q_HO133 (hon 0 (by kernel_rfl))); have HA_HO133 := Aside0.mk (Q_HA_HO133 (hon 0 (by kernel_rfl)))
                    refine value_ (w1 := w') (v := .string ((((rdOf ByteArray.empty y131 a1_0) ++ (⟨#[32]⟩ : ByteArray)) ++ t135) ++ (⟨#[32, 97, 114, 101, 32]⟩ : ByteArray))) (by rfl) rfl ?_ ?_
                    · go_simp
                      (try simp only [i64_w])
                      try rfl
                      all_goals (have zl0 : (⟨#[115, 111, 109, 101]⟩ : ByteArray).size = 4 := rfl; have zl1 : (⟨#[32, 97, 114, 101, 32]⟩ : ByteArray).size = 5 := rfl; have zl2 : (⟨#[32]⟩ : ByteArray).size = 1 := rfl; have zl3 : (⟨#[97, 108, 108]⟩ : ByteArray).size = 3 := rfl; have zl4 : (⟨#[]⟩ : ByteArray).size = 0 := rfl; (try simp only [ByteArray.size_append, ByteArray.size_extract, zl0, zl1, zl2, zl3, zl4] at c7); (try simp only [ByteArray.size_append, ByteArray.size_extract, zl0, zl1, zl2, zl3, zl4] at c9); (try simp only [ByteArray.size_append, ByteArray.size_extract, zl0, zl1, zl2, zl3, zl4] at c10); (try simp only [ByteArray.size_append, ByteArray.size_extract, zl0, zl1, zl2, zl3, zl4] at c12); (try simp only [ByteArray.size_append, ByteArray.size_extract, zl0, zl1, zl2, zl3, zl4]); omega)
                    refine hK.out _ _ ⟨v132, adz_v132, m3_, (by rw [ha.out]; exact putSel_upk 8 hb_ rfl rfl rfl), Q_BK129, Q_HB, Q_HO133, Q_HA_HO133, Q_X3_⟩
                  refine steps_cons ?_ ?_
                  · rintro b a w' ⟨v132, adz_v132, m3_, ha, Q_BK129, Q_HB, Q_HO133, Q_HA_HO133, Q_X3_⟩ hb_ hon hoff
                    refine ⟨_, rfl, fun K hK => ?_⟩
                    have e20 : a.tmps[20]? = some (.pointer (some ⟨gb129, 2, none⟩)) := by rw [ha]; exact (putSel_off rfl).trans rfl
                    replace ha := Aside0.mk ha
                    have BK129 := Aside0.mk Q_BK129
                    have HB := Aside0.mk Q_HB
                    have hc0_ : w'.cell? ⟨gb129, 0, none⟩ = some (.int .i64 a1_0) := (blk_cell BK129.out 0).trans rfl
                    have hc1_ : w'.cell? ⟨gb129, 1, none⟩ = some (.int .i64 a1_1) := (blk_cell BK129.out 1).trans rfl
                    have hc2_ : w'.cell? ⟨gb129, 2, none⟩ = some (.int .i64 a1_2) := (blk_cell BK129.out 2).trans rfl
                    refine value_ (w1 := w') (v := .int .i64 a1_2) (by rfl) rfl ?_ ?_
                    · go_simp
                      (try simp only [i64_w])
                      try rfl
                      all_goals (have zl0 : (⟨#[115, 111, 109, 101]⟩ : ByteArray).size = 4 := rfl; have zl1 : (⟨#[32, 97, 114, 101, 32]⟩ : ByteArray).size = 5 := rfl; have zl2 : (⟨#[32]⟩ : ByteArray).size = 1 := rfl; have zl3 : (⟨#[97, 108, 108]⟩ : ByteArray).size = 3 := rfl; have zl4 : (⟨#[]⟩ : ByteArray).size = 0 := rfl; (try simp only [ByteArray.size_append, ByteArray.size_extract, zl0, zl1, zl2, zl3, zl4] at c7); (try simp only [ByteArray.size_append, ByteArray.size_extract, zl0, zl1, zl2, zl3, zl4] at c9); (try simp only [ByteArray.size_append, ByteArray.size_extract, zl0, zl1, zl2, zl3, zl4] at c10); (try simp only [ByteArray.size_append, ByteArray.size_extract, zl0, zl1, zl2, zl3, zl4] at c12); (try simp only [ByteArray.size_append, ByteArray.size_extract, zl0, zl1, zl2, zl3, zl4]); omega)
                    refine hK.out _ _ ⟨v132, adz_v132, m3_, (by rw [ha.out]; exact putSel_upk 9 hb_ rfl rfl rfl), Q_BK129, Q_HB, Q_HO133, Q_HA_HO133, Q_X3_⟩
                  refine steps_cons ?_ ?_
                  · rintro b a w' ⟨v132, adz_v132, m3_, ha, Q_BK129, Q_HB, Q_HO133, Q_HA_HO133, Q_X3_⟩ hb_ hon hoff
                    refine ⟨_, rfl, fun K hK => ?_⟩
                    have e21 : a.tmps[21]? = some (.int .i64 a1_2) := by rw [ha]; exact putSel_on (e := (12, 21, .int .i64 a1_2)) 9 rfl rfl (hon 12 (by kernel_rfl)) rfl
                    replace ha := Aside0.mk ha
                    have BK129 := Aside0.mk Q_BK129
                    have HB := Aside0.mk Q_HB
                    refine goes_ Try.func51 (by kernel_rfl) rfl #[.int .i64 a1_2] (by rfl) rfl rfl (by first | (simp only [List.map_toArray, List.map_cons, List.map_nil, Act.eval, Array.getD_eq_getD_getElem?, Option.getD_some, e21]; done) | (simp only [List.map_toArray, List.map_cons, List.map_nil, Act.eval, Array.getD_eq_getD_getElem?, Option.getD_some, e21]; rfl)) ?_
                    with_reducible refine (spec_l5Term.calls a1_2 t136 _ A11.out).mono ?_
                    rintro e w19 ⟨rfl, hb⟩
                    refine ⟨_, rfl, ?_⟩; have n0_ := Aside0.mk (blk_below (g := gb129) (o := .cells #[.int .i64 a1_0, .int .i64 a1_1, .int .i64 a1_2] 25 (0, 0)) (by (with_reducible repeat (first | refine blk_drewN ?_ _ | refine blk_drew ?_ | refine blk_alloc ?_ _)); exact BK129.out) hb); have n1_ := Aside0.mk (below_step (by repeat (first | (with_reducible first | exact HB.out | apply below_alloc | apply pw_below_drewN | apply below_drew1 | refine below_set ?_ GE129.out) | exact HB.out)) hb)
                    have z_HO133 := fun (h0_ : b 0 = true) => (show Kd.R Kd.string 9 w19 w.heap.size (fun _ => True) v132 y131 from by first | exact (Kd.R_below (by (with_reducible repeat (first | apply Kd.R_alloc | apply Kd.R_drewN | apply Kd.R_drew)); exact (Q_HO133 h0_)) hb) | exact Kd.R_mono (Kd.R_below (by (with_reducible repeat (first | apply Kd.R_alloc | apply Kd.R_drewN | apply Kd.R_drew)); exact (Q_HO133 h0_)) hb) (fun _ h_ => by first | trivial | exact h_ | exact h_.1))
                    clear BK129 HB; have BK129 := n0_; have HB := n1_; clear n0_ n1_
                    (try clear hb)
                    (try clear hb2)
                    (try clear hk)
                    (try clear hi)
                    refine hK.out _ _ ⟨v132, adz_v132, m3_, (by rw [ha.out]; exact putSel_upk 10 hb_ rfl rfl rfl), (by (with_reducible repeat (first | refine blk_drewN ?_ _ | refine blk_drew ?_ | refine blk_alloc ?_ _)); exact BK129.out), (by repeat (first | (with_reducible first | exact HB.out | apply below_alloc | apply pw_below_drewN | apply below_drew1 | refine below_set ?_ GE129.out) | exact HB.out)), z_HO133, Q_HA_HO133, Q_X3_⟩
                  refine steps_cons ?_ ?_
                  · rintro b a w' ⟨v132, adz_v132, m3_, ha, Q_BK129, Q_HB, Q_HO133, Q_HA_HO133, Q_X3_⟩ hb_ hon hoff
                    refine ⟨_, rfl, fun K hK => ?_⟩
                    have e19 : a.tmps[19]? = some (.string ((((rdOf ByteArray.empty y131 a1_0) ++ (⟨#[32]⟩ : ByteArray)) ++ t135) ++ (⟨#[32, 97, 114, 101, 32]⟩ : ByteArray))) := by rw [ha]; exact putSel_on (e := (10, 19, .string ((((rdOf ByteArray.empty y131 a1_0) ++ (⟨#[32]⟩ : ByteArray)) ++ t135) ++ (⟨#[32, 97, 114, 101, 32]⟩ : ByteArray)))) 8 rfl rfl (hon 10 (by kernel_rfl)) rfl
                    have e22 : a.tmps[22]? = some (.string t136) := by rw [ha]; exact putSel_on (e := (13, 22, .string t136)) 10 rfl rfl (hon 13 (by kernel_rfl)) rfl
                    replace ha := Aside0.mk ha
                    have BK129 := Aside0.mk Q_BK129
                    have HB := Aside0.mk Q_HB; have HO133 := Aside0.mk (Q_HO133 (hon 0 (by kernel_rfl))); have HA_HO133 := Aside0.mk (Q_HA_HO133 (hon 0 (by kernel_rfl)))
                    refine value_ (w1 := w') (v := .string (((((rdOf ByteArray.empty y131 a1_0) ++ (⟨#[32]⟩ : ByteArray)) ++ t135) ++ (⟨#[32, 97, 114, 101, 32]⟩ : ByteArray)) ++ t136)) (by rfl) rfl ?_ ?_
                    · go_simp
                      (try simp only [i64_w])
                      try rfl
                      all_goals (have zl0 : (⟨#[115, 111, 109, 101]⟩ : ByteArray).size = 4 := rfl; have zl1 : (⟨#[32, 97, 114, 101, 32]⟩ : ByteArray).size = 5 := rfl; have zl2 : (⟨#[32]⟩ : ByteArray).size = 1 := rfl; have zl3 : (⟨#[97, 108, 108]⟩ : ByteArray).size = 3 := rfl; have zl4 : (⟨#[]⟩ : ByteArray).size = 0 := rfl; (try simp only [ByteArray.size_append, ByteArray.size_extract, zl0, zl1, zl2, zl3, zl4] at c7); (try simp only [ByteArray.size_append, ByteArray.size_extract, zl0, zl1, zl2, zl3, zl4] at c9); (try simp only [ByteArray.size_append, ByteArray.size_extract, zl0, zl1, zl2, zl3, zl4] at c10); (try simp only [ByteArray.size_append, ByteArray.size_extract, zl0, zl1, zl2, zl3, zl4] at c12); (try simp only [ByteArray.size_append, ByteArray.size_extract, zl0, zl1, zl2, zl3, zl4]); omega)
                    refine hK.out _ _ ⟨v132, adz_v132, m3_, (by rw [ha.out]; exact putSel_upk 11 hb_ rfl rfl rfl), Q_BK129, Q_HB, Q_HO133, Q_HA_HO133, Q_X3_⟩
                  refine steps_cons ?_ ?_
                  · rintro b a w' ⟨v132, adz_v132, m3_, ha, Q_BK129, Q_HB, Q_HO133, Q_HA_HO133, Q_X3_⟩ hb_ hon hoff
                    refine ⟨_, rfl, fun K hK => ?_⟩
                    have e23 : a.tmps[23]? = some (.string (((((rdOf ByteArray.empty y131 a1_0) ++ (⟨#[32]⟩ : ByteArray)) ++ t135) ++ (⟨#[32, 97, 114, 101, 32]⟩ : ByteArray)) ++ t136)) := by rw [ha]; exact putSel_on (e := (14, 23, .string (((((rdOf ByteArray.empty y131 a1_0) ++ (⟨#[32]⟩ : ByteArray)) ++ t135) ++ (⟨#[32, 97, 114, 101, 32]⟩ : ByteArray)) ++ t136))) 11 rfl rfl (hon 14 (by kernel_rfl)) rfl
                    replace ha := Aside0.mk ha
                    have BK129 := Aside0.mk Q_BK129
                    have HB := Aside0.mk Q_HB; have HO133 := Aside0.mk (Q_HO133 (hon 0 (by kernel_rfl))); have HA_HO133 := Aside0.mk (Q_HA_HO133 (hon 0 (by kernel_rfl)))
                    refine value_ (w1 := w') (v := .string (((((rdOf ByteArray.empty y131 a1_0) ++ (⟨#[32]⟩ : ByteArray)) ++ t135) ++ (⟨#[32, 97, 114, 101, 32]⟩ : ByteArray)) ++ t136)) (by rfl) rfl ?_ ?_
                    · go_simp
                      (try simp only [i64_w])
                      try rfl
                      all_goals (have zl0 : (⟨#[115, 111, 109, 101]⟩ : ByteArray).size = 4 := rfl; have zl1 : (⟨#[32, 97, 114, 101, 32]⟩ : ByteArray).size = 5 := rfl; have zl2 : (⟨#[32]⟩ : ByteArray).size = 1 := rfl; have zl3 : (⟨#[97, 108, 108]⟩ : ByteArray).size = 3 := rfl; have zl4 : (⟨#[]⟩ : ByteArray).size = 0 := rfl; (try simp only [ByteArray.size_append, ByteArray.size_extract, zl0, zl1, zl2, zl3, zl4] at c7); (try simp only [ByteArray.size_append, ByteArray.size_extract, zl0, zl1, zl2, zl3, zl4] at c9); (try simp only [ByteArray.size_append, ByteArray.size_extract, zl0, zl1, zl2, zl3, zl4] at c10); (try simp only [ByteArray.size_append, ByteArray.size_extract, zl0, zl1, zl2, zl3, zl4] at c12); (try simp only [ByteArray.size_append, ByteArray.size_extract, zl0, zl1, zl2, zl3, zl4]); omega)
                    refine hK.out _ _ ⟨v132, adz_v132, m3_, (by rw [ha.out]; exact putSel_upk 12 hb_ rfl rfl rfl), Q_BK129, Q_HB, Q_HO133, Q_HA_HO133, Q_X3_⟩
                  exact steps_nil
                rintro b a w22 hall ⟨v132, adz_v132, m3_, ha, Q_BK129, Q_HB, Q_HO133, Q_HA_HO133, Q_X3_⟩; clear BK129 HB
                have hb0_ := hall 0 (by kernel_rfl)
                have hb2_ := hall 2 (by kernel_rfl)
                have hb3_ := hall 3 (by kernel_rfl)
                have hb4_ := hall 4 (by kernel_rfl)
                have hb5_ := hall 5 (by kernel_rfl)
                have hb7_ := hall 7 (by kernel_rfl)
                have hb8_ := hall 8 (by kernel_rfl)
                have hb9_ := hall 9 (by kernel_rfl)
                have hb10_ := hall 10 (by kernel_rfl)
                have hb12_ := hall 12 (by kernel_rfl)
                have hb13_ := hall 13 (by kernel_rfl)
                have hb14_ := hall 14 (by kernel_rfl)
                have hb15_ := hall 15 (by kernel_rfl); subst ha
                obtain rfl := Q_X3_ hb3_
                simp only [putSel, hb0_, hb2_, hb3_, hb4_, hb5_, hb7_, hb8_, hb9_, hb10_, hb12_, hb13_, hb14_, hb15_, if_true, Act.put, List.setIfInBounds_toArray, List.set_cons_zero, List.set_cons_succ]
                have BK129 := Aside0.mk Q_BK129; clear Q_BK129
                have HB := Aside0.mk Q_HB; clear Q_HB; have HO133 := Aside0.mk (Q_HO133 hb0_); clear Q_HO133; have HA_HO133 := Aside0.mk (Q_HA_HO133 hb0_); clear Q_HA_HO133 hall hb0_ hb2_ hb3_ hb4_ hb5_ hb7_ hb8_ hb9_ hb10_ hb12_ hb13_ hb14_ hb15_
                obtain ⟨co23, eo23⟩ := HA_HO133.out; clear HA_HO133; subst eo23
                try go_wp2
                go_ret
                exact ⟨by first | rfl | (simp [errW_none, errW_some] <;> rfl) | (simp [*, errW_none, errW_some] <;> rfl), by repeat (first | (with_reducible first | exact HB.out | apply below_alloc | apply pw_below_drewN | apply below_drew1 | refine below_set ?_ GE129.out) | exact HB.out)⟩
              · rw [if_neg c12] at H
                exact absurd H (by simp)
            · rw [if_neg c10] at H
              exact absurd H (by simp)
          · rw [if_neg c9] at H
            exact absurd H (by simp)
        · rw [if_neg c7] at H
          exact absurd H (by simp)
      · rw [if_neg c6] at H
        exact absurd H (by simp)
    · rw [if_neg c5] at H
      exact absurd H (by simp)
  · replace c4 := Bool.eq_false_iff.mpr c4; subst c4
    have H1 : (some (⟨#[]⟩ : ByteArray)) = some r := by rw [if_neg (show ¬ (false = true) by decide)] at H; exact H
    clear H; have H := H1; clear H1
    obtain rfl := Option.some.inj H
    go_enter Try.func22, Try.ntmps22
    go_wp2_with (first | ((with_reducible refine gate_dst (N := 3) rfl ?_); refine box_event ?hg (N := 3) ?hd (cs := #[.int .i64 a1_0, .int .i64 a1_1, .int .i64 a1_2]) (t := 25) ?hr ?_; (case hd => rfl); (case hg => rfl); (case hr => first | (go_simp; done) | (go_simp; rfl)); intro gb129 hg w24 hbox hb; have n0_ := Aside0.mk (below_step (by repeat (first | (with_reducible first | exact HB.out | apply below_alloc | apply pw_below_drewN | apply below_drew1) | exact HB.out)) hb); have n1_ := Aside0.mk (hbox); have n2_ := Aside0.mk ((by rw [hg]; exact (below_size (by repeat (first | (with_reducible first | exact HB.out | apply below_alloc | apply pw_below_drewN | apply below_drew1) | exact HB.out))) : w.heap.size ≤ gb129)); have n3_ := Aside0.mk ((by rw [hg]; exact (below_size (by repeat (first | (with_reducible first | exact HB.out | apply below_alloc | apply pw_below_drewN | apply below_drew1) | exact HB.out))) : w.heap.size ≤ gb129)); clear HB; have HB := n0_; have BK129 := n1_; have GW129 := n2_; have GE129 := n3_; clear n0_ n1_ n2_ n3_ hb hbox hg; have hcz25_0 : w24.cell? ⟨gb129, 0, none⟩ = some (.int .i64 a1_0) := (blk_cell BK129.out 0).trans rfl; have hcz25_1 : w24.cell? ⟨gb129, 1, none⟩ = some (.int .i64 a1_1) := (blk_cell BK129.out 1).trans rfl; have hcz25_2 : w24.cell? ⟨gb129, 2, none⟩ = some (.int .i64 a1_2) := (blk_cell BK129.out 2).trans rfl; have hfz25_0 := blk_frozen BK129.out 0; have hfz25_1 := blk_frozen BK129.out 1; have hfz25_2 := blk_frozen BK129.out 2) | ((with_reducible refine gate_callee (f := 19) rfl ?_); refine goesL_ (some 7) rfl rfl Try.func19 (by kernel_rfl) rfl #[.int .i64 a0, .agg #[.int .i64 a1_0, .int .i64 a1_1, .int .i64 a1_2]] rfl (by (try simp only [List.map_toArray, List.map_cons, List.map_nil]); first | done | rfl | (simp only [List.length_drop, List.length_take]; rfl)) ?_; (with_reducible refine (spec_SayOk.calls a0 a1_0 a1_1 a1_2 false _ A3.out).mono ?_); rintro e w26 ⟨rfl, hb⟩; refine ⟨_, rfl, ?_⟩; have n0_ := Aside0.mk (blk_below (g := gb129) (o := .cells #[.int .i64 a1_0, .int .i64 a1_1, .int .i64 a1_2] 25 (0, 0)) (by (with_reducible repeat (first | refine blk_drewN ?_ _ | refine blk_drew ?_ | refine blk_alloc ?_ _)); exact BK129.out) hb); have n1_ := Aside0.mk (below_step (by repeat (first | (with_reducible first | exact HB.out | apply below_alloc | apply pw_below_drewN | apply below_drew1 | refine below_set ?_ GE129.out) | exact HB.out)) hb); clear BK129 HB; have BK129 := n0_; have HB := n1_; clear n0_ n1_; (try clear hb); (try clear hb2); (try clear hk); (try clear hi)))
    go_ret
    exact ⟨by first | rfl | (simp [errW_none, errW_some] <;> rfl) | (simp [*, errW_none, errW_some] <;> rfl), by repeat (first | (with_reducible first | exact HB.out | apply below_alloc | apply pw_below_drewN | apply below_drew1 | refine below_set ?_ GE129.out) | exact HB.out)⟩

end Go.Proofs.Ytainbbpmaengjaa.PA
