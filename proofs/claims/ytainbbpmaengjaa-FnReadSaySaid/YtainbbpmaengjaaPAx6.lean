/- The machine side of functions of this seat, written by the session's program myprint.py: for each Go function a Lean function and the proof that the call answers just it. -/
import Derived.Test.YtainbbpmaengjaaPAx0
import Derived.Test.YtainbbpmaengjaaPAx2
namespace Go.Proofs.Ytainbbpmaengjaa.PA
open Go.RowKit Go.Proofs.YtainbbpmaengjaaW.PrintWords Go.Proofs.YtainbbpmaengjaaW.PrintLast Go.Proofs.YtainbbpmaengjaaW.PrintMore
attribute [local go_sem] max2_int min2_int max_two min_two max_three min_three max_four min_four   -- for this text's walks alone
set_option linter.unusedVariables false
set_option linter.unusedSimpArgs false

/-! ### impl_termText: function 66 -/
def impl_termText.f (a0 : Int) : Option (ByteArray) := if 0 ≤ (wrap64 (Int.tdiv a0 2)) then (if (wrap64 (Int.tdiv a0 2)) ≤ (wrap64 ((wrap64 (Int.tdiv a0 2)) + 1)) then (if (wrap64 ((wrap64 (Int.tdiv a0 2)) + 1)) ≤ 3 then (if (Int.tmod a0 2) = 1 then (if 4 + ((⟨#[97, 98, 99]⟩ : ByteArray).extract ((wrap64 (Int.tdiv a0 2)) : Int).toNat ((wrap64 ((wrap64 (Int.tdiv a0 2)) + 1)) : Int).toNat).size ≤ 9223372036854775807 then (some ((⟨#[110, 111, 110, 45]⟩ : ByteArray) ++ ((⟨#[97, 98, 99]⟩ : ByteArray).extract ((wrap64 (Int.tdiv a0 2)) : Int).toNat ((wrap64 ((wrap64 (Int.tdiv a0 2)) + 1)) : Int).toNat))) else (none)) else (some ((⟨#[97, 98, 99]⟩ : ByteArray).extract ((wrap64 (Int.tdiv a0 2)) : Int).toNat ((wrap64 ((wrap64 (Int.tdiv a0 2)) + 1)) : Int).toNat))) else (none)) else (none)) else (none)
set_option maxHeartbeats 8000000 in
set_option maxRecDepth 100000 in
theorem impl_termText.calls (a0 : Int) (r : ByteArray) (w : World) (h : impl_termText.f a0 = some r) :
    Calls Try.prog 66 #[.int .i64 a0] w fun e w' => e = .returned (.string r) ∧ Drawn0 w w' := by
  have H : (if 0 ≤ (wrap64 (Int.tdiv a0 2)) then (if (wrap64 (Int.tdiv a0 2)) ≤ (wrap64 ((wrap64 (Int.tdiv a0 2)) + 1)) then (if (wrap64 ((wrap64 (Int.tdiv a0 2)) + 1)) ≤ 3 then (if (Int.tmod a0 2) = 1 then (if 4 + ((⟨#[97, 98, 99]⟩ : ByteArray).extract ((wrap64 (Int.tdiv a0 2)) : Int).toNat ((wrap64 ((wrap64 (Int.tdiv a0 2)) + 1)) : Int).toNat).size ≤ 9223372036854775807 then (some ((⟨#[110, 111, 110, 45]⟩ : ByteArray) ++ ((⟨#[97, 98, 99]⟩ : ByteArray).extract ((wrap64 (Int.tdiv a0 2)) : Int).toNat ((wrap64 ((wrap64 (Int.tdiv a0 2)) + 1)) : Int).toNat))) else (none)) else (some ((⟨#[97, 98, 99]⟩ : ByteArray).extract ((wrap64 (Int.tdiv a0 2)) : Int).toNat ((wrap64 ((wrap64 (Int.tdiv a0 2)) + 1)) : Int).toNat))) else (none)) else (none)) else (none)) = some r := h; clear h
  obtain ⟨ji2, hji2⟩ : ∃ j_ : Int, (wrap64 (Int.tdiv a0 2)) = j_ := ⟨_, rfl⟩
  replace H : (if 0 ≤ (ji2) then (if (ji2) ≤ (wrap64 ((ji2) + 1)) then (if (wrap64 ((ji2) + 1)) ≤ 3 then (if (Int.tmod a0 2) = 1 then (if 4 + ((⟨#[97, 98, 99]⟩ : ByteArray).extract ((ji2) : Int).toNat ((wrap64 ((ji2) + 1)) : Int).toNat).size ≤ 9223372036854775807 then (some ((⟨#[110, 111, 110, 45]⟩ : ByteArray) ++ ((⟨#[97, 98, 99]⟩ : ByteArray).extract ((ji2) : Int).toNat ((wrap64 ((ji2) + 1)) : Int).toNat))) else (none)) else (some ((⟨#[97, 98, 99]⟩ : ByteArray).extract ((ji2) : Int).toNat ((wrap64 ((ji2) + 1)) : Int).toNat))) else (none)) else (none)) else (none)) = some r := by first | (rw [hji2] at H; exact H) | (simp only [hji2] at H ⊢; exact H)
  have hji2w : (IntKind.i64.wrap (Int.tdiv a0 2)) = ji2 := (i64_w _).trans hji2
  by_cases c3 : 0 ≤ (ji2)
  · rw [if_pos c3] at H
    have c3b0 := eq_true c3
    have c3b1 : decide (0 ≤ (ji2)) = true := decide_eq_true c3; clear c3
    by_cases c4 : (ji2) ≤ (wrap64 ((ji2) + 1))
    · rw [if_pos c4] at H
      have c4b0 := eq_true c4
      have c4b1 : decide ((ji2) ≤ (wrap64 ((ji2) + 1))) = true := decide_eq_true c4
      by_cases c5 : (wrap64 ((ji2) + 1)) ≤ 3
      · rw [if_pos c5] at H
        have c5b0 := eq_true c5
        have c5b1 : decide ((wrap64 ((ji2) + 1)) ≤ 3) = true := decide_eq_true c5
        by_cases c6 : (Int.tmod a0 2) = 1
        · rw [if_pos c6] at H
          have c6b0 : ((Int.tmod a0 2) == 1) = true := beq_iff_eq.mpr c6
          have c6b1 : ((Int.tmod a0 2) != 1) = false := bne_eq_false_iff_eq.mpr c6; clear c6
          by_cases c7 : 4 + ((⟨#[97, 98, 99]⟩ : ByteArray).extract ((ji2) : Int).toNat ((wrap64 ((ji2) + 1)) : Int).toNat).size ≤ 9223372036854775807
          · rw [if_pos c7] at H
            have c7b0 := eq_true c7
            have c7b1 : decide (4 + ((⟨#[97, 98, 99]⟩ : ByteArray).extract ((ji2) : Int).toNat ((wrap64 ((ji2) + 1)) : Int).toNat).size ≤ 9223372036854775807) = true := decide_eq_true c7
            try have c7b2 : (9223372036854775807 < 4 + ((⟨#[97, 98, 99]⟩ : ByteArray).extract ((ji2) : Int).toNat ((wrap64 ((ji2) + 1)) : Int).toNat).size) = False := eq_false (Nat.not_lt.2 c7)
            have zl0 : (⟨#[110, 111, 110, 45]⟩ : ByteArray).size = 4 := rfl
            have zl1 : (⟨#[97, 98, 99]⟩ : ByteArray).size = 3 := rfl; have c7n := c7
            (try simp only [ByteArray.size_append, zl0, zl1, Nat.reduceAdd] at c7n)
            (try have c7n0 := eq_true c7n)
            (try have c7n1 := decide_eq_true c7n)
            (try have c7n2 := eq_false (Nat.not_lt.2 c7n)); clear zl0 zl1
            obtain rfl := Option.some.inj H
            go_enter Try.func66, Try.ntmps66
            go_wp2
            go_ret
            exact ⟨by first | rfl | (simp; done) | (simp only [← hji2] <;> (first | rfl | simp)) | (simp [*]; done), by repeat (first | exact Drawn0.refl _ | apply Drawn0.step)⟩
          · rw [if_neg c7] at H
            exact absurd H (by simp)
        · rw [if_neg c6] at H
          have c6b0 : ((Int.tmod a0 2) == 1) = false := beq_eq_false_iff_ne.mpr c6
          have c6b1 : ((Int.tmod a0 2) != 1) = true := bne_iff_ne.mpr c6
          obtain rfl := Option.some.inj H
          go_enter Try.func66, Try.ntmps66
          go_wp2
          go_ret
          exact ⟨by first | rfl | (simp; done) | (simp only [← hji2] <;> (first | rfl | simp)) | (simp [*]; done), by repeat (first | exact Drawn0.refl _ | apply Drawn0.step)⟩
      · rw [if_neg c5] at H
        exact absurd H (by simp)
    · rw [if_neg c4] at H
      exact absurd H (by simp)
  · rw [if_neg c3] at H
    exact absurd H (by simp)

/-! ### impl_sayText: function 52 -/
def impl_sayText.f (a0_0 : Int) (a0_1 : Int) (a0_2 : Int) : Option (ByteArray) := if a0_0 = 1 then (if 4 + 1 ≤ 9223372036854775807 then ((impl_termText.f a0_1).bind fun t138 => (if ((⟨#[115, 111, 109, 101]⟩ : ByteArray) ++ (⟨#[32]⟩ : ByteArray)).size + t138.size ≤ 9223372036854775807 then (if (((⟨#[115, 111, 109, 101]⟩ : ByteArray) ++ (⟨#[32]⟩ : ByteArray)) ++ t138).size + 5 ≤ 9223372036854775807 then ((impl_termText.f a0_2).bind fun t139 => (if ((((⟨#[115, 111, 109, 101]⟩ : ByteArray) ++ (⟨#[32]⟩ : ByteArray)) ++ t138) ++ (⟨#[32, 97, 114, 101, 32]⟩ : ByteArray)).size + t139.size ≤ 9223372036854775807 then (some (((((⟨#[115, 111, 109, 101]⟩ : ByteArray) ++ (⟨#[32]⟩ : ByteArray)) ++ t138) ++ (⟨#[32, 97, 114, 101, 32]⟩ : ByteArray)) ++ t139)) else (none))) else (none)) else (none))) else (none)) else (if 3 + 1 ≤ 9223372036854775807 then ((impl_termText.f a0_1).bind fun t140 => (if ((⟨#[97, 108, 108]⟩ : ByteArray) ++ (⟨#[32]⟩ : ByteArray)).size + t140.size ≤ 9223372036854775807 then (if (((⟨#[97, 108, 108]⟩ : ByteArray) ++ (⟨#[32]⟩ : ByteArray)) ++ t140).size + 5 ≤ 9223372036854775807 then ((impl_termText.f a0_2).bind fun t141 => (if ((((⟨#[97, 108, 108]⟩ : ByteArray) ++ (⟨#[32]⟩ : ByteArray)) ++ t140) ++ (⟨#[32, 97, 114, 101, 32]⟩ : ByteArray)).size + t141.size ≤ 9223372036854775807 then (some (((((⟨#[97, 108, 108]⟩ : ByteArray) ++ (⟨#[32]⟩ : ByteArray)) ++ t140) ++ (⟨#[32, 97, 114, 101, 32]⟩ : ByteArray)) ++ t141)) else (none))) else (none)) else (none))) else (none))
set_option maxHeartbeats 8000000 in
set_option maxRecDepth 100000 in
theorem impl_sayText.calls (a0_0 : Int) (a0_1 : Int) (a0_2 : Int) (r : ByteArray) (w : World) (h : impl_sayText.f a0_0 a0_1 a0_2 = some r) :
    Calls Try.prog 52 #[.agg #[.int .i64 a0_0, .int .i64 a0_1, .int .i64 a0_2]] w fun e w' => e = .returned (.string r) ∧ Below w.heap.size w w' := by
  have hu25 := Try.underlying25; have HB := Aside0.mk (Below.refl w.heap.size w)
  have H : (if a0_0 = 1 then (if 4 + 1 ≤ 9223372036854775807 then ((impl_termText.f a0_1).bind fun t138 => (if ((⟨#[115, 111, 109, 101]⟩ : ByteArray) ++ (⟨#[32]⟩ : ByteArray)).size + t138.size ≤ 9223372036854775807 then (if (((⟨#[115, 111, 109, 101]⟩ : ByteArray) ++ (⟨#[32]⟩ : ByteArray)) ++ t138).size + 5 ≤ 9223372036854775807 then ((impl_termText.f a0_2).bind fun t139 => (if ((((⟨#[115, 111, 109, 101]⟩ : ByteArray) ++ (⟨#[32]⟩ : ByteArray)) ++ t138) ++ (⟨#[32, 97, 114, 101, 32]⟩ : ByteArray)).size + t139.size ≤ 9223372036854775807 then (some (((((⟨#[115, 111, 109, 101]⟩ : ByteArray) ++ (⟨#[32]⟩ : ByteArray)) ++ t138) ++ (⟨#[32, 97, 114, 101, 32]⟩ : ByteArray)) ++ t139)) else (none))) else (none)) else (none))) else (none)) else (if 3 + 1 ≤ 9223372036854775807 then ((impl_termText.f a0_1).bind fun t140 => (if ((⟨#[97, 108, 108]⟩ : ByteArray) ++ (⟨#[32]⟩ : ByteArray)).size + t140.size ≤ 9223372036854775807 then (if (((⟨#[97, 108, 108]⟩ : ByteArray) ++ (⟨#[32]⟩ : ByteArray)) ++ t140).size + 5 ≤ 9223372036854775807 then ((impl_termText.f a0_2).bind fun t141 => (if ((((⟨#[97, 108, 108]⟩ : ByteArray) ++ (⟨#[32]⟩ : ByteArray)) ++ t140) ++ (⟨#[32, 97, 114, 101, 32]⟩ : ByteArray)).size + t141.size ≤ 9223372036854775807 then (some (((((⟨#[97, 108, 108]⟩ : ByteArray) ++ (⟨#[32]⟩ : ByteArray)) ++ t140) ++ (⟨#[32, 97, 114, 101, 32]⟩ : ByteArray)) ++ t141)) else (none))) else (none)) else (none))) else (none))) = some r := h; clear h
  by_cases c2 : a0_0 = 1
  · rw [if_pos c2] at H
    have c2b0 : (a0_0 == 1) = true := beq_iff_eq.mpr c2
    have c2b1 : (a0_0 != 1) = false := bne_eq_false_iff_eq.mpr c2; clear c2
    by_cases c3 : 4 + 1 ≤ 9223372036854775807
    · rw [if_pos c3] at H
      have c3b0 := eq_true c3
      have c3b1 : decide (4 + 1 ≤ 9223372036854775807) = true := decide_eq_true c3
      try have c3b2 : (9223372036854775807 < 4 + 1) = False := eq_false (Nat.not_lt.2 c3)
      replace H := Option.bind_eq_some_iff.mp H
      obtain ⟨t138, A40, H⟩ := H
      replace H : (if ((⟨#[115, 111, 109, 101]⟩ : ByteArray) ++ (⟨#[32]⟩ : ByteArray)).size + t138.size ≤ 9223372036854775807 then (if (((⟨#[115, 111, 109, 101]⟩ : ByteArray) ++ (⟨#[32]⟩ : ByteArray)) ++ t138).size + 5 ≤ 9223372036854775807 then ((impl_termText.f a0_2).bind fun t139 => (if ((((⟨#[115, 111, 109, 101]⟩ : ByteArray) ++ (⟨#[32]⟩ : ByteArray)) ++ t138) ++ (⟨#[32, 97, 114, 101, 32]⟩ : ByteArray)).size + t139.size ≤ 9223372036854775807 then (some (((((⟨#[115, 111, 109, 101]⟩ : ByteArray) ++ (⟨#[32]⟩ : ByteArray)) ++ t138) ++ (⟨#[32, 97, 114, 101, 32]⟩ : ByteArray)) ++ t139)) else (none))) else (none)) else (none)) = some r := H
      have A4 := Aside0.mk A40; clear A40
      by_cases c5 : ((⟨#[115, 111, 109, 101]⟩ : ByteArray) ++ (⟨#[32]⟩ : ByteArray)).size + t138.size ≤ 9223372036854775807
      · rw [if_pos c5] at H
        have c5b0 := eq_true c5
        have c5b1 : decide (((⟨#[115, 111, 109, 101]⟩ : ByteArray) ++ (⟨#[32]⟩ : ByteArray)).size + t138.size ≤ 9223372036854775807) = true := decide_eq_true c5
        try have c5b2 : (9223372036854775807 < ((⟨#[115, 111, 109, 101]⟩ : ByteArray) ++ (⟨#[32]⟩ : ByteArray)).size + t138.size) = False := eq_false (Nat.not_lt.2 c5)
        have zl0 : (⟨#[115, 111, 109, 101]⟩ : ByteArray).size = 4 := rfl
        have zl1 : (⟨#[32, 97, 114, 101, 32]⟩ : ByteArray).size = 5 := rfl
        have zl2 : (⟨#[32]⟩ : ByteArray).size = 1 := rfl
        have zl3 : (⟨#[97, 108, 108]⟩ : ByteArray).size = 3 := rfl; have c5n := c5
        (try simp only [ByteArray.size_append, zl0, zl1, zl2, zl3, Nat.reduceAdd] at c5n)
        (try have c5n0 := eq_true c5n)
        (try have c5n1 := decide_eq_true c5n)
        (try have c5n2 := eq_false (Nat.not_lt.2 c5n)); clear zl0 zl1 zl2 zl3
        by_cases c6 : (((⟨#[115, 111, 109, 101]⟩ : ByteArray) ++ (⟨#[32]⟩ : ByteArray)) ++ t138).size + 5 ≤ 9223372036854775807
        · rw [if_pos c6] at H
          have c6b0 := eq_true c6
          have c6b1 : decide ((((⟨#[115, 111, 109, 101]⟩ : ByteArray) ++ (⟨#[32]⟩ : ByteArray)) ++ t138).size + 5 ≤ 9223372036854775807) = true := decide_eq_true c6
          try have c6b2 : (9223372036854775807 < (((⟨#[115, 111, 109, 101]⟩ : ByteArray) ++ (⟨#[32]⟩ : ByteArray)) ++ t138).size + 5) = False := eq_false (Nat.not_lt.2 c6)
          have zl0 : (⟨#[115, 111, 109, 101]⟩ : ByteArray).size = 4 := rfl
          have zl1 : (⟨#[32, 97, 114, 101, 32]⟩ : ByteArray).size = 5 := rfl
          have zl2 : (⟨#[32]⟩ : ByteArray).size = 1 := rfl
          have zl3 : (⟨#[97, 108, 108]⟩ : ByteArray).size = 3 := rfl; have c6n := c6
          (try simp only [ByteArray.size_append, zl0, zl1, zl2, zl3, Nat.reduceAdd] at c6n)
          (try have c6n0 := eq_true c6n)
          (try have c6n1 := decide_eq_true c6n)
          (try have c6n2 := eq_false (Nat.not_lt.2 c6n)); clear zl0 zl1 zl2 zl3
          replace H := Option.bind_eq_some_iff.mp H
          obtain ⟨t139, A70, H⟩ := H
          replace H : (if ((((⟨#[115, 111, 109, 101]⟩ : ByteArray) ++ (⟨#[32]⟩ : ByteArray)) ++ t138) ++ (⟨#[32, 97, 114, 101, 32]⟩ : ByteArray)).size + t139.size ≤ 9223372036854775807 then (some (((((⟨#[115, 111, 109, 101]⟩ : ByteArray) ++ (⟨#[32]⟩ : ByteArray)) ++ t138) ++ (⟨#[32, 97, 114, 101, 32]⟩ : ByteArray)) ++ t139)) else (none)) = some r := H
          have A7 := Aside0.mk A70; clear A70
          by_cases c8 : ((((⟨#[115, 111, 109, 101]⟩ : ByteArray) ++ (⟨#[32]⟩ : ByteArray)) ++ t138) ++ (⟨#[32, 97, 114, 101, 32]⟩ : ByteArray)).size + t139.size ≤ 9223372036854775807
          · rw [if_pos c8] at H
            have c8b0 := eq_true c8
            have c8b1 : decide (((((⟨#[115, 111, 109, 101]⟩ : ByteArray) ++ (⟨#[32]⟩ : ByteArray)) ++ t138) ++ (⟨#[32, 97, 114, 101, 32]⟩ : ByteArray)).size + t139.size ≤ 9223372036854775807) = true := decide_eq_true c8
            try have c8b2 : (9223372036854775807 < ((((⟨#[115, 111, 109, 101]⟩ : ByteArray) ++ (⟨#[32]⟩ : ByteArray)) ++ t138) ++ (⟨#[32, 97, 114, 101, 32]⟩ : ByteArray)).size + t139.size) = False := eq_false (Nat.not_lt.2 c8)
            have zl0 : (⟨#[115, 111, 109, 101]⟩ : ByteArray).size = 4 := rfl
            have zl1 : (⟨#[32, 97, 114, 101, 32]⟩ : ByteArray).size = 5 := rfl
            have zl2 : (⟨#[32]⟩ : ByteArray).size = 1 := rfl
            have zl3 : (⟨#[97, 108, 108]⟩ : ByteArray).size = 3 := rfl; have c8n := c8
            (try simp only [ByteArray.size_append, zl0, zl1, zl2, zl3, Nat.reduceAdd] at c8n)
            (try have c8n0 := eq_true c8n)
            (try have c8n1 := decide_eq_true c8n)
            (try have c8n2 := eq_false (Nat.not_lt.2 c8n)); clear zl0 zl1 zl2 zl3
            obtain rfl := Option.some.inj H
            go_enter Try.func52, Try.ntmps52
            go_wp2_with (first | ((with_reducible refine gate_dst (N := 1) rfl ?_); refine box_event ?hg (N := 1) ?hd (cs := #[.int .i64 a0_0, .int .i64 a0_1, .int .i64 a0_2]) (t := 25) ?hr ?_; (case hd => rfl); (case hg => rfl); (case hr => first | (go_simp; done) | (go_simp; rfl)); intro gb137 hg w9 hbox hb; have n0_ := Aside0.mk (below_step (by repeat (first | (with_reducible first | exact HB.out | apply below_alloc | apply pw_below_drewN | apply below_drew1) | exact HB.out)) hb); have n1_ := Aside0.mk (hbox); have n2_ := Aside0.mk ((by rw [hg]; exact (below_size (by repeat (first | (with_reducible first | exact HB.out | apply below_alloc | apply pw_below_drewN | apply below_drew1) | exact HB.out))) : w.heap.size ≤ gb137)); have n3_ := Aside0.mk ((by rw [hg]; exact (below_size (by repeat (first | (with_reducible first | exact HB.out | apply below_alloc | apply pw_below_drewN | apply below_drew1) | exact HB.out))) : w.heap.size ≤ gb137)); clear HB; have HB := n0_; have BK137 := n1_; have GW137 := n2_; have GE137 := n3_; clear n0_ n1_ n2_ n3_ hb hbox hg; have hcz10_0 : w9.cell? ⟨gb137, 0, none⟩ = some (.int .i64 a0_0) := (blk_cell BK137.out 0).trans rfl; have hcz10_1 : w9.cell? ⟨gb137, 1, none⟩ = some (.int .i64 a0_1) := (blk_cell BK137.out 1).trans rfl; have hcz10_2 : w9.cell? ⟨gb137, 2, none⟩ = some (.int .i64 a0_2) := (blk_cell BK137.out 2).trans rfl; have hfz10_0 := blk_frozen BK137.out 0; have hfz10_1 := blk_frozen BK137.out 1; have hfz10_2 := blk_frozen BK137.out 2) | (go_at_call 66; (with_reducible refine (impl_termText.calls a0_1 t138 _ A4.out).mono ?_); rintro e w' ⟨rfl, ⟨nd, rfl⟩⟩; (try first | exact ⟨rfl, _, World.drewN_drewN _ _ _⟩ | exact ⟨rfl, _, Eq.trans (World.drewN_drewN _ _ _) (congrArg (World.drewN _) (Nat.add_assoc _ _ _))⟩)) | (go_at_call 66; (with_reducible refine (impl_termText.calls a0_2 t139 _ A7.out).mono ?_); rintro e w' ⟨rfl, ⟨nd, rfl⟩⟩; (try first | exact ⟨rfl, _, World.drewN_drewN _ _ _⟩ | exact ⟨rfl, _, Eq.trans (World.drewN_drewN _ _ _) (congrArg (World.drewN _) (Nat.add_assoc _ _ _))⟩)))
            repeat (go_quiet (first | ((with_reducible refine gate_dst (N := 1) rfl ?_); refine box_event ?hg (N := 1) ?hd (cs := #[.int .i64 a0_0, .int .i64 a0_1, .int .i64 a0_2]) (t := 25) ?hr ?_; (case hd => rfl); (case hg => rfl); (case hr => first | (go_simp; done) | (go_simp; rfl)); intro gb137 hg w9 hbox hb; have n0_ := Aside0.mk (below_step (by repeat (first | (with_reducible first | exact HB.out | apply below_alloc | apply pw_below_drewN | apply below_drew1) | exact HB.out)) hb); have n1_ := Aside0.mk (hbox); have n2_ := Aside0.mk ((by rw [hg]; exact (below_size (by repeat (first | (with_reducible first | exact HB.out | apply below_alloc | apply pw_below_drewN | apply below_drew1) | exact HB.out))) : w.heap.size ≤ gb137)); have n3_ := Aside0.mk ((by rw [hg]; exact (below_size (by repeat (first | (with_reducible first | exact HB.out | apply below_alloc | apply pw_below_drewN | apply below_drew1) | exact HB.out))) : w.heap.size ≤ gb137)); clear HB; have HB := n0_; have BK137 := n1_; have GW137 := n2_; have GE137 := n3_; clear n0_ n1_ n2_ n3_ hb hbox hg; have hcz10_0 : w9.cell? ⟨gb137, 0, none⟩ = some (.int .i64 a0_0) := (blk_cell BK137.out 0).trans rfl; have hcz10_1 : w9.cell? ⟨gb137, 1, none⟩ = some (.int .i64 a0_1) := (blk_cell BK137.out 1).trans rfl; have hcz10_2 : w9.cell? ⟨gb137, 2, none⟩ = some (.int .i64 a0_2) := (blk_cell BK137.out 2).trans rfl; have hfz10_0 := blk_frozen BK137.out 0; have hfz10_1 := blk_frozen BK137.out 1; have hfz10_2 := blk_frozen BK137.out 2) | (go_at_call 66; (with_reducible refine (impl_termText.calls a0_1 t138 _ A4.out).mono ?_); rintro e w' ⟨rfl, ⟨nd, rfl⟩⟩; (try first | exact ⟨rfl, _, World.drewN_drewN _ _ _⟩ | exact ⟨rfl, _, Eq.trans (World.drewN_drewN _ _ _) (congrArg (World.drewN _) (Nat.add_assoc _ _ _))⟩)) | (go_at_call 66; (with_reducible refine (impl_termText.calls a0_2 t139 _ A7.out).mono ?_); rintro e w' ⟨rfl, ⟨nd, rfl⟩⟩; (try first | exact ⟨rfl, _, World.drewN_drewN _ _ _⟩ | exact ⟨rfl, _, Eq.trans (World.drewN_drewN _ _ _) (congrArg (World.drewN _) (Nat.add_assoc _ _ _))⟩))); try go_wp2_with (first | ((with_reducible refine gate_dst (N := 1) rfl ?_); refine box_event ?hg (N := 1) ?hd (cs := #[.int .i64 a0_0, .int .i64 a0_1, .int .i64 a0_2]) (t := 25) ?hr ?_; (case hd => rfl); (case hg => rfl); (case hr => first | (go_simp; done) | (go_simp; rfl)); intro gb137 hg w9 hbox hb; have n0_ := Aside0.mk (below_step (by repeat (first | (with_reducible first | exact HB.out | apply below_alloc | apply pw_below_drewN | apply below_drew1) | exact HB.out)) hb); have n1_ := Aside0.mk (hbox); have n2_ := Aside0.mk ((by rw [hg]; exact (below_size (by repeat (first | (with_reducible first | exact HB.out | apply below_alloc | apply pw_below_drewN | apply below_drew1) | exact HB.out))) : w.heap.size ≤ gb137)); have n3_ := Aside0.mk ((by rw [hg]; exact (below_size (by repeat (first | (with_reducible first | exact HB.out | apply below_alloc | apply pw_below_drewN | apply below_drew1) | exact HB.out))) : w.heap.size ≤ gb137)); clear HB; have HB := n0_; have BK137 := n1_; have GW137 := n2_; have GE137 := n3_; clear n0_ n1_ n2_ n3_ hb hbox hg; have hcz10_0 : w9.cell? ⟨gb137, 0, none⟩ = some (.int .i64 a0_0) := (blk_cell BK137.out 0).trans rfl; have hcz10_1 : w9.cell? ⟨gb137, 1, none⟩ = some (.int .i64 a0_1) := (blk_cell BK137.out 1).trans rfl; have hcz10_2 : w9.cell? ⟨gb137, 2, none⟩ = some (.int .i64 a0_2) := (blk_cell BK137.out 2).trans rfl; have hfz10_0 := blk_frozen BK137.out 0; have hfz10_1 := blk_frozen BK137.out 1; have hfz10_2 := blk_frozen BK137.out 2) | (go_at_call 66; (with_reducible refine (impl_termText.calls a0_1 t138 _ A4.out).mono ?_); rintro e w' ⟨rfl, ⟨nd, rfl⟩⟩; (try first | exact ⟨rfl, _, World.drewN_drewN _ _ _⟩ | exact ⟨rfl, _, Eq.trans (World.drewN_drewN _ _ _) (congrArg (World.drewN _) (Nat.add_assoc _ _ _))⟩)) | (go_at_call 66; (with_reducible refine (impl_termText.calls a0_2 t139 _ A7.out).mono ?_); rintro e w' ⟨rfl, ⟨nd, rfl⟩⟩; (try first | exact ⟨rfl, _, World.drewN_drewN _ _ _⟩ | exact ⟨rfl, _, Eq.trans (World.drewN_drewN _ _ _) (congrArg (World.drewN _) (Nat.add_assoc _ _ _))⟩))))
            go_ret
            exact ⟨by first | rfl | (simp [errW_none, errW_some] <;> rfl) | (simp [*, errW_none, errW_some] <;> rfl), by repeat (first | (with_reducible first | exact HB.out | apply below_alloc | apply pw_below_drewN | apply below_drew1 | refine below_set ?_ GE137.out) | exact HB.out)⟩
          · rw [if_neg c8] at H
            exact absurd H (by simp)
        · rw [if_neg c6] at H
          exact absurd H (by simp)
      · rw [if_neg c5] at H
        exact absurd H (by simp)
    · rw [if_neg c3] at H
      exact absurd H (by simp)
  · rw [if_neg c2] at H
    have c2b0 : (a0_0 == 1) = false := beq_eq_false_iff_ne.mpr c2
    have c2b1 : (a0_0 != 1) = true := bne_iff_ne.mpr c2
    by_cases c11 : 3 + 1 ≤ 9223372036854775807
    · rw [if_pos c11] at H
      have c11b0 := eq_true c11
      have c11b1 : decide (3 + 1 ≤ 9223372036854775807) = true := decide_eq_true c11
      try have c11b2 : (9223372036854775807 < 3 + 1) = False := eq_false (Nat.not_lt.2 c11)
      replace H := Option.bind_eq_some_iff.mp H
      obtain ⟨t140, A120, H⟩ := H
      replace H : (if ((⟨#[97, 108, 108]⟩ : ByteArray) ++ (⟨#[32]⟩ : ByteArray)).size + t140.size ≤ 9223372036854775807 then (if (((⟨#[97, 108, 108]⟩ : ByteArray) ++ (⟨#[32]⟩ : ByteArray)) ++ t140).size + 5 ≤ 9223372036854775807 then ((impl_termText.f a0_2).bind fun t141 => (if ((((⟨#[97, 108, 108]⟩ : ByteArray) ++ (⟨#[32]⟩ : ByteArray)) ++ t140) ++ (⟨#[32, 97, 114, 101, 32]⟩ : ByteArray)).size + t141.size ≤ 9223372036854775807 then (some (((((⟨#[97, 108, 108]⟩ : ByteArray) ++ (⟨#[32]⟩ : ByteArray)) ++ t140) ++ (⟨#[32, 97, 114, 101, 32]⟩ : ByteArray)) ++ t141)) else (none))) else (none)) else (none)) = some r := H
      have A12 := Aside0.mk A120; clear A120
      by_cases c13 : ((⟨#[97, 108, 108]⟩ : ByteArray) ++ (⟨#[32]⟩ : ByteArray)).size + t140.size ≤ 9223372036854775807
      · rw [if_pos c13] at H
        have c13b0 := eq_true c13
        have c13b1 : decide (((⟨#[97, 108, 108]⟩ : ByteArray) ++ (⟨#[32]⟩ : ByteArray)).size + t140.size ≤ 9223372036854775807) = true := decide_eq_true c13
        try have c13b2 : (9223372036854775807 < ((⟨#[97, 108, 108]⟩ : ByteArray) ++ (⟨#[32]⟩ : ByteArray)).size + t140.size) = False := eq_false (Nat.not_lt.2 c13)
        have zl0 : (⟨#[115, 111, 109, 101]⟩ : ByteArray).size = 4 := rfl
        have zl1 : (⟨#[32, 97, 114, 101, 32]⟩ : ByteArray).size = 5 := rfl
        have zl2 : (⟨#[32]⟩ : ByteArray).size = 1 := rfl
        have zl3 : (⟨#[97, 108, 108]⟩ : ByteArray).size = 3 := rfl; have c13n := c13
        (try simp only [ByteArray.size_append, zl0, zl1, zl2, zl3, Nat.reduceAdd] at c13n)
        (try have c13n0 := eq_true c13n)
        (try have c13n1 := decide_eq_true c13n)
        (try have c13n2 := eq_false (Nat.not_lt.2 c13n)); clear zl0 zl1 zl2 zl3
        by_cases c14 : (((⟨#[97, 108, 108]⟩ : ByteArray) ++ (⟨#[32]⟩ : ByteArray)) ++ t140).size + 5 ≤ 9223372036854775807
        · rw [if_pos c14] at H
          have c14b0 := eq_true c14
          have c14b1 : decide ((((⟨#[97, 108, 108]⟩ : ByteArray) ++ (⟨#[32]⟩ : ByteArray)) ++ t140).size + 5 ≤ 9223372036854775807) = true := decide_eq_true c14
          try have c14b2 : (9223372036854775807 < (((⟨#[97, 108, 108]⟩ : ByteArray) ++ (⟨#[32]⟩ : ByteArray)) ++ t140).size + 5) = False := eq_false (Nat.not_lt.2 c14)
          have zl0 : (⟨#[115, 111, 109, 101]⟩ : ByteArray).size = 4 := rfl
          have zl1 : (⟨#[32, 97, 114, 101, 32]⟩ : ByteArray).size = 5 := rfl
          have zl2 : (⟨#[32]⟩ : ByteArray).size = 1 := rfl
          have zl3 : (⟨#[97, 108, 108]⟩ : ByteArray).size = 3 := rfl; have c14n := c14
          (try simp only [ByteArray.size_append, zl0, zl1, zl2, zl3, Nat.reduceAdd] at c14n)
          (try have c14n0 := eq_true c14n)
          (try have c14n1 := decide_eq_true c14n)
          (try have c14n2 := eq_false (Nat.not_lt.2 c14n)); clear zl0 zl1 zl2 zl3
          replace H := Option.bind_eq_some_iff.mp H
          obtain ⟨t141, A150, H⟩ := H
          replace H : (if ((((⟨#[97, 108, 108]⟩ : ByteArray) ++ (⟨#[32]⟩ : ByteArray)) ++ t140) ++ (⟨#[32, 97, 114, 101, 32]⟩ : ByteArray)).size + t141.size ≤ 9223372036854775807 then (some (((((⟨#[97, 108, 108]⟩ : ByteArray) ++ (⟨#[32]⟩ : ByteArray)) ++ t140) ++ (⟨#[32, 97, 114, 101, 32]⟩ : ByteArray)) ++ t141)) else (none)) = some r := H
          have A15 := Aside0.mk A150; clear A150
          by_cases c16 : ((((⟨#[97, 108, 108]⟩ : ByteArray) ++ (⟨#[32]⟩ : ByteArray)) ++ t140) ++ (⟨#[32, 97, 114, 101, 32]⟩ : ByteArray)).size + t141.size ≤ 9223372036854775807
          · rw [if_pos c16] at H
            have c16b0 := eq_true c16
            have c16b1 : decide (((((⟨#[97, 108, 108]⟩ : ByteArray) ++ (⟨#[32]⟩ : ByteArray)) ++ t140) ++ (⟨#[32, 97, 114, 101, 32]⟩ : ByteArray)).size + t141.size ≤ 9223372036854775807) = true := decide_eq_true c16
            try have c16b2 : (9223372036854775807 < ((((⟨#[97, 108, 108]⟩ : ByteArray) ++ (⟨#[32]⟩ : ByteArray)) ++ t140) ++ (⟨#[32, 97, 114, 101, 32]⟩ : ByteArray)).size + t141.size) = False := eq_false (Nat.not_lt.2 c16)
            have zl0 : (⟨#[115, 111, 109, 101]⟩ : ByteArray).size = 4 := rfl
            have zl1 : (⟨#[32, 97, 114, 101, 32]⟩ : ByteArray).size = 5 := rfl
            have zl2 : (⟨#[32]⟩ : ByteArray).size = 1 := rfl
            have zl3 : (⟨#[97, 108, 108]⟩ : ByteArray).size = 3 := rfl; have c16n := c16
            (try simp only [ByteArray.size_append, zl0, zl1, zl2, zl3, Nat.reduceAdd] at c16n)
            (try have c16n0 := eq_true c16n)
            (try have c16n1 := decide_eq_true c16n)
            (try have c16n2 := eq_false (Nat.not_lt.2 c16n)); clear zl0 zl1 zl2 zl3
            obtain rfl := Option.some.inj H
            go_enter Try.func52, Try.ntmps52
            go_wp2_with (first | ((with_reducible refine gate_dst (N := 1) rfl ?_); refine box_event ?hg (N := 1) ?hd (cs := #[.int .i64 a0_0, .int .i64 a0_1, .int .i64 a0_2]) (t := 25) ?hr ?_; (case hd => rfl); (case hg => rfl); (case hr => first | (go_simp; done) | (go_simp; rfl)); intro gb137 hg w17 hbox hb; have n0_ := Aside0.mk (below_step (by repeat (first | (with_reducible first | exact HB.out | apply below_alloc | apply pw_below_drewN | apply below_drew1) | exact HB.out)) hb); have n1_ := Aside0.mk (hbox); have n2_ := Aside0.mk ((by rw [hg]; exact (below_size (by repeat (first | (with_reducible first | exact HB.out | apply below_alloc | apply pw_below_drewN | apply below_drew1) | exact HB.out))) : w.heap.size ≤ gb137)); have n3_ := Aside0.mk ((by rw [hg]; exact (below_size (by repeat (first | (with_reducible first | exact HB.out | apply below_alloc | apply pw_below_drewN | apply below_drew1) | exact HB.out))) : w.heap.size ≤ gb137)); clear HB; have HB := n0_; have BK137 := n1_; have GW137 := n2_; have GE137 := n3_; clear n0_ n1_ n2_ n3_ hb hbox hg; have hcz18_0 : w17.cell? ⟨gb137, 0, none⟩ = some (.int .i64 a0_0) := (blk_cell BK137.out 0).trans rfl; have hcz18_1 : w17.cell? ⟨gb137, 1, none⟩ = some (.int .i64 a0_1) := (blk_cell BK137.out 1).trans rfl; have hcz18_2 : w17.cell? ⟨gb137, 2, none⟩ = some (.int .i64 a0_2) := (blk_cell BK137.out 2).trans rfl; have hfz18_0 := blk_frozen BK137.out 0; have hfz18_1 := blk_frozen BK137.out 1; have hfz18_2 := blk_frozen BK137.out 2) | (go_at_call 66; (with_reducible refine (impl_termText.calls a0_1 t140 _ A12.out).mono ?_); rintro e w' ⟨rfl, ⟨nd, rfl⟩⟩; (try first | exact ⟨rfl, _, World.drewN_drewN _ _ _⟩ | exact ⟨rfl, _, Eq.trans (World.drewN_drewN _ _ _) (congrArg (World.drewN _) (Nat.add_assoc _ _ _))⟩)) | (go_at_call 66; (with_reducible refine (impl_termText.calls a0_2 t141 _ A15.out).mono ?_); rintro e w' ⟨rfl, ⟨nd, rfl⟩⟩; (try first | exact ⟨rfl, _, World.drewN_drewN _ _ _⟩ | exact ⟨rfl, _, Eq.trans (World.drewN_drewN _ _ _) (congrArg (World.drewN _) (Nat.add_assoc _ _ _))⟩)))
            repeat (go_quiet (first | ((with_reducible refine gate_dst (N := 1) rfl ?_); refine box_event ?hg (N := 1) ?hd (cs := #[.int .i64 a0_0, .int .i64 a0_1, .int .i64 a0_2]) (t := 25) ?hr ?_; (case hd => rfl); (case hg => rfl); (case hr => first | (go_simp; done) | (go_simp; rfl)); intro gb137 hg w17 hbox hb; have n0_ := Aside0.mk (below_step (by repeat (first | (with_reducible first | exact HB.out | apply below_alloc | apply pw_below_drewN | apply below_drew1) | exact HB.out)) hb); have n1_ := Aside0.mk (hbox); have n2_ := Aside0.mk ((by rw [hg]; exact (below_size (by repeat (first | (with_reducible first | exact HB.out | apply below_alloc | apply pw_below_drewN | apply below_drew1) | exact HB.out))) : w.heap.size ≤ gb137)); have n3_ := Aside0.mk ((by rw [hg]; exact (below_size (by repeat (first | (with_reducible first | exact HB.out | apply below_alloc | apply pw_below_drewN | apply below_drew1) | exact HB.out))) : w.heap.size ≤ gb137)); clear HB; have HB := n0_; have BK137 := n1_; have GW137 := n2_; have GE137 := n3_; clear n0_ n1_ n2_ n3_ hb hbox hg; have hcz18_0 : w17.cell? ⟨gb137, 0, none⟩ = some (.int .i64 a0_0) := (blk_cell BK137.out 0).trans rfl; have hcz18_1 : w17.cell? ⟨gb137, 1, none⟩ = some (.int .i64 a0_1) := (blk_cell BK137.out 1).trans rfl; have hcz18_2 : w17.cell? ⟨gb137, 2, none⟩ = some (.int .i64 a0_2) := (blk_cell BK137.out 2).trans rfl; have hfz18_0 := blk_frozen BK137.out 0; have hfz18_1 := blk_frozen BK137.out 1; have hfz18_2 := blk_frozen BK137.out 2) | (go_at_call 66; (with_reducible refine (impl_termText.calls a0_1 t140 _ A12.out).mono ?_); rintro e w' ⟨rfl, ⟨nd, rfl⟩⟩; (try first | exact ⟨rfl, _, World.drewN_drewN _ _ _⟩ | exact ⟨rfl, _, Eq.trans (World.drewN_drewN _ _ _) (congrArg (World.drewN _) (Nat.add_assoc _ _ _))⟩)) | (go_at_call 66; (with_reducible refine (impl_termText.calls a0_2 t141 _ A15.out).mono ?_); rintro e w' ⟨rfl, ⟨nd, rfl⟩⟩; (try first | exact ⟨rfl, _, World.drewN_drewN _ _ _⟩ | exact ⟨rfl, _, Eq.trans (World.drewN_drewN _ _ _) (congrArg (World.drewN _) (Nat.add_assoc _ _ _))⟩))); try go_wp2_with (first | ((with_reducible refine gate_dst (N := 1) rfl ?_); refine box_event ?hg (N := 1) ?hd (cs := #[.int .i64 a0_0, .int .i64 a0_1, .int .i64 a0_2]) (t := 25) ?hr ?_; (case hd => rfl); (case hg => rfl); (case hr => first | (go_simp; done) | (go_simp; rfl)); intro gb137 hg w17 hbox hb; have n0_ := Aside0.mk (below_step (by repeat (first | (with_reducible first | exact HB.out | apply below_alloc | apply pw_below_drewN | apply below_drew1) | exact HB.out)) hb); have n1_ := Aside0.mk (hbox); have n2_ := Aside0.mk ((by rw [hg]; exact (below_size (by repeat (first | (with_reducible first | exact HB.out | apply below_alloc | apply pw_below_drewN | apply below_drew1) | exact HB.out))) : w.heap.size ≤ gb137)); have n3_ := Aside0.mk ((by rw [hg]; exact (below_size (by repeat (first | (with_reducible first | exact HB.out | apply below_alloc | apply pw_below_drewN | apply below_drew1) | exact HB.out))) : w.heap.size ≤ gb137)); clear HB; have HB := n0_; have BK137 := n1_; have GW137 := n2_; have GE137 := n3_; clear n0_ n1_ n2_ n3_ hb hbox hg; have hcz18_0 : w17.cell? ⟨gb137, 0, none⟩ = some (.int .i64 a0_0) := (blk_cell BK137.out 0).trans rfl; have hcz18_1 : w17.cell? ⟨gb137, 1, none⟩ = some (.int .i64 a0_1) := (blk_cell BK137.out 1).trans rfl; have hcz18_2 : w17.cell? ⟨gb137, 2, none⟩ = some (.int .i64 a0_2) := (blk_cell BK137.out 2).trans rfl; have hfz18_0 := blk_frozen BK137.out 0; have hfz18_1 := blk_frozen BK137.out 1; have hfz18_2 := blk_frozen BK137.out 2) | (go_at_call 66; (with_reducible refine (impl_termText.calls a0_1 t140 _ A12.out).mono ?_); rintro e w' ⟨rfl, ⟨nd, rfl⟩⟩; (try first | exact ⟨rfl, _, World.drewN_drewN _ _ _⟩ | exact ⟨rfl, _, Eq.trans (World.drewN_drewN _ _ _) (congrArg (World.drewN _) (Nat.add_assoc _ _ _))⟩)) | (go_at_call 66; (with_reducible refine (impl_termText.calls a0_2 t141 _ A15.out).mono ?_); rintro e w' ⟨rfl, ⟨nd, rfl⟩⟩; (try first | exact ⟨rfl, _, World.drewN_drewN _ _ _⟩ | exact ⟨rfl, _, Eq.trans (World.drewN_drewN _ _ _) (congrArg (World.drewN _) (Nat.add_assoc _ _ _))⟩))))
            go_ret
            exact ⟨by first | rfl | (simp [errW_none, errW_some] <;> rfl) | (simp [*, errW_none, errW_some] <;> rfl), by repeat (first | (with_reducible first | exact HB.out | apply below_alloc | apply pw_below_drewN | apply below_drew1 | refine below_set ?_ GE137.out) | exact HB.out)⟩
          · rw [if_neg c16] at H
            exact absurd H (by simp)
        · rw [if_neg c14] at H
          exact absurd H (by simp)
      · rw [if_neg c13] at H
        exact absurd H (by simp)
    · rw [if_neg c11] at H
      exact absurd H (by simp)

/-! ### impl_SayText: function 23 -/
def impl_SayText.f (a0 : Int) (a1_0 : Int) (a1_1 : Int) (a1_2 : Int) : Option (ByteArray) := (impl_isSay.f a0 a1_0 a1_1 a1_2).bind fun t143 => (if t143 = true then ((impl_sayText.f a1_0 a1_1 a1_2).bind fun t144 => (some t144)) else (some (⟨#[]⟩ : ByteArray)))
set_option maxHeartbeats 8000000 in
set_option maxRecDepth 100000 in
theorem impl_SayText.calls (a0 : Int) (a1_0 : Int) (a1_1 : Int) (a1_2 : Int) (r : ByteArray) (w : World) (h : impl_SayText.f a0 a1_0 a1_1 a1_2 = some r) :
    Calls Try.prog 23 #[.int .i64 a0, .agg #[.int .i64 a1_0, .int .i64 a1_1, .int .i64 a1_2]] w fun e w' => e = .returned (.string r) ∧ Below w.heap.size w w' := by
  have hu25 := Try.underlying25; have HB := Aside0.mk (Below.refl w.heap.size w)
  have H : ((impl_isSay.f a0 a1_0 a1_1 a1_2).bind fun t143 => (if t143 = true then ((impl_sayText.f a1_0 a1_1 a1_2).bind fun t144 => (some t144)) else (some (⟨#[]⟩ : ByteArray)))) = some r := h; clear h
  replace H := Option.bind_eq_some_iff.mp H
  obtain ⟨t143, A30, H⟩ := H
  replace H : (if t143 = true then ((impl_sayText.f a1_0 a1_1 a1_2).bind fun t144 => (some t144)) else (some (⟨#[]⟩ : ByteArray))) = some r := H
  have A3 := Aside0.mk A30; clear A30
  by_cases c4 : t143 = true
  · subst c4
    have H1 : ((impl_sayText.f a1_0 a1_1 a1_2).bind fun t144 => (some t144)) = some r := by rw [if_pos rfl] at H; exact H
    clear H; have H := H1; clear H1
    replace H := Option.bind_eq_some_iff.mp H
    obtain ⟨t144, A50, H⟩ := H
    replace H : (some t144) = some r := H
    have A5 := Aside0.mk A50; clear A50
    obtain rfl := Option.some.inj H
    go_enter Try.func23, Try.ntmps23
    go_wp2_with (first | ((with_reducible refine gate_dst (N := 3) rfl ?_); refine box_event ?hg (N := 3) ?hd (cs := #[.int .i64 a1_0, .int .i64 a1_1, .int .i64 a1_2]) (t := 25) ?hr ?_; (case hd => rfl); (case hg => rfl); (case hr => first | (go_simp; done) | (go_simp; rfl)); intro gb142 hg w6 hbox hb; have n0_ := Aside0.mk (below_step (by repeat (first | (with_reducible first | exact HB.out | apply below_alloc | apply pw_below_drewN | apply below_drew1) | exact HB.out)) hb); have n1_ := Aside0.mk (hbox); have n2_ := Aside0.mk ((by rw [hg]; exact (below_size (by repeat (first | (with_reducible first | exact HB.out | apply below_alloc | apply pw_below_drewN | apply below_drew1) | exact HB.out))) : w.heap.size ≤ gb142)); have n3_ := Aside0.mk ((by rw [hg]; exact (below_size (by repeat (first | (with_reducible first | exact HB.out | apply below_alloc | apply pw_below_drewN | apply below_drew1) | exact HB.out))) : w.heap.size ≤ gb142)); clear HB; have HB := n0_; have BK142 := n1_; have GW142 := n2_; have GE142 := n3_; clear n0_ n1_ n2_ n3_ hb hbox hg; have hcz7_0 : w6.cell? ⟨gb142, 0, none⟩ = some (.int .i64 a1_0) := (blk_cell BK142.out 0).trans rfl; have hcz7_1 : w6.cell? ⟨gb142, 1, none⟩ = some (.int .i64 a1_1) := (blk_cell BK142.out 1).trans rfl; have hcz7_2 : w6.cell? ⟨gb142, 2, none⟩ = some (.int .i64 a1_2) := (blk_cell BK142.out 2).trans rfl; have hfz7_0 := blk_frozen BK142.out 0; have hfz7_1 := blk_frozen BK142.out 1; have hfz7_2 := blk_frozen BK142.out 2) | ((with_reducible refine gate_callee (f := 50) rfl ?_); refine goesL_ (some 7) rfl rfl Try.func50 (by kernel_rfl) rfl #[.int .i64 a0, .agg #[.int .i64 a1_0, .int .i64 a1_1, .int .i64 a1_2]] rfl (by (try simp only [List.map_toArray, List.map_cons, List.map_nil]); first | done | rfl | (simp only [List.length_drop, List.length_take]; rfl)) ?_; (with_reducible refine (impl_isSay.calls a0 a1_0 a1_1 a1_2 true _ A3.out).mono ?_); rintro e w8 ⟨rfl, hb⟩; refine ⟨_, rfl, ?_⟩; have n0_ := Aside0.mk (blk_below (g := gb142) (o := .cells #[.int .i64 a1_0, .int .i64 a1_1, .int .i64 a1_2] 25 (0, 0)) (by (with_reducible repeat (first | refine blk_drewN ?_ _ | refine blk_drew ?_ | refine blk_alloc ?_ _)); exact BK142.out) hb); have n1_ := Aside0.mk (below_step (by repeat (first | (with_reducible first | exact HB.out | apply below_alloc | apply pw_below_drewN | apply below_drew1 | refine below_set ?_ GE142.out) | exact HB.out)) hb); clear BK142 HB; have BK142 := n0_; have HB := n1_; clear n0_ n1_; (try clear hb); (try clear hb2); (try clear hk); (try clear hi); have hcz9_0 : w8.cell? ⟨gb142, 0, none⟩ = some (.int .i64 a1_0) := (blk_cell BK142.out 0).trans rfl; have hcz9_1 : w8.cell? ⟨gb142, 1, none⟩ = some (.int .i64 a1_1) := (blk_cell BK142.out 1).trans rfl; have hcz9_2 : w8.cell? ⟨gb142, 2, none⟩ = some (.int .i64 a1_2) := (blk_cell BK142.out 2).trans rfl; have hfz9_0 := blk_frozen BK142.out 0; have hfz9_1 := blk_frozen BK142.out 1; have hfz9_2 := blk_frozen BK142.out 2) | ((with_reducible refine gate_callee (f := 52) rfl ?_); refine goesL_ (some 10) rfl rfl Try.func52 (by kernel_rfl) rfl #[.agg #[.int .i64 a1_0, .int .i64 a1_1, .int .i64 a1_2]] rfl (by (try simp only [List.map_toArray, List.map_cons, List.map_nil]); first | done | rfl | (simp only [List.length_drop, List.length_take]; rfl)) ?_; (with_reducible refine (impl_sayText.calls a1_0 a1_1 a1_2 t144 _ A5.out).mono ?_); rintro e w10 ⟨rfl, hb⟩; refine ⟨_, rfl, ?_⟩; have n0_ := Aside0.mk (blk_below (g := gb142) (o := .cells #[.int .i64 a1_0, .int .i64 a1_1, .int .i64 a1_2] 25 (0, 0)) (by (with_reducible repeat (first | refine blk_drewN ?_ _ | refine blk_drew ?_ | refine blk_alloc ?_ _)); exact BK142.out) hb); have n1_ := Aside0.mk (below_step (by repeat (first | (with_reducible first | exact HB.out | apply below_alloc | apply pw_below_drewN | apply below_drew1 | refine below_set ?_ GE142.out) | exact HB.out)) hb); clear BK142 HB; have BK142 := n0_; have HB := n1_; clear n0_ n1_; (try clear hb); (try clear hb2); (try clear hk); (try clear hi)))
    go_ret
    exact ⟨by first | rfl | (simp [errW_none, errW_some] <;> rfl) | (simp [*, errW_none, errW_some] <;> rfl), by repeat (first | (with_reducible first | exact HB.out | apply below_alloc | apply pw_below_drewN | apply below_drew1 | refine below_set ?_ GE142.out) | exact HB.out)⟩
  · replace c4 := Bool.eq_false_iff.mpr c4; subst c4
    have H1 : (some (⟨#[]⟩ : ByteArray)) = some r := by rw [if_neg (show ¬ (false = true) by decide)] at H; exact H
    clear H; have H := H1; clear H1
    obtain rfl := Option.some.inj H
    go_enter Try.func23, Try.ntmps23
    go_wp2_with (first | ((with_reducible refine gate_dst (N := 3) rfl ?_); refine box_event ?hg (N := 3) ?hd (cs := #[.int .i64 a1_0, .int .i64 a1_1, .int .i64 a1_2]) (t := 25) ?hr ?_; (case hd => rfl); (case hg => rfl); (case hr => first | (go_simp; done) | (go_simp; rfl)); intro gb142 hg w11 hbox hb; have n0_ := Aside0.mk (below_step (by repeat (first | (with_reducible first | exact HB.out | apply below_alloc | apply pw_below_drewN | apply below_drew1) | exact HB.out)) hb); have n1_ := Aside0.mk (hbox); have n2_ := Aside0.mk ((by rw [hg]; exact (below_size (by repeat (first | (with_reducible first | exact HB.out | apply below_alloc | apply pw_below_drewN | apply below_drew1) | exact HB.out))) : w.heap.size ≤ gb142)); have n3_ := Aside0.mk ((by rw [hg]; exact (below_size (by repeat (first | (with_reducible first | exact HB.out | apply below_alloc | apply pw_below_drewN | apply below_drew1) | exact HB.out))) : w.heap.size ≤ gb142)); clear HB; have HB := n0_; have BK142 := n1_; have GW142 := n2_; have GE142 := n3_; clear n0_ n1_ n2_ n3_ hb hbox hg; have hcz12_0 : w11.cell? ⟨gb142, 0, none⟩ = some (.int .i64 a1_0) := (blk_cell BK142.out 0).trans rfl; have hcz12_1 : w11.cell? ⟨gb142, 1, none⟩ = some (.int .i64 a1_1) := (blk_cell BK142.out 1).trans rfl; have hcz12_2 : w11.cell? ⟨gb142, 2, none⟩ = some (.int .i64 a1_2) := (blk_cell BK142.out 2).trans rfl; have hfz12_0 := blk_frozen BK142.out 0; have hfz12_1 := blk_frozen BK142.out 1; have hfz12_2 := blk_frozen BK142.out 2) | ((with_reducible refine gate_callee (f := 50) rfl ?_); refine goesL_ (some 7) rfl rfl Try.func50 (by kernel_rfl) rfl #[.int .i64 a0, .agg #[.int .i64 a1_0, .int .i64 a1_1, .int .i64 a1_2]] rfl (by (try simp only [List.map_toArray, List.map_cons, List.map_nil]); first | done | rfl | (simp only [List.length_drop, List.length_take]; rfl)) ?_; (with_reducible refine (impl_isSay.calls a0 a1_0 a1_1 a1_2 false _ A3.out).mono ?_); rintro e w13 ⟨rfl, hb⟩; refine ⟨_, rfl, ?_⟩; have n0_ := Aside0.mk (blk_below (g := gb142) (o := .cells #[.int .i64 a1_0, .int .i64 a1_1, .int .i64 a1_2] 25 (0, 0)) (by (with_reducible repeat (first | refine blk_drewN ?_ _ | refine blk_drew ?_ | refine blk_alloc ?_ _)); exact BK142.out) hb); have n1_ := Aside0.mk (below_step (by repeat (first | (with_reducible first | exact HB.out | apply below_alloc | apply pw_below_drewN | apply below_drew1 | refine below_set ?_ GE142.out) | exact HB.out)) hb); clear BK142 HB; have BK142 := n0_; have HB := n1_; clear n0_ n1_; (try clear hb); (try clear hb2); (try clear hk); (try clear hi)))
    go_ret
    exact ⟨by first | rfl | (simp [errW_none, errW_some] <;> rfl) | (simp [*, errW_none, errW_some] <;> rfl), by repeat (first | (with_reducible first | exact HB.out | apply below_alloc | apply pw_below_drewN | apply below_drew1 | refine below_set ?_ GE142.out) | exact HB.out)⟩

end Go.Proofs.Ytainbbpmaengjaa.PA
