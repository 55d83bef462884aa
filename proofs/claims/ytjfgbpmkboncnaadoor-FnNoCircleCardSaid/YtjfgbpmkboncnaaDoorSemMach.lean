/- What a machine is, in plain words: both programs' answers; no condition but a row's length. -/
import Derived.Test.YtjfgbpmkboncnaaDoorSemBase
import Derived.Test.YtjfgbpmkboncnaaDoorPAx2
import Derived.Test.YtjfgbpmkboncnaaDoorPAx6
namespace Go.Proofs.YtjfgbpmkboncnaaDoor.Sem
open Go.RowKit Go.Proofs.YtjfgbpmkboncnaaDoor.PA Go.Proofs.YtjfgbpmkboncnaaDoorW.PrintWords Go.Proofs.YtjfgbpmkboncnaaDoorW.PrintLast Go.Proofs.YtjfgbpmkboncnaaDoorW.PrintMore
set_option linter.unusedVariables false
set_option linter.unusedSimpArgs false

/-- One state's entries are right. -/
def StOk (a b c : List Int) (i : Nat) : Prop := (0 ≤ rd a i ∧ rd a i < a.length) ∧ (0 ≤ rd b i ∧ rd b i < a.length) ∧ (0 ≤ rd c i ∧ rd c i ≤ 1)
instance (a b c : List Int) (i : Nat) : Decidable (StOk a b c i) := by unfold StOk; infer_instance
/-- A machine: 1 to 12 states, each right. -/
def MachOk (a b c : List Int) : Prop := (1 ≤ a.length ∧ a.length ≤ 12 ∧ b.length = a.length ∧ c.length = a.length) ∧ ∀ i, i < a.length → StOk a b c i
instance (a b c : List Int) : Decidable (MachOk a b c) := by unfold MachOk; infer_instance

theorem specMach_from (a b c : List Int) (hl : a.length ≤ 1048577) (hb : b.length = a.length) (hc : c.length = a.length) (n : Nat) : ∀ i, i + n = a.length → (∀ j, j < i → StOk a b c j) →
    Ev (fun k => spec_MachineOk.l0 k (i : Int) a b c) (decide (MachOk a b c)) := by
  induction n with
  | zero =>
    intro i hi hp
    refine Ev.step (f := fun _ => some (decide (MachOk a b c))) (fun k => ?_) (Ev.now _)
    simp only [spec_MachineOk.l0]
    rw [if_neg (by omega), l1In_eq, Option.bind_some, if_pos (show (b.length : Int) = a.length by omega), hc, beq_self_eq_true]
    by_cases h : 1 ≤ (a.length : Int) ∧ (a.length : Int) ≤ 12
    · have hm : MachOk a b c := ⟨⟨by omega, by omega, hb, hc⟩, fun j hj => hp j (by omega)⟩
      rw [decide_eq_true h, if_pos rfl, decide_eq_true hm]
    · have hm : ¬MachOk a b c := fun h' => h ⟨by have := h'.1.1; omega, by have := h'.1.2.1; omega⟩
      rw [decide_eq_false h, decide_eq_false hm, if_neg (by decide)]
  | succ n ih =>
    intro i hi hp
    have hw : wrap64 ((i : Int) + 1) = ((i + 1 : Nat) : Int) := by unfold wrap64; omega
    have hw1 : wrap64 ((a.length : Int) - 1) = (a.length : Int) - 1 := by unfold wrap64; omega
    by_cases h : StOk a b c i
    · refine Ev.step (f := fun k => spec_MachineOk.l0 k ((i + 1 : Nat) : Int) a b c) (fun k => ?_) (ih (i + 1) (by omega) (fun j hj => by
        rcases Nat.lt_or_eq_of_le (Nat.lt_succ_iff.1 hj) with h' | rfl
        · exact hp j h'
        · exact h))
      obtain ⟨h1, h2, h3⟩ := h
      simp only [spec_MachineOk.l0]
      rw [if_pos (by omega), if_pos (by omega), if_pos (by omega), if_pos (by omega), hw1, l1In_eq, l1In_eq, l1In_eq, decide_eq_true (show 0 ≤ rd a i ∧ rd a i ≤ (a.length : Int) - 1 by omega), decide_eq_true (show 0 ≤ rd b i ∧ rd b i ≤ (a.length : Int) - 1 by omega), decide_eq_true h3]
      simp only [Option.bind_some, if_true]
      rw [if_pos (by omega), if_pos (by omega), hw]
    · have hm : ¬MachOk a b c := fun h' => h (h'.2 i (by omega))
      rw [decide_eq_false hm]
      refine Ev.step (f := fun _ => some false) (fun k => ?_) (Ev.now _)
      simp only [spec_MachineOk.l0]
      rw [if_pos (by omega), if_pos (by omega), if_pos (by omega), if_pos (by omega), hw1, l1In_eq, l1In_eq, l1In_eq]
      simp only [Option.bind_some]
      rw [if_pos (show (i : Int) < b.length by omega), if_pos (show (i : Int) < c.length by omega)]
      by_cases h1 : 0 ≤ rd a i ∧ rd a i ≤ (a.length : Int) - 1
      · rw [decide_eq_true h1, if_pos rfl]
        by_cases h2 : 0 ≤ rd b i ∧ rd b i ≤ (a.length : Int) - 1
        · rw [decide_eq_true h2, if_pos rfl, decide_eq_false (fun h3 => h ⟨by omega, by omega, h3⟩), if_neg (by decide)]
        · rw [decide_eq_false h2, if_neg (by decide)]
      · rw [decide_eq_false h1, if_neg (by decide)]

theorem spec_MachineOk_eq (a b c : List Int) (hl : a.length ≤ 1048577) : Ev (fun k => spec_MachineOk.f k a b c) (decide (MachOk a b c)) := by
  unfold spec_MachineOk.f
  by_cases hb : b.length = a.length
  · by_cases hc : c.length = a.length
    · exact specMach_from a b c hl hb hc a.length 0 (by omega) (fun j hj => absurd hj (by omega))
    · have hm : ¬MachOk a b c := fun h' => hc h'.1.2.2.2
      rw [decide_eq_false hm]
      refine Ev.step (f := fun _ => some false) (fun k => ?_) (Ev.now _)
      simp only [spec_MachineOk.l0]
      by_cases h0 : (0 : Int) < a.length
      · rw [if_pos h0, if_pos (by omega), if_neg (by omega)]
      · rw [if_neg h0, l1In_eq, Option.bind_some, decide_eq_false (by omega), if_neg (by decide)]
  · have hm : ¬MachOk a b c := fun h' => hb h'.1.2.2.1
    rw [decide_eq_false hm]
    refine Ev.step (f := fun _ => some false) (fun k => ?_) (Ev.now _)
    simp only [spec_MachineOk.l0]
    by_cases h0 : (0 : Int) < a.length
    · rw [if_pos h0, if_neg (by omega)]
    · rw [if_neg h0, l1In_eq, Option.bind_some, decide_eq_false (by omega), if_neg (by decide)]

theorem implMach_from (a b c : List Int) (hl : c.length ≤ 12) (hl1 : 1 ≤ c.length) (hb : b.length = c.length) (ha : a.length = c.length) (n : Nat) : ∀ i, i + n = c.length → (∀ j, j < i → StOk a b c j) →
    Ev (fun k => impl_isMachine.l0 k (c.length : Int) (c.length : Int) (i : Int) a b c) (decide (MachOk a b c)) := by
  induction n with
  | zero =>
    intro i hi hp
    have hm : MachOk a b c := ⟨⟨by omega, by omega, by omega, by omega⟩, fun j hj => hp j (by omega)⟩
    rw [decide_eq_true hm]
    refine Ev.step (f := fun _ => some true) (fun k => ?_) (Ev.now _)
    simp only [impl_isMachine.l0]
    rw [if_neg (by omega)]
  | succ n ih =>
    intro i hi hp
    have hw : wrap64 ((i : Int) + 1) = ((i + 1 : Nat) : Int) := by unfold wrap64; omega
    by_cases h : StOk a b c i
    · refine Ev.step (f := fun k => impl_isMachine.l0 k (c.length : Int) (c.length : Int) ((i + 1 : Nat) : Int) a b c) (fun k => ?_) (ih (i + 1) (by omega) (fun j hj => by
        rcases Nat.lt_or_eq_of_le (Nat.lt_succ_iff.1 hj) with h' | rfl
        · exact hp j h'
        · exact h))
      obtain ⟨h1, h2, h3⟩ := h
      simp only [impl_isMachine.l0]
      rw [if_pos (by omega), if_pos (by omega), if_pos (by omega), if_neg (by omega), if_neg (by omega), if_pos (by omega), if_neg (by omega), if_neg (by omega), if_pos (by omega), hw]
      by_cases h0 : rd c i = 0
      · rw [if_pos h0]
      · rw [if_neg h0, if_pos (by omega)]
    · have hm : ¬MachOk a b c := fun h' => h (h'.2 i (by omega))
      rw [decide_eq_false hm]
      refine Ev.step (f := fun _ => some false) (fun k => ?_) (Ev.now _)
      simp only [impl_isMachine.l0]
      rw [if_pos (by omega), if_pos (by omega), if_pos (by omega)]
      by_cases h1 : rd a i < 0
      · rw [if_pos h1]
      · rw [if_neg h1]
        by_cases h2 : rd a i ≥ (c.length : Int)
        · rw [if_pos h2]
        · rw [if_neg h2, if_pos (by omega)]
          by_cases h3 : rd b i < 0
          · rw [if_pos h3]
          · rw [if_neg h3]
            by_cases h4 : rd b i ≥ (c.length : Int)
            · rw [if_pos h4]
            · rw [if_neg h4, if_pos (by omega)]
              by_cases h5 : rd c i = 0
              · exact absurd ⟨⟨by omega, by omega⟩, ⟨by omega, by omega⟩, ⟨by omega, by omega⟩⟩ h
              · rw [if_neg h5]
                by_cases h6 : rd c i = 1
                · exact absurd ⟨⟨by omega, by omega⟩, ⟨by omega, by omega⟩, ⟨by omega, by omega⟩⟩ h
                · rw [if_neg h6]

theorem impl_isMachine_eq (a b c : List Int) : Ev (fun k => impl_isMachine.f k a b c) (decide (MachOk a b c)) := by
  unfold impl_isMachine.f
  have no (h : ¬MachOk a b c) : Ev (fun k => impl_isMachine.j0 k (c.length : Int) true a b c) (decide (MachOk a b c)) := by
    rw [decide_eq_false h]
    exact Ev.step (f := fun _ => some false) (fun k => by simp only [impl_isMachine.j0, if_true]) (Ev.now _)
  by_cases h1 : (c.length : Int) < 1
  · simp only [if_pos h1]; exact no (fun h => by have := h.1; omega)
  · simp only [if_neg h1]
    by_cases h2 : (c.length : Int) > 12
    · simp only [if_pos h2]; exact no (fun h => by have := h.1; omega)
    · simp only [if_neg h2]
      by_cases h3 : (a.length : Int) = c.length
      · simp only [if_pos h3]
        by_cases h4 : (b.length : Int) = c.length
        · refine Ev.step (f := fun k => impl_isMachine.l0 k (c.length : Int) (c.length : Int) ((0 : Nat) : Int) a b c) (fun k => ?_) (implMach_from a b c (by omega) (by omega) (by omega) (by omega) c.length 0 (by omega) (fun j hj => absurd hj (by omega)))
          rw [h4, bne_self_eq_false]
          simp only [impl_isMachine.j0, Bool.false_eq_true, if_false]
          rfl
        · have : ((b.length : Int) != c.length) = true := bne_iff_ne.2 h4
          rw [this]
          exact no (fun h => by have := h.1; omega)
      · simp only [if_neg h3]; exact no (fun h => by have := h.1; omega)

end Go.Proofs.YtjfgbpmkboncnaaDoor.Sem
