/- The contrary of a machine, in plain words: the program's answer; no condition but a row's length. -/
import Derived.Test.YtgaapfldimokpaaSemMach
import Derived.Test.YtgaapfldimokpaaPAx25
namespace Go.Proofs.Ytgaapfldimokpaa.Sem
open Go.RowKit Go.Proofs.Ytgaapfldimokpaa.PA Go.Proofs.YtgaapfldimokpaaW.PrintWords Go.Proofs.YtgaapfldimokpaaW.PrintLast Go.Proofs.YtgaapfldimokpaaW.PrintMore
set_option linter.unusedVariables false
set_option linter.unusedSimpArgs false

/-- What MachineNot answers. -/
def notM (a b c : List Int) : List Int × List Int × List Int := if MachOk a b c then (a, b, c.map fun x => wrap64 (1 - x)) else ([], [], [])

theorem impl_not_from (c x y : List Int) (hc : c.length ≤ 1000) (d : Nat) : ∀ i, i + d = c.length →
    Ev (fun k => impl_MachineNot.l0 k c (c.length : Int) (i : Int) x y ((c.take i).map fun x => wrap64 (1 - x))) (x, y, c.map fun x => wrap64 (1 - x)) := by
  induction d with
  | zero =>
    intro i hi
    rw [List.take_of_length_le (by omega)]
    refine Ev.step (f := fun _ => some (x, y, c.map fun x => wrap64 (1 - x))) (fun k => ?_) (Ev.now _)
    simp only [impl_MachineNot.l0]
    rw [if_neg (by omega)]
  | succ d ih =>
    intro i hi
    have hlt : i < c.length := by omega
    have hw : wrap64 ((i : Int) + 1) = ((i + 1 : Nat) : Int) := by unfold wrap64; omega
    refine Ev.step (f := fun k => impl_MachineNot.l0 k c (c.length : Int) ((i + 1 : Nat) : Int) x y ((c.take (i + 1)).map fun x => wrap64 (1 - x))) (fun k => ?_) (ih (i + 1) (by omega))
    simp only [impl_MachineNot.l0]
    rw [if_pos (by omega), if_pos (by omega), if_pos (by omega), if_pos (by rw [List.length_map, List.length_take]; omega), hw, rd_at c i hlt, List.take_succ_eq_append_getElem hlt, List.map_append]
    rfl

theorem impl_MachineNot_eq (a b c : List Int) : Ev (fun k => impl_MachineNot.f k a b c) (notM a b c) := by
  unfold impl_MachineNot.f notM
  refine Ev.bind (impl_isMachine_eq a b c) ?_
  by_cases h : MachOk a b c
  · obtain ⟨h1, h2, h3, h4⟩ := h.1
    simp only [decide_eq_true h, if_true, Option.bind_some, List.nil_append, List.length_nil, if_pos (show 0 + a.length < 17592186044416 by omega), if_pos (show 0 + b.length < 17592186044416 by omega), if_pos h]
    exact impl_not_from c a b (by omega) c.length 0 (by omega)
  · simp only [decide_eq_false h, Bool.false_eq_true, if_false, if_neg h]
    exact Ev.now _
theorem notM_len (a b c : List Int) : (notM a b c).1.length ≤ 12 ∧ (notM a b c).2.1.length ≤ 12 ∧ (notM a b c).2.2.length ≤ 12 := by
  unfold notM
  split
  · rename_i h
    obtain ⟨h1, h2, h3, h4⟩ := h.1
    simp only [List.length_map]
    omega
  · simp
end Go.Proofs.Ytgaapfldimokpaa.Sem
