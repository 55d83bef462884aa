/- The triangle of a machine, in plain words: the program's answer; no condition. -/
import Derived.Test.YthodcgkhianecaaDoorSemA
import Derived.Test.YthodcgkhianecaaDoorManTri
import Derived.Test.YthodcgkhianecaaDoorPAx22
namespace Go.Proofs.YthodcgkhianecaaDoor.Sem
open Go.RowKit Go.Proofs.YthodcgkhianecaaDoor.PA Go.Proofs.YthodcgkhianecaaDoorW.PrintWords Go.Proofs.YthodcgkhianecaaDoorW.PrintLast Go.Proofs.YthodcgkhianecaaDoorW.PrintMore
set_option linter.unusedVariables false
set_option linter.unusedSimpArgs false

open Classical in
/-- What TriangleOf answers. -/
noncomputable def triOf (a b c : List Int) : List Int := if AnyO a b c then Man.triRow (Man.triP a b c) else []
theorem impl_TriangleOf_eq (a b c : List Int) : Ev (fun k => impl_TriangleOf.f k a b c) (triOf a b c) := by
  unfold impl_TriangleOf.f Man.triF triOf
  by_cases h : MachOk a b c
  · obtain ⟨S, hn⟩ := h.steps
    obtain ⟨r, hr, e⟩ := impl_anyOrder_eq c S hn
    refine Ev.bind (impl_isMachine_eq a b c) ?_
    rw [decide_eq_true h]
    simp only [if_true]
    refine Ev.bind hr ?_
    cases r with
    | true => rw [if_pos (show AnyO a b c from ⟨h, e.1 rfl⟩)]; simp only [if_true, if_pos h]; exact Ev.now _
    | false => rw [if_neg (show ¬ AnyO a b c from fun h' => absurd (e.2 h'.2) (by simp))]; simp only [Bool.false_eq_true, if_false]; exact Ev.now _
  · refine Ev.bind (impl_isMachine_eq a b c) ?_
    rw [decide_eq_false h, if_neg (show ¬ AnyO a b c from fun h' => h h'.1)]
    simp only [Bool.false_eq_true, if_false]
    exact Ev.now _
end Go.Proofs.YthodcgkhianecaaDoor.Sem
