/- Which sentences compare numbers, in plain words; no condition. -/
import Derived.Test.YtmkfmbjemdbigaaSemBase
import Derived.Test.YtmkfmbjemdbigaaPAx6
namespace Go.Proofs.Ytmkfmbjemdbigaa.Sem
open Go.RowKit Go.Proofs.Ytmkfmbjemdbigaa.PA Go.Proofs.YtmkfmbjemdbigaaW.PrintWords Go.Proofs.YtmkfmbjemdbigaaW.PrintLast Go.Proofs.YtmkfmbjemdbigaaW.PrintMore
set_option linter.unusedVariables false
set_option linter.unusedSimpArgs false

def OkWeigh (f o t : Int) : Prop := 0 ≤ f ∧ f ≤ 5 ∧ 0 ≤ o ∧ o ≤ 3 ∧ 0 ≤ t ∧ t ≤ 3
instance (f o t : Int) : Decidable (OkWeigh f o t) := by unfold OkWeigh; infer_instance

theorem spec_WeighOk_eq (f o t : Int) : spec_WeighOk.f f o t = some (decide (OkWeigh f o t)) := by
  unfold spec_WeighOk.f OkWeigh
  simp only [l1In_eq, Option.bind_some, decide_eq_true_eq]
  by_cases h1 : 0 ≤ f ∧ f ≤ 5
  · rw [if_pos h1]
    by_cases h2 : 0 ≤ o ∧ o ≤ 3
    · rw [if_pos h2]; exact congrArg some (decide_eq_decide.mpr (by omega))
    · rw [if_neg h2]; exact congrArg some (decide_eq_false (by omega)).symm
  · rw [if_neg h1]; exact congrArg some (decide_eq_false (by omega)).symm

theorem impl_isWeigh_eq (f o t : Int) : impl_isWeigh.f f o t = some (decide (OkWeigh f o t)) := by
  unfold impl_isWeigh.f OkWeigh
  by_cases h1 : f ≥ 0
  · rw [if_pos h1]
    by_cases h2 : f ≤ 5
    · rw [if_pos h2]
      by_cases h3 : o ≥ 0
      · rw [if_pos h3]
        by_cases h4 : o ≤ 3
        · rw [if_pos h4]
          by_cases h5 : t ≥ 0
          · rw [if_pos h5]; exact congrArg some (decide_eq_decide.mpr (by omega))
          · rw [if_neg h5]; exact congrArg some (decide_eq_false (by omega)).symm
        · rw [if_neg h4]; exact congrArg some (decide_eq_false (by omega)).symm
      · rw [if_neg h3]; exact congrArg some (decide_eq_false (by omega)).symm
    · rw [if_neg h2]; exact congrArg some (decide_eq_false (by omega)).symm
  · rw [if_neg h1]; exact congrArg some (decide_eq_false (by omega)).symm

theorem weigh_nat {f o t : Int} (h : OkWeigh f o t) : ∃ f' o' t' : Nat, f = f' ∧ o = o' ∧ t = t' ∧ f' < 6 ∧ o' < 4 ∧ t' < 4 := by
  unfold OkWeigh at h
  exact ⟨f.toNat, o.toNat, t.toNat, by omega, by omega, by omega, by omega, by omega, by omega⟩

end Go.Proofs.Ytmkfmbjemdbigaa.Sem
