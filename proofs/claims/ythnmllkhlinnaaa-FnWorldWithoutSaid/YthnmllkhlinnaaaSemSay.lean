/- What the small functions of chapter 5 answer, in plain words: sentences that are allowed. -/
import Derived.Test.YthnmllkhlinnaaaSemBase
import Derived.Test.YthnmllkhlinnaaaPAx2
import Derived.Test.YthnmllkhlinnaaaPAx25
import Derived.Test.YthnmllkhlinnaaaPAx6
namespace Go.Proofs.Ythnmllkhlinnaaa.Sem
open Go.RowKit Go.Proofs.Ythnmllkhlinnaaa.PA Go.Proofs.YthnmllkhlinnaaaW.PrintWords Go.Proofs.YthnmllkhlinnaaaW.PrintLast
set_option linter.unusedVariables false
set_option linter.unusedSimpArgs false

/-- A sentence of all or some about terms of so many kinds. -/
def OkSay (k f o t : Int) : Prop := 1 ≤ k ∧ k ≤ 3 ∧ 0 ≤ f ∧ f ≤ 1 ∧ 0 ≤ o ∧ o < 2 * k ∧ 0 ≤ t ∧ t < 2 * k
instance (k f o t : Int) : Decidable (OkSay k f o t) := by unfold OkSay; infer_instance

theorem w2 {k : Int} (h : 1 ≤ k) (h3 : k ≤ 3) : wrap64 (2 * k) = 2 * k := by unfold wrap64; omega
theorem w21 {k : Int} (h : 1 ≤ k) (h3 : k ≤ 3) : wrap64 (2 * k - 1) = 2 * k - 1 := by unfold wrap64; omega

theorem spec_SayOk_eq (k f o t : Int) : spec_SayOk.f k f o t = some (decide (OkSay k f o t)) := by
  unfold spec_SayOk.f OkSay
  simp only [l1In_eq, Option.bind_some, decide_eq_true_eq]
  by_cases hk : 1 ≤ k ∧ k ≤ 3
  · rw [if_pos hk, w2 hk.1 hk.2, w21 hk.1 hk.2]
    by_cases h1 : 0 ≤ f ∧ f ≤ 1
    · rw [if_pos h1]
      by_cases h2 : 0 ≤ o ∧ o ≤ 2 * k - 1
      · rw [if_pos h2]; exact congrArg some (decide_eq_decide.mpr (by omega))
      · rw [if_neg h2]; exact congrArg some (decide_eq_false (by omega)).symm
    · rw [if_neg h1]; exact congrArg some (decide_eq_false (by omega)).symm
  · rw [if_neg hk]; exact congrArg some (decide_eq_false (by omega)).symm

theorem impl_isSay_eq (k f o t : Int) : impl_isSay.f k f o t = some (decide (OkSay k f o t)) := by
  unfold impl_isSay.f OkSay
  by_cases hk : 1 ≤ k ∧ k ≤ 3
  · rw [if_neg (by omega), if_neg (by omega), w2 hk.1 hk.2]
    by_cases h1 : f = 0
    · rw [if_pos h1]
      by_cases h2 : 0 ≤ o
      · rw [if_pos h2]
        by_cases h3 : o < 2 * k
        · rw [if_pos h3]
          by_cases h4 : 0 ≤ t
          · rw [if_pos h4]; exact congrArg some (decide_eq_decide.mpr (by omega))
          · rw [if_neg h4]; exact congrArg some (decide_eq_false (by omega)).symm
        · rw [if_neg h3]; exact congrArg some (decide_eq_false (by omega)).symm
      · rw [if_neg h2]; exact congrArg some (decide_eq_false (by omega)).symm
    · rw [if_neg h1]
      by_cases h1' : f = 1
      · rw [if_pos h1']
        by_cases h2 : 0 ≤ o
        · rw [if_pos h2]
          by_cases h3 : o < 2 * k
          · rw [if_pos h3]
            by_cases h4 : 0 ≤ t
            · rw [if_pos h4]; exact congrArg some (decide_eq_decide.mpr (by omega))
            · rw [if_neg h4]; exact congrArg some (decide_eq_false (by omega)).symm
          · rw [if_neg h3]; exact congrArg some (decide_eq_false (by omega)).symm
        · rw [if_neg h2]; exact congrArg some (decide_eq_false (by omega)).symm
      · rw [if_neg h1']; exact congrArg some (decide_eq_false (by omega)).symm
  · by_cases h : k < 1
    · rw [if_pos h]; exact congrArg some (decide_eq_false (by omega)).symm
    · rw [if_neg h, if_pos (by omega)]; exact congrArg some (decide_eq_false (by omega)).symm


end Go.Proofs.Ythnmllkhlinnaaa.Sem
