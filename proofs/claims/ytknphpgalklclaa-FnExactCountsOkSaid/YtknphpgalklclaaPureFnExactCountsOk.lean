/- The law FnExactCountsOk over plain rows: it answers true; no condition. -/
import Derived.Test.YtknphpgalklclaaSemCounts
import Derived.Test.YtknphpgalklclaaPAx7
namespace Go.Proofs.Ytknphpgalklclaa.Pure
open Go.RowKit Go.Proofs.Ytknphpgalklclaa.PA Go.Proofs.YtknphpgalklclaaW.PrintWords Go.Proofs.YtknphpgalklclaaW.PrintLast
set_option linter.unusedVariables false
set_option linter.unusedSimpArgs false
theorem FnExactCountsOk (l0 : List Int) (b0 : l0.length ≤ 9223372036854775807) (w0 : ∀ x ∈ l0, (Lit.int .i64 x).wf = true) : ∃ k, laws_FnExactCountsOk.f k l0 = some true := by
  refine Ev.rounds (g := fun k => laws_FnExactCountsOk.f k l0) ?_
  unfold laws_FnExactCountsOk.f
  by_cases hl : (l0.length : Int) > 1048576
  · simp only [if_pos hl]
    exact Ev.now _
  · simp only [if_neg hl]
    have ht := Sem.toIntS_eq l0 (by omega)
    refine Ev.bind ht (Ev.bind (Sem.spec_CountsOk_eq l0 (by omega)) (Ev.bind ht ?_))
    simp only [Sem.impl_CountsOk_eq, Option.bind_some, bne_self_eq_false, Bool.false_eq_true, if_false]
    refine Ev.bind ht (Ev.bind (Sem.eqIntS_self l0 (by omega)) ?_)
    exact Ev.now _
end Go.Proofs.Ytknphpgalklclaa.Pure
