/- The law FnExactWeighSo over plain numbers and rows: it answers true; no condition. -/
import Derived.Test.YtknphpgalklclaaSemWeighSo
import Derived.Test.YtknphpgalklclaaPAx46
namespace Go.Proofs.Ytknphpgalklclaa.Pure
open Go.RowKit Go.Proofs.Ytknphpgalklclaa.PA Go.Proofs.YtknphpgalklclaaW.PrintWords Go.Proofs.YtknphpgalklclaaW.PrintLast
set_option linter.unusedVariables false
set_option linter.unusedSimpArgs false
theorem FnExactWeighSo (l0 : List Int) (b0 : l0.length ≤ 9223372036854775807) (w0 : ∀ x ∈ l0, (Lit.int .i64 x).wf = true) (a1_0 : Int) (w1_0 : (Lit.int .i64 a1_0).wf = true) (a1_1 : Int) (w1_1 : (Lit.int .i64 a1_1).wf = true) (a1_2 : Int) (w1_2 : (Lit.int .i64 a1_2).wf = true) : ∃ k, laws_FnExactWeighSo.f k l0 a1_0 a1_1 a1_2 = some true := by
  refine Ev.rounds (g := fun k => laws_FnExactWeighSo.f k l0 a1_0 a1_1 a1_2) ?_
  unfold laws_FnExactWeighSo.f
  by_cases hl : (l0.length : Int) > 1048576
  · simp only [if_pos hl]
    exact Ev.now _
  · simp only [if_neg hl, Sem.toSay_eq, Option.bind_some]
    have ht := Sem.toIntS_eq l0 (by omega)
    refine Ev.bind ht (Ev.bind (Sem.spec_WeighSo_eq l0 (by omega) a1_0 a1_1 a1_2) (Ev.bind ht (Ev.bind (Sem.impl_WeighSo_eq l0 a1_0 a1_1 a1_2) ?_)))
    simp only [bne_self_eq_false, Bool.false_eq_true, if_false]
    refine Ev.bind ht (Ev.bind (Sem.eqIntS_self l0 (by omega)) ?_)
    exact Ev.now _
end Go.Proofs.Ytknphpgalklclaa.Pure
