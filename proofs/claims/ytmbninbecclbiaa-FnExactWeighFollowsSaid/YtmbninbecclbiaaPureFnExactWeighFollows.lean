/- The law FnExactWeighFollows over plain rows: it answers true, for every row of sentences and every sentence; no condition but a length's range. -/
import Derived.Test.YtmbninbecclbiaaSemA
import Derived.Test.YtmbninbecclbiaaPAx24
namespace Go.Proofs.Ytmbninbecclbiaa.Pure
open Go.RowKit Go.Proofs.Ytmbninbecclbiaa.PA Go.Proofs.YtmbninbecclbiaaW.PrintWords Go.Proofs.YtmbninbecclbiaaW.PrintLast Go.Proofs.YtmbninbecclbiaaW.PrintMore
set_option linter.unusedVariables false
set_option linter.unusedSimpArgs false
theorem FnExactWeighFollows (l0 : List S24) (b0 : l0.length ≤ 9223372036854775807) (w0 : ∀ x ∈ l0, (Lit.int .i64 x.f0).wf = true ∧ (Lit.int .i64 x.f1).wf = true ∧ (Lit.int .i64 x.f2).wf = true) (a1_0 : Int) (w1_0 : (Lit.int .i64 a1_0).wf = true) (a1_1 : Int) (w1_1 : (Lit.int .i64 a1_1).wf = true) (a1_2 : Int) (w1_2 : (Lit.int .i64 a1_2).wf = true) : ∃ k, laws_FnExactWeighFollows.f k l0 a1_0 a1_1 a1_2 = some true := by
  refine Ev.rounds (g := fun k => laws_FnExactWeighFollows.f k l0 a1_0 a1_1 a1_2) ?_
  unfold laws_FnExactWeighFollows.f
  rw [Sem.szSayS_eq l0 b0]
  simp only [Option.bind_some, Sem.toSay_eq]
  by_cases hl : 1048576 < (l0.length : Int)
  · rw [if_pos hl]
    simp only [if_pos (show (-1 : Int) < 0 by omega)]
    exact Ev.now _
  · rw [if_neg hl]
    simp only [if_neg (show ¬ (1048576 - (l0.length : Int) < 0) by omega)]
    have hm : (l0.map Sem.conv).length ≤ 1048576 := by rw [List.length_map]; omega
    have ht := Sem.toSayS_eq l0 (by omega)
    refine Ev.bind ht (Ev.bind (Cor.weighFollows_ev _ a1_0 a1_1 a1_2 (by omega)) (Ev.bind ht ?_))
    simp only [Cor.impl_wf, Option.bind_some, bne_self_eq_false, Bool.false_eq_true, if_false]
    refine Ev.bind ht (Ev.bind (Sem.eqSayS_self _ hm) ?_)
    simp only [if_true]
    exact Ev.now _
end Go.Proofs.Ytmbninbecclbiaa.Pure
