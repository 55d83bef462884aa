/- The law FnExactContraryOf over plain numbers: it answers true, for all ints; no condition. -/
import Derived.Test.YtknphpgalklclaaSemWeigh
import Derived.Test.YtknphpgalklclaaPAx25
namespace Go.Proofs.Ytknphpgalklclaa.Pure
open Go.RowKit Go.Proofs.Ytknphpgalklclaa.PA Go.Proofs.YtknphpgalklclaaW.PrintWords Go.Proofs.YtknphpgalklclaaW.PrintLast
set_option linter.unusedVariables false
set_option linter.unusedSimpArgs false
theorem FnExactContraryOf (a0_0 : Int) (w0_0 : (Lit.int .i64 a0_0).wf = true) (a0_1 : Int) (w0_1 : (Lit.int .i64 a0_1).wf = true) (a0_2 : Int) (w0_2 : (Lit.int .i64 a0_2).wf = true) : ∃ k, laws_FnExactContraryOf.f k a0_0 a0_1 a0_2 = some true := by
  refine Ev.rounds (g := fun k => laws_FnExactContraryOf.f k a0_0 a0_1 a0_2) ?_
  unfold laws_FnExactContraryOf.f
  obtain ⟨⟨x, y, z⟩, hs, hi⟩ := Sem.contrary_both a0_0 a0_1 a0_2
  simp only [Sem.toSay_eq, Option.bind_some, hi]
  refine Ev.bind hs ?_
  simp only [Sem.eqSay_self, Option.bind_some, if_true]
  exact Ev.now _
end Go.Proofs.Ytknphpgalklclaa.Pure
