/- The law FnExactSoIn over plain numbers: it answers true, for all ints; no condition. -/
import Derived.OpenShut
import Derived.Test.YtainbbpmaengjaaSemSoIn
import Derived.Test.YtainbbpmaengjaaPAx11
namespace Go.Proofs.Ytainbbpmaengjaa.Pure
open Go.RowKit Go.Proofs.Ytainbbpmaengjaa.PA Go.Proofs.YtainbbpmaengjaaW.PrintWords Go.Proofs.YtainbbpmaengjaaW.PrintLast
set_option linter.unusedVariables false
set_option linter.unusedSimpArgs false
theorem FnExactSoIn (a0 : Int) (w0 : (Lit.int .i64 a0).wf = true) (a1 : Int) (w1 : (Lit.int .i64 a1).wf = true) (a2_0 : Int) (w2_0 : (Lit.int .i64 a2_0).wf = true) (a2_1 : Int) (w2_1 : (Lit.int .i64 a2_1).wf = true) (a2_2 : Int) (w2_2 : (Lit.int .i64 a2_2).wf = true) : ∃ k, laws_FnExactSoIn.f k a0 a1 a2_0 a2_1 a2_2 = some true := by
  refine Ev.rounds (g := fun k => laws_FnExactSoIn.f k a0 a1 a2_0 a2_1 a2_2) ?_
  unfold laws_FnExactSoIn.f
  simp only [Sem.toSay_eq, Option.bind_some]
  refine Ev.bind (Sem.spec_SoIn_eq a0 a1 a2_0 a2_1 a2_2) (Ev.bind (Sem.impl_SoIn_eq a0 a1 a2_0 a2_1 a2_2 (bounds_i64 w1).2) ?_)
  simp only [bne_self_eq_false, Bool.false_eq_true, if_false]
  exact Ev.now _
end Go.Proofs.Ytainbbpmaengjaa.Pure
