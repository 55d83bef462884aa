/- The law FnExactWeighOk over plain numbers: it answers true, for all ints; no condition. -/
import Derived.Test.YtknphpgalklclaaSemWeigh
import Derived.Test.YtknphpgalklclaaPAx1
namespace Go.Proofs.Ytknphpgalklclaa.Pure
open Go.RowKit Go.Proofs.Ytknphpgalklclaa.PA Go.Proofs.YtknphpgalklclaaW.PrintWords Go.Proofs.YtknphpgalklclaaW.PrintLast
set_option linter.unusedVariables false
set_option linter.unusedSimpArgs false
theorem FnExactWeighOk (a0_0 : Int) (w0_0 : (Lit.int .i64 a0_0).wf = true) (a0_1 : Int) (w0_1 : (Lit.int .i64 a0_1).wf = true) (a0_2 : Int) (w0_2 : (Lit.int .i64 a0_2).wf = true) : laws_FnExactWeighOk.f a0_0 a0_1 a0_2 = some true := by
  unfold laws_FnExactWeighOk.f
  simp only [Sem.toSay_eq, Sem.spec_WeighOk_eq, Sem.impl_WeighOk_eq, Option.bind_some, bne_self_eq_false]
  rfl
end Go.Proofs.Ytknphpgalklclaa.Pure
