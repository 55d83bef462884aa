/- The law FnExactProvedMany over plain numbers and rows: it answers true; no condition. -/
import Derived.Test.YthnmllkhlinnaaaSemProvedEq
import Derived.Test.YthnmllkhlinnaaaPAx14
import Derived.Test.YthnmllkhlinnaaaPAx13
namespace Go.Proofs.Ythnmllkhlinnaaa.Pure
open Go.RowKit Go.Proofs.Ythnmllkhlinnaaa.PA Go.Proofs.YthnmllkhlinnaaaW.PrintWords Go.Proofs.YthnmllkhlinnaaaW.PrintLast
set_option linter.unusedVariables false
set_option linter.unusedSimpArgs false
theorem FnExactProvedMany (a0 : Int) (w0 : (Lit.int .i64 a0).wf = true) (l1 : List S24) (b1 : l1.length ≤ 9223372036854775807) (w1 : ∀ x ∈ l1, (Lit.int .i64 x.f0).wf = true ∧ (Lit.int .i64 x.f1).wf = true ∧ (Lit.int .i64 x.f2).wf = true) : ∃ k, laws_FnExactProvedMany.f k a0 l1 = some true := by
  refine Ev.rounds (g := fun k => laws_FnExactProvedMany.f k a0 l1) ?_
  unfold laws_FnExactProvedMany.f
  by_cases h : l1.length ≤ 1048576
  · simp only [Sem.sz_ok l1 h, Option.bind_some, if_neg (show ¬ (1048576 - (l1.length : Int) < 0) by omega)]
    have ht := Sem.toSayS_eq l1 h
    have hm : (l1.map Sem.conv).length ≤ 1048576 := by rw [List.length_map]; exact h
    refine Ev.bind ht (Ev.bind (Sem.spec_ProvedMany_eq a0 _ hm) (Ev.bind ht ?_))
    have hi : impl_ProvedMany.f a0 (l1.map Sem.conv) = some (Man.manyB a0 (l1.map Sem.conv)) := rfl
    simp only [hi, Option.bind_some, if_true]
    refine Ev.bind ht (Ev.bind (Sem.eqSayS_self _ hm) ?_)
    simp only [if_true]
    exact Ev.now _
  · simp only [Sem.sz_no l1 b1 h, Option.bind_some]
    exact Ev.now _
end Go.Proofs.Ythnmllkhlinnaaa.Pure
