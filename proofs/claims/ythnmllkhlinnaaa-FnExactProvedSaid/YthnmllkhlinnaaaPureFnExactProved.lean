/- The law FnExactProved over plain numbers and rows: it answers true; no condition. -/
import Derived.Test.YthnmllkhlinnaaaSemProvedEq
import Derived.Test.YthnmllkhlinnaaaPAx11
import Derived.Test.YthnmllkhlinnaaaPAx8
namespace Go.Proofs.Ythnmllkhlinnaaa.Pure
open Go.RowKit Go.Proofs.Ythnmllkhlinnaaa.PA Go.Proofs.YthnmllkhlinnaaaW.PrintWords Go.Proofs.YthnmllkhlinnaaaW.PrintLast
set_option linter.unusedVariables false
set_option linter.unusedSimpArgs false
theorem FnExactProved (a0 : Int) (w0 : (Lit.int .i64 a0).wf = true) (l1 : List S24) (b1 : l1.length ≤ 9223372036854775807) (w1 : ∀ x ∈ l1, (Lit.int .i64 x.f0).wf = true ∧ (Lit.int .i64 x.f1).wf = true ∧ (Lit.int .i64 x.f2).wf = true) (a2_0 : Int) (w2_0 : (Lit.int .i64 a2_0).wf = true) (a2_1 : Int) (w2_1 : (Lit.int .i64 a2_1).wf = true) (a2_2 : Int) (w2_2 : (Lit.int .i64 a2_2).wf = true) : ∃ k, laws_FnExactProved.f k a0 l1 a2_0 a2_1 a2_2 = some true := by
  refine Ev.rounds (g := fun k => laws_FnExactProved.f k a0 l1 a2_0 a2_1 a2_2) ?_
  unfold laws_FnExactProved.f
  by_cases h : l1.length ≤ 1048576
  · simp only [Sem.sz_ok l1 h, Option.bind_some, if_neg (show ¬ (1048576 - (l1.length : Int) < 0) by omega), Sem.toSay_eq]
    have ht := Sem.toSayS_eq l1 h
    have hm : (l1.map Sem.conv).length ≤ 1048576 := by rw [List.length_map]; exact h
    refine Ev.bind ht (Ev.bind (Sem.spec_Proved_eq a0 _ hm ⟨a2_0, a2_1, a2_2⟩) (Ev.bind ht ?_))
    have hi : impl_Proved.f a0 (l1.map Sem.conv) a2_0 a2_1 a2_2 = some (Man.provedB a0 (l1.map Sem.conv) ⟨a2_0, a2_1, a2_2⟩) := rfl
    simp only [hi, Option.bind_some, bne_self_eq_false, Bool.false_eq_true, if_false]
    refine Ev.bind ht (Ev.bind (Sem.eqSayS_self _ hm) ?_)
    simp only [if_true]
    exact Ev.now _
  · simp only [Sem.sz_no l1 b1 h, Option.bind_some]
    exact Ev.now _
end Go.Proofs.Ythnmllkhlinnaaa.Pure
