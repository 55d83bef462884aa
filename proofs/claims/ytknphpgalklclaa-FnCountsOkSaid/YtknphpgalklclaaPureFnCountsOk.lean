/- The law FnCountsOk over plain bytes: it answers true, for every code; no condition. -/
import Derived.Test.YtknphpgalklclaaSemDrawCounts
import Derived.Test.YtknphpgalklclaaPAx36
import Derived.Test.YtknphpgalklclaaPAx35
namespace Go.Proofs.Ytknphpgalklclaa.Pure
open Go.RowKit Go.Proofs.Ytknphpgalklclaa.PA Go.Proofs.YtknphpgalklclaaW.PrintWords Go.Proofs.YtknphpgalklclaaW.PrintLast
set_option linter.unusedVariables false
set_option linter.unusedSimpArgs false
theorem FnCountsOk (l0 : List Int) (b0 : l0.length ≤ 9223372036854775807) (w0 : ∀ x ∈ l0, (Lit.int .u8 x).wf = true) : ∃ k, laws_FnCountsOk.f k l0 = some true := by
  refine Ev.rounds (g := fun k => laws_FnCountsOk.f k l0) ?_
  unfold laws_FnCountsOk.f
  by_cases hl : (l0.length : Int) > 1048576
  · simp only [if_pos hl]
    exact Ev.now _
  · simp only [if_neg hl]
    obtain ⟨b, eo, hb⟩ := Sem.open_ok w0
    obtain ⟨l, p, ec, _, hl5, _⟩ := Sem.l20Counts_ok hb (by omega) 3 (by omega)
    have hd : Ev (fun q => spec_DrawCountsOk.f q l0) l := by
      unfold spec_DrawCountsOk.f
      simp only [eo, Option.bind_some]
      exact Ev.bind ec (Ev.now _)
    refine Ev.bind hd ?_
    simp only [Sem.impl_CountsOk_eq, Option.bind_some]
    refine Ev.bind (Sem.spec_CountsOk_eq l (by omega)) ?_
    have h4 : Man.countsB [0, 0, 0, 0] = true := by decide
    have h3 : Man.countsB [0, 0, 0] = false := by decide
    simp only [bne_self_eq_false, Bool.false_eq_true, if_false, h4, h3, if_true, Sem.alive_ok, Option.bind_some]
    exact Ev.now _
end Go.Proofs.Ytknphpgalklclaa.Pure
