/- The law FnExactAnyOrder over plain rows: it answers true; no condition but the arguments' ranges. -/
import Derived.Test.YtieplhemmfibiaaSemOrder
import Derived.Test.YtieplhemmfibiaaSemMachSz
import Derived.Test.YtieplhemmfibiaaPAx17
namespace Go.Proofs.Ytieplhemmfibiaa.Pure
open Go.RowKit Go.Proofs.Ytieplhemmfibiaa.PA Go.Proofs.YtieplhemmfibiaaW.PrintWords Go.Proofs.YtieplhemmfibiaaW.PrintLast
set_option linter.unusedVariables false
set_option linter.unusedSimpArgs false
theorem FnExactAnyOrder (l0_0 : List Int) (b0_0 : l0_0.length ≤ 9223372036854775807) (w0_0 : ∀ x ∈ l0_0, (Lit.int .i64 x).wf = true) (l0_1 : List Int) (b0_1 : l0_1.length ≤ 9223372036854775807) (w0_1 : ∀ x ∈ l0_1, (Lit.int .i64 x).wf = true) (l0_2 : List Int) (b0_2 : l0_2.length ≤ 9223372036854775807) (w0_2 : ∀ x ∈ l0_2, (Lit.int .i64 x).wf = true) : ∃ k, laws_FnExactAnyOrder.f k l0_0 l0_1 l0_2 = some true := by
  refine Ev.rounds (g := fun k => laws_FnExactAnyOrder.f k l0_0 l0_1 l0_2) ?_
  unfold laws_FnExactAnyOrder.f
  obtain ⟨t, ht, hs⟩ := Sem.szMachine_eq l0_0 l0_1 l0_2 b0_0 b0_1 b0_2
  simp only [ht, Option.bind_some]
  by_cases hn : t < 0
  · simp only [if_pos hn]
    exact Ev.now _
  · obtain ⟨ha, hb, hc⟩ := hs.resolve_left hn
    simp only [if_neg hn]
    have hto := Sem.toMachine_eq l0_0 l0_1 l0_2 ha hb hc
    obtain ⟨r1, h1, e1⟩ := Sem.spec_AnyOrder_eq l0_0 l0_1 l0_2 (by omega)
    obtain ⟨r2, h2, e2⟩ := Sem.impl_AnyOrder_eq l0_0 l0_1 l0_2
    obtain rfl : r1 = r2 := by rw [Bool.eq_iff_iff, e1, e2]
    refine Ev.bind hto (Ev.bind h1 (Ev.bind hto (Ev.bind h2 ?_)))
    simp only [bne_self_eq_false, Bool.false_eq_true, if_false]
    refine Ev.bind hto (Ev.bind (Sem.eqMachine_self l0_0 l0_1 l0_2 ha hb hc) ?_)
    simp only [if_true]
    exact Ev.now _
end Go.Proofs.Ytieplhemmfibiaa.Pure
