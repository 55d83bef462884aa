/- The law FnExactSaysYes over plain rows and bytes: it answers true; no condition but the arguments' ranges. -/
import Derived.Test.YtjfgbpmkboncnaaDoorSemSays
import Derived.Test.YtjfgbpmkboncnaaDoorSemMachSz
import Derived.Test.YtjfgbpmkboncnaaDoorPAx11
namespace Go.Proofs.YtjfgbpmkboncnaaDoor.Pure
open Go.RowKit Go.Proofs.YtjfgbpmkboncnaaDoor.PA Go.Proofs.YtjfgbpmkboncnaaDoorW.PrintWords Go.Proofs.YtjfgbpmkboncnaaDoorW.PrintLast
set_option linter.unusedVariables false
set_option linter.unusedSimpArgs false
theorem FnExactSaysYes (l0_0 : List Int) (b0_0 : l0_0.length ≤ 9223372036854775807) (w0_0 : ∀ x ∈ l0_0, (Lit.int .i64 x).wf = true) (l0_1 : List Int) (b0_1 : l0_1.length ≤ 9223372036854775807) (w0_1 : ∀ x ∈ l0_1, (Lit.int .i64 x).wf = true) (l0_2 : List Int) (b0_2 : l0_2.length ≤ 9223372036854775807) (w0_2 : ∀ x ∈ l0_2, (Lit.int .i64 x).wf = true) (a1 : ByteArray) (w1 : a1.size ≤ 140737488351232) : ∃ k, laws_FnExactSaysYes.f k l0_0 l0_1 l0_2 a1 = some true := by
  refine Ev.rounds (g := fun k => laws_FnExactSaysYes.f k l0_0 l0_1 l0_2 a1) ?_
  unfold laws_FnExactSaysYes.f
  by_cases hz : (a1.size : Int) > 1048576
  · simp only [if_pos hz]; exact Ev.now _
  · simp only [if_neg hz]
    obtain ⟨t, ht, hs⟩ := Sem.szMachine_eq l0_0 l0_1 l0_2 b0_0 b0_1 b0_2
    simp only [ht, Option.bind_some]
    by_cases hn : t < 0
    · simp only [if_pos hn]
      exact Ev.now _
    · obtain ⟨ha, hb, hc⟩ := hs.resolve_left hn
      simp only [if_neg hn]
      have hto := Sem.toMachine_eq l0_0 l0_1 l0_2 ha hb hc
      refine Ev.bind hto (Ev.bind (Sem.spec_SaysYes_eq l0_0 l0_1 l0_2 a1 (by omega) (by omega)) (Ev.bind hto (Ev.bind (Sem.impl_SaysYes_eq l0_0 l0_1 l0_2 a1 (by omega)) ?_)))
      simp only [bne_self_eq_false, Bool.false_eq_true, if_false]
      refine Ev.bind hto (Ev.bind (Sem.eqMachine_self l0_0 l0_1 l0_2 ha hb hc) ?_)
      simp only [if_true]
      exact Ev.now _
end Go.Proofs.YtjfgbpmkboncnaaDoor.Pure
