/- The law FnExactNamedMachine over plain bytes: it answers true; no condition but the argument's range. -/
import Derived.Test.YtgaapfldimokpaaSemNamedI
import Derived.Test.YtgaapfldimokpaaSemMark
import Derived.Test.YtgaapfldimokpaaPAx9
namespace Go.Proofs.Ytgaapfldimokpaa.Pure
open Go.RowKit Go.Proofs.Ytgaapfldimokpaa.PA Go.Proofs.Ytgaapfldimokpaa.Sem Go.Proofs.YtgaapfldimokpaaW.PrintWords Go.Proofs.YtgaapfldimokpaaW.PrintLast
set_option linter.unusedVariables false
set_option linter.unusedSimpArgs false

theorem eqM (a b c : List Int) (ha : a.length ≤ 1048576) (hb : b.length ≤ 1048576) (hc : c.length ≤ 1048576) : Ev (fun k => laws_eqMachine.f k a b c a b c) true := by
  unfold laws_eqMachine.f
  refine Ev.bind (eqIntS_self a ha) ?_
  simp only [if_true]
  refine Ev.bind (eqIntS_self b hb) ?_
  simp only [if_true]
  refine Ev.bind (eqIntS_self c hc) ?_
  simp only [if_true]
  exact Ev.now _
theorem named_ev (a0 : ByteArray) : Ev (fun k => laws_FnExactNamedMachine.f k a0) true := by
  unfold laws_FnExactNamedMachine.f
  by_cases h0 : (a0.size : Int) > 1048576
  · simp only [if_pos h0]; exact Ev.now _
  · simp only [if_neg h0]
    have hs := spec_NamedMachine_eq a0
    have hi := impl_NamedMachine_eq a0
    obtain ⟨l0, l1, l2⟩ := namedM_len a0.data.toList
    revert hs hi l0 l1 l2
    generalize namedM a0.data.toList = m
    obtain ⟨a, b, c, d⟩ := m
    intro hs hi l0 l1 l2
    have l0 : a.length ≤ 12 := l0
    have l1 : b.length ≤ 12 := l1
    have l2 : c.length ≤ 12 := l2
    refine Ev.bind hs (Ev.bind hi ?_)
    refine Ev.bind (eqM a b c (by omega) (by omega) (by omega)) ?_
    simp only [if_true, bne_self_eq_false]
    have held := heldMachine_eq a.length b.length c.length (by omega) (by omega) (by omega)
    have hp : ¬ (1 + (a.length : Int) + b.length + c.length < 0) := by omega
    refine Ev.step (f := fun k => (laws_markMachine.f k a b c 1).bind fun bt305 => ((laws_heldMachine.f k bt305.2.1 bt305.2.2.1 bt305.2.2.2 1).bind fun t309 => (if t309 < 0 then (some false) else (if t309 = bt305.1 then ((impl_NamedMachine.f k a0).bind fun bt310 => ((laws_eqMachine.f k bt310.1 bt310.2.1 bt310.2.2.1 a b c).bind fun t321 => (if t321 = true then (laws_FnExactNamedMachine.j1 k bt305.1 (bt310.2.2.2 != d) bt305.2.1 bt305.2.2.1 bt305.2.2.2) else (laws_FnExactNamedMachine.j1 k bt305.1 true bt305.2.1 bt305.2.2.1 bt305.2.2.2)))) else (some false))))) (fun k => by simp only [laws_FnExactNamedMachine.j0, Bool.false_eq_true, if_false]) ?_
    refine Ev.bind (markMachine_eq a b c (by omega) (by omega) (by omega)) ?_
    refine Ev.bind held ?_
    simp only [if_neg hp, if_true]
    refine Ev.bind hi ?_
    refine Ev.bind (eqM a b c (by omega) (by omega) (by omega)) ?_
    simp only [if_true, bne_self_eq_false]
    refine Ev.step (f := fun k => (laws_heldMachine.f k (nums 1 a.length) (nums (1 + (a.length : Int)) b.length) (nums (1 + (a.length : Int) + b.length) c.length) 1).bind fun t322 => (if t322 < 0 then (some false) else (if t322 = 1 + (a.length : Int) + b.length + c.length then (some true) else (some false)))) (fun k => by simp only [laws_FnExactNamedMachine.j1, Bool.false_eq_true, if_false]) ?_
    refine Ev.bind held ?_
    simp only [if_neg hp, if_true]
    exact Ev.now _
theorem FnExactNamedMachine (a0 : ByteArray) (w0 : a0.size ≤ 140737488351232) : ∃ k, laws_FnExactNamedMachine.f k a0 = some true := by
  obtain ⟨k, hk⟩ := named_ev a0
  exact ⟨k, hk k (Nat.le_refl _)⟩
end Go.Proofs.Ytgaapfldimokpaa.Pure
