/- The law FnTriangleOf: what its calls answer; no condition but the bytes' range. -/
import Derived.Test.YtiplbleghaoehaaManLawTri2
import Derived.Test.YtiplbleghaoehaaSemDrawMach
import Derived.Test.YtiplbleghaoehaaSemTriNot
namespace Go.Proofs.Ytiplbleghaoehaa.Sem
open Go.RowKit Go.Proofs.Ytiplbleghaoehaa.PA Go.Proofs.YtiplbleghaoehaaW.PrintWords Go.Proofs.YtiplbleghaoehaaW.PrintLast Go.Proofs.YtiplbleghaoehaaW.PrintMore
set_option linter.unusedVariables false
set_option linter.unusedSimpArgs false

theorem ev_some {α : Type} {g : Nat → Option α} {x : α} (h : Ev g x) : ∃ k, g k = Option.some x := by
  obtain ⟨k, hk⟩ := h
  exact ⟨k, hk k (Nat.le_refl _)⟩
theorem tri_facts (l0 : List Int) (w0 : ∀ x ∈ l0, (Lit.int .u8 x).wf = true) : ∃ kd k1 k2 k3 r0 r1 r2 T, Go.Proofs.Ytiplbleghaoehaa.Man.TriFacts l0 kd k1 k2 k3 r0 r1 r2 T ∧ ((T = [] ∧ ∃ k4, impl_AnyOrder.f k4 r0 r1 r2 = some false) ∨ ∃ k4 k5 k6 k7 k8 n0 n1 n2, Go.Proofs.Ytiplbleghaoehaa.Man.TriFacts2 k4 k5 k6 k7 k8 r0 r1 r2 T n0 n1 n2) := by
  obtain ⟨b, hb, hR⟩ := open_ok w0
  obtain ⟨r, hr, hS⟩ := l20Machine_ok hR (by omega) 12 (by omega)
  have hD : Ev (fun k => spec_DrawTriangleOf.f k l0) (r.1, r.2.1, r.2.2.1) := by
    unfold spec_DrawTriangleOf.f
    exact Ev.bind (ev1 (fun _ => hb)) (Ev.bind hr (Ev.now _))
  have len := triOf_len r.1 r.2.1 r.2.2.1
  obtain ⟨kd, hd⟩ := ev_some hD
  obtain ⟨k1, h1⟩ := ev_some (impl_TriangleOf_eq r.1 r.2.1 r.2.2.1)
  obtain ⟨k2, h2⟩ := ev_some (spec_TriangleOf_eq r.1 r.2.1 r.2.2.1 (by have := hS.1; omega))
  obtain ⟨k3, h3⟩ := ev_some (sameInts_self (triOf r.1 r.2.1 r.2.2.1) (by omega))
  refine ⟨kd, k1, k2, k3, _, _, _, _, ⟨hd, h1, h2, h3⟩, ?_⟩
  by_cases h : AnyO r.1 r.2.1 r.2.2.1
  · right
    have e : triOf r.1 r.2.1 r.2.2.1 = Man.triRow (Man.triP r.1 r.2.1 r.2.2.1) := by unfold triOf; rw [if_pos h]
    obtain ⟨k4, h4⟩ := ev_some (triOk_eq (Man.triP r.1 r.2.1 r.2.2.1))
    obtain ⟨k5, h5⟩ := ev_some (isTri_eq (Man.triP r.1 r.2.1 r.2.2.1))
    obtain ⟨k6, h6⟩ := ev_some (impl_MachineNot_eq r.1 r.2.1 r.2.2.1)
    obtain ⟨k7, h7⟩ := ev_some (impl_TriangleOf_eq (Go.Proofs.Ytiplbleghaoehaa.Sem.notM r.1 r.2.1 r.2.2.1).1 (Go.Proofs.Ytiplbleghaoehaa.Sem.notM r.1 r.2.1 r.2.2.1).2.1 (Go.Proofs.Ytiplbleghaoehaa.Sem.notM r.1 r.2.1 r.2.2.1).2.2)
    rw [tri_not h] at h7
    obtain ⟨k8, h8⟩ := ev_some (sameInts_self (Man.triRow (Man.notP (Man.triRow (Man.triP r.1 r.2.1 r.2.2.1)))) (by rw [triRow_len]; omega))
    rw [e]
    exact ⟨k4, k5, k6, k7, k8, _, _, _, ⟨by rw [triRow_len]; omega, h4, h5, h6, h7, h8⟩⟩
  · left
    refine ⟨by unfold triOf; rw [if_neg h], ?_⟩
    obtain ⟨o, i, ee⟩ := impl_AnyOrder_eq r.1 r.2.1 r.2.2.1
    have : o = false := by
      cases o with
      | false => rfl
      | true => exact absurd (ee.1 rfl) h
    subst this
    exact ev_some i
end Go.Proofs.Ytiplbleghaoehaa.Sem
