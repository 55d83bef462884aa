/- The law FnExactCornersOf: what its calls answer; no condition but a length. -/
import Derived.Test.YtmbninbecclbiaaManLawCor
namespace Go.Proofs.Ytmbninbecclbiaa.ManR
open Go.RowKit Go.Proofs.Ytmbninbecclbiaa.PA Go.Proofs.YtmbninbecclbiaaW.PrintWords Go.Proofs.YtmbninbecclbiaaW.PrintLast Go.Proofs.YtmbninbecclbiaaW.PrintMore
set_option linter.unusedVariables false
set_option linter.unusedSimpArgs false
open Go.Proofs.Ytmbninbecclbiaa.Sem (markN mk4 conv)

theorem corA_len (L : List S29) : (corA L).length ≤ 1000 ∧ ∀ x ∈ corA L, x.length = 4 := by
  unfold corA
  by_cases hw : Man.weighedB L = true
  · rw [if_pos hw]
    exact cornersI_len L (bsF_len L (weigh_ok hw).1).2
  · rw [if_neg hw]
    exact ⟨by simp, fun x hx => absurd hx List.not_mem_nil⟩
theorem cor_facts (l : List S24) (hl : l.length ≤ 1048576) : ∃ L y o k1 k2 k3 k4 k5 k6 r, CorFacts l L y o k1 k2 k3 k4 k5 k6 r := by
  have hm : (l.map conv).length ≤ 1048576 := by rw [List.length_map]; exact hl
  have ho := corA_len (l.map conv)
  obtain ⟨k1, h1⟩ := Sem.ev_some (Sem.toSayS_eq l hl)
  obtain ⟨k2, h2⟩ := Cor.cornersOf_ev (l.map conv)
  obtain ⟨k3, h3⟩ := Sem.ev_some (Sem.eqIntSS_self (corA (l.map conv)) (by omega) ho.2)
  obtain ⟨k4, h4⟩ := Sem.ev_some (Sem.eqSayS_self (l.map conv) hm)
  obtain ⟨r, y, hr, hmk⟩ := Sem.markSayS_eq (l.map conv) hm
  obtain ⟨k5, h5⟩ := Sem.ev_some hmk
  obtain ⟨k6, h6⟩ := Sem.ev_some (Sem.heldIntSS_mark (corA (l.map conv)) (by omega))
  exact ⟨l.map conv, y, corA (l.map conv), k1, k2, k3, k4, k5, k6, r, h1, h2 k2 (Nat.le_refl _), rfl, h3, h4, h5, hr, h6, ho.2, by omega⟩
end Go.Proofs.Ytmbninbecclbiaa.ManR
