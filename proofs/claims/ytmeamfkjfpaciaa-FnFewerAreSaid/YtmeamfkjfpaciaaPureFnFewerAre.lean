/- The law FnFewerAre over plain bytes: it answers true, for every code; no condition. -/
import Derived.Test.YtmeamfkjfpaciaaSemFewer
import Derived.Test.YtmeamfkjfpaciaaSemDrawTri
import Derived.Test.YtmeamfkjfpaciaaPAx35
import Derived.Test.YtmeamfkjfpaciaaPAx25
import Derived.Test.YtmeamfkjfpaciaaPAx18
namespace Go.Proofs.Ytmeamfkjfpaciaa.Sem
open Go.RowKit Go.Proofs.Ytmeamfkjfpaciaa.PA Go.Proofs.YtmeamfkjfpaciaaW.PrintWords Go.Proofs.YtmeamfkjfpaciaaW.PrintLast Go.Proofs.YtmeamfkjfpaciaaW.PrintMore
set_option linter.unusedVariables false
set_option linter.unusedSimpArgs false
open Man (hB pl ent triRow preT stayB faP inP pE)
section
variable {t : List Int} (h : triB t = true)
include h
theorem fewer_end (x : Int) : Ev (fun k => laws_FnFewerAre.j1 k t (fewB t) (relL t 64) x false) true := by
  have h1 := impl_FewerAre_ev (triRow pE) (by rw [triRow_len]; omega)
  rw [triB_row, every_few] at h1
  have h2 := impl_FewerAre_ev (triRow (inP t)) (by rw [triRow_len]; omega)
  rw [triB_row, Bool.true_and, few_in] at h2
  have body : Ev (fun k => (impl_FewerAre.f k (triRow pE)).bind fun t439 => (if t439 = true then ((impl_InsideNot.f k t).bind fun t440 => ((impl_FewerAre.f k t440).bind fun t443 => (some (t443 == fewB t)))) else (some false))) true := by
    refine Ev.bind h1 ?_
    simp only [Bool.and_self, if_true]
    refine Ev.bind (impl_InsideNot_ev h) (Ev.bind h2 ?_)
    simp only [beq_self_eq_true]
    exact Ev.now _
  refine Ev.step (fun k => ?_) body
  simp only [laws_FnFewerAre.j1, Bool.false_eq_true, if_false, every_eq, Option.bind_some]
theorem fewer_in (hf : fewB t = true) (p : Nat) (hp : p < 64) (hn : Ev (fun k => laws_FnFewerAre.l0 k t (fewB t) (relL t 64) ((p + 1 : Nat) : Int)) true) (d : Nat) : ∀ c, c + d = 8 → Ev (fun k => laws_FnFewerAre.l1 k t (fewB t) (relL t 64) (p : Int) (c : Int)) true := by
  have hwp : wrap64 ((p : Int) + 1) = ((p + 1 : Nat) : Int) := by unfold wrap64; omega
  induction d with
  | zero =>
    intro c hc
    refine Ev.step (fun k => ?_) hn
    simp only [laws_FnFewerAre.l1]
    rw [if_neg (by omega), hwp]
  | succ d ih =>
    intro c hc
    have hw : wrap64 ((c : Int) + 1) = ((c + 1 : Nat) : Int) := by unfold wrap64; omega
    have ih := ih (c + 1) (by omega)
    have hd : wrap64 (Int.tdiv (p : Int) 8) = ((p / 8 : Nat) : Int) := by
      have : Int.tdiv (p : Int) 8 = ((p / 8 : Nat) : Int) := by rw [Int.tdiv_eq_ediv_of_nonneg (by omega)]; rfl
      rw [this]; unfold wrap64; omega
    have hm : wrap64 (wrap64 ((c : Int) * 8) + Int.tmod (p : Int) 8) = ((c * 8 + p % 8 : Nat) : Int) := by
      have : Int.tmod (p : Int) 8 = ((p % 8 : Nat) : Int) := by rw [Int.tmod_eq_emod_of_nonneg (by omega)]; rfl
      rw [this]; unfold wrap64; omega
    have hl := relL_len t 64
    have e1 := relL_at t 64 p hp
    have e2 := relL_at t 64 (c * 8 + p % 8) (by omega)
    have hi := inside_ev c (p / 8) (by omega) (by omega)
    have body : Ev (fun k => (laws_insideOf.f k (c : Int) ((p / 8 : Nat) : Int)).bind fun t432 => (if t432 = true then (if (rd (relL t 64) (p : Int)) = 1 then (if (rd (relL t 64) ((c * 8 + p % 8 : Nat) : Int)) = 0 then (some false) else (laws_FnFewerAre.l1 k t (fewB t) (relL t 64) (p : Int) ((c + 1 : Nat) : Int))) else (laws_FnFewerAre.l1 k t (fewB t) (relL t 64) (p : Int) ((c + 1 : Nat) : Int))) else (laws_FnFewerAre.l1 k t (fewB t) (relL t 64) (p : Int) ((c + 1 : Nat) : Int)))) true := by
      refine Ev.bind hi ?_
      by_cases c0 : c &&& (p / 8) = c
      · rw [decide_eq_true c0]
        simp only [if_true]
        rw [e1]
        by_cases c1 : gR t p = 1
        · simp only [if_pos c1]
          rw [e2, rel_stays h hf p c hp (by omega) c0 c1]
          simp only [if_neg (show ¬ (1 : Int) = 0 by omega)]
          exact ih
        · simp only [if_neg c1]
          exact ih
      · rw [decide_eq_false c0]
        simp only [Bool.false_eq_true, if_false]
        exact ih
    refine Ev.step (fun k => ?_) body
    simp only [laws_FnFewerAre.l1]
    rw [if_pos (by omega), hd, hm, hw]
    simp only [if_pos (show (0 : Int) ≤ (p : Int) by omega), if_pos (show (p : Int) < ((relL t 64).length : Int) by omega), if_pos (show (0 : Int) ≤ ((c * 8 + p % 8 : Nat) : Int) by omega), if_pos (show ((c * 8 + p % 8 : Nat) : Int) < ((relL t 64).length : Int) by omega)]
theorem fewer_go (d : Nat) : ∀ p, p + d = 64 → Ev (fun k => laws_FnFewerAre.l0 k t (fewB t) (relL t 64) (p : Int)) true := by
  induction d with
  | zero =>
    intro p hp
    refine Ev.step (fun k => ?_) (fewer_end h (p : Int))
    simp only [laws_FnFewerAre.l0]
    rw [if_neg (by omega)]
  | succ d ih =>
    intro p hp
    have hj : Ev (fun k => laws_FnFewerAre.j1 k t (fewB t) (relL t 64) (p : Int) (fewB t)) true := by
      cases hf : fewB t with
      | false =>
        have := fewer_end h (p : Int)
        rw [hf] at this
        exact this
      | true =>
        have := fewer_in h hf p (by omega) (ih (p + 1) (by omega)) 8 0 (by omega)
        rw [hf] at this
        refine Ev.step (fun k => ?_) this
        simp only [laws_FnFewerAre.j1, if_true]
        rfl
    refine Ev.step (fun k => ?_) hj
    simp only [laws_FnFewerAre.l0]
    rw [if_pos (by omega)]
end
end Go.Proofs.Ytmeamfkjfpaciaa.Sem
namespace Go.Proofs.Ytmeamfkjfpaciaa.Pure
open Go.RowKit Go.Proofs.Ytmeamfkjfpaciaa.PA Go.Proofs.YtmeamfkjfpaciaaW.PrintWords Go.Proofs.YtmeamfkjfpaciaaW.PrintLast Go.Proofs.YtmeamfkjfpaciaaW.PrintMore
set_option linter.unusedVariables false
set_option linter.unusedSimpArgs false
theorem FnFewerAre (l0 : List Int) (b0 : l0.length ≤ 9223372036854775807) (w0 : ∀ x ∈ l0, (Lit.int .u8 x).wf = true) : ∃ k, laws_FnFewerAre.f k l0 = some true := by
  refine Ev.rounds (g := fun k => laws_FnFewerAre.f k l0) ?_
  unfold laws_FnFewerAre.f
  by_cases hl : (l0.length : Int) > 1048576
  · simp only [if_pos hl]
    exact Ev.now _
  · simp only [if_neg hl]
    obtain ⟨b, eo, hR⟩ := Sem.open_ok w0
    obtain ⟨t, q, et, ht⟩ := Sem.l20Tri_ok 14 (by omega) hR (by omega)
    have hd : Ev (fun k => spec_DrawFewerAre.f k l0) t := by
      unfold spec_DrawFewerAre.f
      simp only [eo, Option.bind_some]
      exact Ev.bind et (Ev.now _)
    refine Ev.bind hd (Ev.bind (Sem.impl_FewerAre_ev t (by omega)) (Ev.bind (Sem.spec_FewerAre_ev t (by omega)) ?_))
    simp only [bne_self_eq_false, Bool.false_eq_true, if_false]
    refine Ev.bind (Sem.triangleOk_ev t (by omega)) ?_
    cases h : Sem.triB t with
    | false =>
      simp only [Bool.false_and, Bool.false_eq_true, if_false, Sem.alive_ok, Option.bind_some]
      exact Ev.now _
    | true =>
      simp only [Bool.true_and, if_true]
      exact Ev.bind (Sem.relation_ev h) (Sem.fewer_go h 64 0 (by omega))
end Go.Proofs.Ytmeamfkjfpaciaa.Pure
