/- The law FnSplitOf over plain bytes: it answers true, for every code; no condition. -/
import Derived.Test.YtmeamfkjfpaciaaSemSplit
import Derived.Test.YtmeamfkjfpaciaaSemDrawTri
import Derived.Test.YtmeamfkjfpaciaaPAx24
import Derived.Test.YtmeamfkjfpaciaaPAx12
import Derived.Test.YtmeamfkjfpaciaaPAx20
import Derived.Test.YtmeamfkjfpaciaaPAx22
import Derived.Test.YtmeamfkjfpaciaaPAx18
namespace Go.Proofs.Ytmeamfkjfpaciaa.Pure
open Go.RowKit Go.Proofs.Ytmeamfkjfpaciaa.PA Go.Proofs.YtmeamfkjfpaciaaW.PrintWords Go.Proofs.YtmeamfkjfpaciaaW.PrintLast Go.Proofs.YtmeamfkjfpaciaaW.PrintMore
set_option linter.unusedVariables false
set_option linter.unusedSimpArgs false
open Man (hB pl ent triRow preT stayB upP dnP moP feP boP)
theorem FnSplitOf (l0 : List Int) (b0 : l0.length ≤ 9223372036854775807) (w0 : ∀ x ∈ l0, (Lit.int .u8 x).wf = true) : ∃ k, laws_FnSplitOf.f k l0 = some true := by
  refine Ev.rounds (g := fun k => laws_FnSplitOf.f k l0) ?_
  unfold laws_FnSplitOf.f
  by_cases hl : (l0.length : Int) > 1048576
  · simp only [if_pos hl]
    exact Ev.now _
  · simp only [if_neg hl]
    obtain ⟨b, eo, hR⟩ := Sem.open_ok w0
    obtain ⟨t, q, et, ht⟩ := Sem.l20Tri_ok 14 (by omega) hR (by omega)
    have hd : Ev (fun k => spec_DrawSplitOf.f k l0) t := by
      unfold spec_DrawSplitOf.f
      simp only [eo, Option.bind_some]
      exact Ev.bind et (Ev.now _)
    refine Ev.bind hd (Ev.bind (Sem.impl_SplitOf_ev t (by omega)) (Ev.bind (Sem.spec_SplitOf_ev t (by omega)) ?_))
    have hu : (Sem.splitA t).1.length ≤ 1000 ∧ (Sem.splitA t).2.1.length ≤ 1000 := by
      unfold Sem.splitA
      split
      · rw [Sem.triRow_len, Sem.triRow_len]; omega
      · simp
    refine Ev.bind (Sem.sameInts_self _ hu.1) ?_
    simp only [if_true]
    refine Ev.bind (Sem.sameInts_self _ hu.2) ?_
    simp only [if_true, bne_self_eq_false]
    cases hs : (Sem.triB t && Sem.btwB t) with
    | true =>
      have e : Sem.splitA t = (triRow (upP t), triRow (dnP t), true) := by unfold Sem.splitA; rw [hs, if_pos rfl]
      rw [e]
      rw [Bool.and_eq_true] at hs
      have h := hs.1
      have hb := (Sem.btwB_iff h).1 hs.2
      have hm : Ev (fun k => impl_MoreDo.f k (triRow (upP t))) true := by
        unfold impl_MoreDo.f
        have hi := Sem.isTriangle_ev (triRow (upP t)) (by rw [Sem.triRow_len]; omega)
        rw [Sem.triB_row] at hi
        refine Ev.bind hi ?_
        have hf : impl_moreDo.f (triRow (upP t)) = some true := by
          unfold impl_moreDo.f
          rw [if_pos (by rw [Sem.triRow_len]; omega), Sem.more_up]
        simp only [if_true, hf, Option.bind_some]
        exact Ev.now _
      have hf : Ev (fun k => impl_FewerDo.f k (triRow (dnP t))) true := by
        unfold impl_FewerDo.f
        have hi := Sem.isTriangle_ev (triRow (dnP t)) (by rw [Sem.triRow_len]; omega)
        rw [Sem.triB_row] at hi
        refine Ev.bind hi ?_
        have hf : impl_fewerDo.f (triRow (dnP t)) = some true := by
          unfold impl_fewerDo.f
          rw [if_pos (by rw [Sem.triRow_len]; omega), Sem.fewer_dn]
        simp only [if_true, hf, Option.bind_some]
        exact Ev.now _
      have hB : Ev (fun k => impl_BothOf.f k (triRow (upP t)) (triRow (dnP t))) t := by
        unfold impl_BothOf.f Man.bothF
        have hi := Sem.isTriangle_ev (triRow (upP t)) (by rw [Sem.triRow_len]; omega)
        rw [Sem.triB_row] at hi
        have hj := Sem.isTriangle_ev (triRow (dnP t)) (by rw [Sem.triRow_len]; omega)
        rw [Sem.triB_row] at hj
        refine Ev.bind hi ?_
        simp only [if_true]
        refine Ev.bind hj ?_
        simp only [if_true, if_pos (show 21 ≤ (triRow (upP t)).length ∧ 21 ≤ (triRow (dnP t)).length by rw [Sem.triRow_len, Sem.triRow_len]; omega), Sem.both_same h hb]
        exact Ev.now _
      have body : Ev (fun k => (impl_MoreDo.f k (triRow (upP t))).bind fun t372 => (if t372 = true then ((impl_FewerDo.f k (triRow (dnP t))).bind fun t373 => (if t373 = true then ((impl_BothOf.f k (triRow (upP t)) (triRow (dnP t))).bind fun t374 => ((laws_sameInts.f k t374 t).bind fun t377 => (some t377))) else (some false))) else (some false))) true := by
        refine Ev.bind hm ?_
        simp only [if_true]
        refine Ev.bind hf ?_
        simp only [if_true]
        exact Ev.bind hB (Ev.bind (Sem.sameInts_self t (by omega)) (Ev.now _))
      refine body.step fun k => ?_
      simp only [laws_FnSplitOf.j0, Bool.false_eq_true, if_false, if_true]
    | false =>
      have e : Sem.splitA t = ([], [], false) := by unfold Sem.splitA; rw [hs, if_neg (by simp)]
      rw [e]
      have hb := Sem.impl_Between_ev t (by omega)
      rw [hs] at hb
      have body : Ev (fun k => (impl_Between.f k t).bind fun t370 => (if t370 = true then (some false) else ((laws_alive.f).bind fun t371 => (some t371)))) true := by
        refine Ev.bind hb ?_
        simp only [Bool.false_eq_true, if_false, Sem.alive_ok, Option.bind_some]
        exact Ev.now _
      refine body.step fun k => ?_
      simp only [laws_FnSplitOf.j0, Bool.false_eq_true, if_false]
      rfl
end Go.Proofs.Ytmeamfkjfpaciaa.Pure
