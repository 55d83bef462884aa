/- The law FnWeighOk over plain bytes: it answers true, for every code; no condition but that the bytes are bytes. -/
import Derived.Test.YtknphpgalklclaaSemWeigh
import Derived.Test.YtknphpgalklclaaPAx24
import Derived.Test.YtknphpgalklclaaPAx23
namespace Go.Proofs.Ytknphpgalklclaa.Sem
open Go.RowKit Go.Proofs.Ytknphpgalklclaa.PA Go.Proofs.YtknphpgalklclaaW.PrintWords Go.Proofs.YtknphpgalklclaaW.PrintLast
set_option linter.unusedVariables false
set_option linter.unusedSimpArgs false
theorem l20Weigh_ok {b : List Int} {p m : Int} (h : Rd b p m) (hm : m + 6 ≤ 1000000) (n : Int) (hn : n ≤ 1000000) :
    ∃ f o t p', Ev (fun k => spec_l20Weigh.f k b p n) (f, o, t, p') ∧ Rd b p' (m + 5) := by
  unfold spec_l20Weigh.f
  obtain ⟨r1, e1, _, _, _, h1⟩ := pick_ok h (by omega) 6 (by omega)
  obtain ⟨r2, e2, _, _, _, h2⟩ := pick_ok h1 (by omega) 4 (by omega)
  obtain ⟨r3, e3, _, _, _, h3⟩ := pick_ok h2 (by omega) 4 (by omega)
  obtain ⟨r4, p4, e4, h4⟩ := odd_ok h3 (by omega) n hn
  obtain ⟨r5, e5, _, _, _, h5⟩ := pick_ok h4 (by omega) 3 (by omega)
  have h5' : Rd b (p4 + 1) (m + 5) := by have e : m + 1 + 1 + 1 + 1 + 1 = m + 5 := by omega
                                         rw [← e]; exact h5
  have h4' : Rd b p4 (m + 5) := ⟨h4.bytes, h4.len, h4.lo, by have := h4.hi; omega, by omega⟩
  have two : ∀ {g : Nat → Option (Int × Int × Int × Int)} {x : Int × Int × Int × Int}, (∀ k, g (k + 1) = some x) → Ev g x := fun hg => ⟨1, fun k hk => by
    obtain ⟨j, rfl⟩ : ∃ j, k = j + 1 := ⟨k - 1, by omega⟩
    exact hg j⟩
  cases r4 with
  | false => exact ⟨r1, r2, r3, p4, two (fun k => by simp only [e1 k, e2 k, e3 k, e4 k, Option.bind_some, Bool.false_eq_true, if_false]), h4'⟩
  | true =>
    by_cases c0 : r5 = 0
    · exact ⟨6, r2, r3, p4 + 1, two (fun k => by simp only [e1 k, e2 k, e3 k, e4 k, e5 k, Option.bind_some, if_true, if_pos c0]), h5'⟩
    · by_cases c1 : r5 = 1
      · exact ⟨r1, 4, r3, p4 + 1, two (fun k => by simp only [e1 k, e2 k, e3 k, e4 k, e5 k, Option.bind_some, if_true, if_neg c0, if_pos c1]), h5'⟩
      · exact ⟨r1, r2, -1, p4 + 1, two (fun k => by simp only [e1 k, e2 k, e3 k, e4 k, e5 k, Option.bind_some, if_true, if_neg c0, if_neg c1]), h5'⟩
end Go.Proofs.Ytknphpgalklclaa.Sem
namespace Go.Proofs.Ytknphpgalklclaa.Pure
open Go.RowKit Go.Proofs.Ytknphpgalklclaa.PA Go.Proofs.YtknphpgalklclaaW.PrintWords Go.Proofs.YtknphpgalklclaaW.PrintLast
set_option linter.unusedVariables false
set_option linter.unusedSimpArgs false
theorem FnWeighOk (l0 : List Int) (b0 : l0.length ≤ 9223372036854775807) (w0 : ∀ x ∈ l0, (Lit.int .u8 x).wf = true) : ∃ k, laws_FnWeighOk.f k l0 = some true := by
  refine Ev.rounds (g := fun k => laws_FnWeighOk.f k l0) ?_
  unfold laws_FnWeighOk.f
  by_cases hl : (l0.length : Int) > 1048576
  · simp only [if_pos hl]
    exact Ev.now _
  · simp only [if_neg hl]
    obtain ⟨b, eo, hb⟩ := Sem.open_ok w0
    obtain ⟨f, o, t, p, ew, _⟩ := Sem.l20Weigh_ok hb (by omega) 3 (by omega)
    have hd : Ev (fun k => spec_DrawWeighOk.f k l0) (f, o, t) := by
      unfold spec_DrawWeighOk.f
      simp only [eo, Option.bind_some]
      exact Ev.bind ew (Ev.now _)
    refine Ev.bind hd ?_
    have hsw : decide (Sem.OkWeigh f t o) = decide (Sem.OkWeigh f o t) := decide_eq_decide.mpr (by unfold Sem.OkWeigh; omega)
    simp only [Sem.spec_WeighOk_eq, Sem.impl_WeighOk_eq, Option.bind_some, bne_self_eq_false, Bool.false_eq_true, if_false, hsw, beq_self_eq_true, if_true, Sem.alive_ok]
    exact Ev.now _
end Go.Proofs.Ytknphpgalklclaa.Pure
