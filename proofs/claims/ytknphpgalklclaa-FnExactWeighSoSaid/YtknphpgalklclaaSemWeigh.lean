/- Sentences that compare numbers, and their contraries, in plain words; no condition. -/
import Derived.KernelRfl
import Derived.Test.YtknphpgalklclaaSemDraw
import Derived.Test.YtknphpgalklclaaPAx2
import Derived.Test.YtknphpgalklclaaPAx9
import Derived.Test.YtknphpgalklclaaPAx32
import Derived.Test.YtknphpgalklclaaPAx25
import Derived.Test.YtknphpgalklclaaPAx22
import Derived.Test.YtknphpgalklclaaPAx8
namespace Go.Proofs.Ytknphpgalklclaa.Sem
open Go.RowKit Go.Proofs.Ytknphpgalklclaa.PA Go.Proofs.YtknphpgalklclaaW.PrintWords Go.Proofs.YtknphpgalklclaaW.PrintLast Go.Proofs.YtknphpgalklclaaW.PrintMore
set_option linter.unusedVariables false
set_option linter.unusedSimpArgs false

def OkWeigh (f o t : Int) : Prop := 0 ≤ f ∧ f ≤ 5 ∧ 0 ≤ o ∧ o ≤ 3 ∧ 0 ≤ t ∧ t ≤ 3
instance (f o t : Int) : Decidable (OkWeigh f o t) := by unfold OkWeigh; infer_instance

theorem toSay_eq (f o t : Int) : laws_toSay.f f o t = some (f, o, t) := rfl

theorem spec_WeighOk_eq (f o t : Int) : spec_WeighOk.f f o t = some (decide (OkWeigh f o t)) := by
  unfold spec_WeighOk.f OkWeigh
  simp only [l1In_eq, Option.bind_some, decide_eq_true_eq]
  by_cases h1 : 0 ≤ f ∧ f ≤ 5
  · rw [if_pos h1]
    by_cases h2 : 0 ≤ o ∧ o ≤ 3
    · rw [if_pos h2]; exact congrArg some (decide_eq_decide.mpr (by omega))
    · rw [if_neg h2]; exact congrArg some (decide_eq_false (by omega)).symm
  · rw [if_neg h1]; exact congrArg some (decide_eq_false (by omega)).symm

theorem impl_isWeigh_eq (f o t : Int) : impl_isWeigh.f f o t = some (decide (OkWeigh f o t)) := by
  unfold impl_isWeigh.f OkWeigh
  by_cases h1 : f ≥ 0
  · rw [if_pos h1]
    by_cases h2 : f ≤ 5
    · rw [if_pos h2]
      by_cases h3 : o ≥ 0
      · rw [if_pos h3]
        by_cases h4 : o ≤ 3
        · rw [if_pos h4]
          by_cases h5 : t ≥ 0
          · rw [if_pos h5]; exact congrArg some (decide_eq_decide.mpr (by omega))
          · rw [if_neg h5]; exact congrArg some (decide_eq_false (by omega)).symm
        · rw [if_neg h4]; exact congrArg some (decide_eq_false (by omega)).symm
      · rw [if_neg h3]; exact congrArg some (decide_eq_false (by omega)).symm
    · rw [if_neg h2]; exact congrArg some (decide_eq_false (by omega)).symm
  · rw [if_neg h1]; exact congrArg some (decide_eq_false (by omega)).symm

theorem impl_WeighOk_eq (f o t : Int) : impl_WeighOk.f f o t = some (decide (OkWeigh f o t)) := by
  unfold impl_WeighOk.f
  rw [impl_isWeigh_eq]; rfl

theorem weigh_nat {f o t : Int} (h : OkWeigh f o t) : ∃ f' o' t' : Nat, f = f' ∧ o = o' ∧ t = t' ∧ f' < 6 ∧ o' < 4 ∧ t' < 4 := by
  unfold OkWeigh at h
  exact ⟨f.toNat, o.toNat, t.toNat, by omega, by omega, by omega, by omega, by omega, by omega⟩

/-- The contrary of a sentence that is allowed. -/
def conB (f o t : Nat) : Int × Int × Int :=
  if f = 0 then (1, o, (t + 1 - 2 * (t % 2) : Nat)) else if f = 1 then (0, o, (t + 1 - 2 * (t % 2) : Nat)) else if f = 2 then (3, t, o) else if f = 3 then (2, t, o) else if f = 4 then (5, o, t) else (4, o, t)

theorem spec_con_all : ((List.range 6).all fun f => (List.range 4).all fun o => (List.range 4).all fun t => decide (spec_ContraryOf.f 2 f o t = some (conB f o t))) = true := by kernel_rfl
theorem impl_con_all : ((List.range 6).all fun f => (List.range 4).all fun o => (List.range 4).all fun t => decide (impl_contraryOf.f f o t = some (conB f o t))) = true := by kernel_rfl
theorem spec_con (f o t : Nat) (hf : f < 6) (ho : o < 4) (ht : t < 4) : spec_ContraryOf.f 2 f o t = some (conB f o t) :=
  of_decide_eq_true (List.all_eq_true.1 (List.all_eq_true.1 (List.all_eq_true.1 spec_con_all f (List.mem_range.2 hf)) o (List.mem_range.2 ho)) t (List.mem_range.2 ht))
theorem impl_con (f o t : Nat) (hf : f < 6) (ho : o < 4) (ht : t < 4) : impl_contraryOf.f f o t = some (conB f o t) :=
  of_decide_eq_true (List.all_eq_true.1 (List.all_eq_true.1 (List.all_eq_true.1 impl_con_all f (List.mem_range.2 hf)) o (List.mem_range.2 ho)) t (List.mem_range.2 ht))

theorem contrary_both (f o t : Int) : ∃ x : Int × Int × Int, Ev (fun k => spec_ContraryOf.f k f o t) x ∧ impl_ContraryOf.f f o t = some x := by
  by_cases h : OkWeigh f o t
  · obtain ⟨f', o', t', rfl, rfl, rfl, hf, ho, ht⟩ := weigh_nat h
    refine ⟨conB f' o' t', Ev.of (fun k => spec_ContraryOf.mono _ _ _ k) (spec_con f' o' t' hf ho ht), ?_⟩
    unfold impl_ContraryOf.f
    rw [impl_isWeigh_eq, decide_eq_true h]
    simp only [Option.bind_some, if_true]
    rw [impl_con f' o' t' hf ho ht]
    rfl
  · refine ⟨(0, 0, 0), ?_, ?_⟩
    · unfold spec_ContraryOf.f
      rw [spec_WeighOk_eq, decide_eq_false h]
      exact Ev.now _
    · unfold impl_ContraryOf.f
      rw [impl_isWeigh_eq, decide_eq_false h]
      rfl

theorem eqSay_self (f o t : Int) : laws_eqSay.f f o t f o t = some true := by unfold laws_eqSay.f; rw [if_pos rfl, if_pos rfl, if_pos rfl]
end Go.Proofs.Ytknphpgalklclaa.Sem
