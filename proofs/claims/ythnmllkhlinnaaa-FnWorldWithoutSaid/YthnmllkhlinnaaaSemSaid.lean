/- Rows of sentences: copied, compared, allowed; in plain words; no condition but a row's length. -/
import Derived.Test.YthnmllkhlinnaaaManSaid
import Derived.Test.YthnmllkhlinnaaaSemSay
import Derived.Test.YthnmllkhlinnaaaPAx7
import Derived.Test.YthnmllkhlinnaaaPAx10
import Derived.Test.YthnmllkhlinnaaaPAx2
import Derived.Test.YthnmllkhlinnaaaPAx6
import Derived.Test.YthnmllkhlinnaaaPAx9
namespace Go.Proofs.Ythnmllkhlinnaaa.Sem
open Go.RowKit Go.Proofs.Ythnmllkhlinnaaa.PA Go.Proofs.YthnmllkhlinnaaaW.PrintWords Go.Proofs.YthnmllkhlinnaaaW.PrintLast Go.Proofs.YthnmllkhlinnaaaW.PrintMore
set_option linter.unusedVariables false
set_option linter.unusedSimpArgs false

theorem okB_ok (k : Int) (x : S29) : Man.okB k x = decide (OkSay k x.f0 x.f1 x.f2) := by
  unfold Man.okB
  rw [impl_isSay_eq]; rfl

theorem saidSpec_from (a : Int) (l : List S29) (hl : l.length ≤ 1048576) (n : Nat) : ∀ i, i + n = l.length →
    Ev (fun k => spec_SaidOk.l0 k a l (i : Int)) ((l.drop i).all (Man.okB a) && (decide (1 ≤ a ∧ a ≤ 3) && decide (l.length ≤ 6))) := by
  induction n with
  | zero =>
    intro i hi
    rw [List.drop_of_length_le (by omega)]
    refine Ev.step (f := fun _ => some (decide (1 ≤ a ∧ a ≤ 3) && decide (l.length ≤ 6))) (fun k => ?_) ?_
    · simp only [spec_SaidOk.l0]
      rw [if_neg (by omega), l1In_eq, Option.bind_some]
      by_cases h : 1 ≤ a ∧ a ≤ 3
      · rw [if_pos (decide_eq_true h), decide_eq_true h, Bool.true_and]
        exact congrArg some (decide_eq_decide.mpr (by omega))
      · rw [if_neg (by simpa using h), decide_eq_false h]; rfl
    · simp only [List.all_nil, Bool.true_and]
      exact Ev.now _
  | succ n ih =>
    intro i hi
    have hlt : i < l.length := by omega
    have hw : wrap64 ((i : Int) + 1) = ((i + 1 : Nat) : Int) := by unfold wrap64; omega
    have hrd : rd_T29 l (i : Int) = l[i] := by
      unfold rd_T29
      rw [List.getD_eq_getElem?_getD, Int.toNat_natCast, List.getElem?_eq_getElem hlt]
      rfl
    rw [List.drop_eq_getElem_cons hlt, List.all_cons]
    refine Ev.step (f := fun k => if Man.okB a l[i] = true then spec_SaidOk.l0 k a l ((i + 1 : Nat) : Int) else some false) (fun k => ?_) ?_
    · simp only [spec_SaidOk.l0]
      rw [if_pos (by omega), if_pos (by omega), hrd, spec_SayOk_eq, Option.bind_some, okB_ok, hw]
    · cases Man.okB a l[i] with
      | true => simp only [if_true, Bool.true_and]; exact ih (i + 1) (by omega)
      | false => simp only [Bool.false_eq_true, if_false, Bool.false_and]; exact Ev.now _

theorem spec_SaidOk_eq (a : Int) (l : List S29) (hl : l.length ≤ 1048576) : Ev (fun k => spec_SaidOk.f k a l) (Man.saidB a l) := by
  have h := saidSpec_from a l hl l.length 0 (by omega)
  have e : Man.saidB a l = ((l.drop 0).all (Man.okB a) && (decide (1 ≤ a ∧ a ≤ 3) && decide (l.length ≤ 6))) := by
    unfold Man.saidB
    rw [List.drop_zero]
    cases l.all (Man.okB a) <;> simp
  rw [e]
  exact h

end Go.Proofs.Ythnmllkhlinnaaa.Sem
