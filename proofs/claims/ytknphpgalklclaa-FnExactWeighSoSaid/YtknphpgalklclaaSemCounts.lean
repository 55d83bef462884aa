/- Rows of numbers: copied, compared, allowed; in plain words; no condition but a row's length. -/
import Derived.Test.YtknphpgalklclaaManCounts
import Derived.Test.YtknphpgalklclaaSemWeigh
import Derived.Test.YtknphpgalklclaaPAx4
import Derived.Test.YtknphpgalklclaaPAx6
import Derived.Test.YtknphpgalklclaaPAx5
namespace Go.Proofs.Ytknphpgalklclaa.Sem
open Go.RowKit Go.Proofs.Ytknphpgalklclaa.PA Go.Proofs.YtknphpgalklclaaW.PrintWords Go.Proofs.YtknphpgalklclaaW.PrintLast Go.Proofs.YtknphpgalklclaaW.PrintMore
set_option linter.unusedVariables false
set_option linter.unusedSimpArgs false

theorem set_mid {α : Type} (p : List α) (z v : α) (r : List α) (i : Nat) (h : p.length = i) : (p ++ z :: r).set i v = p ++ v :: r := by
  subst h
  rw [List.set_append, if_neg (by omega), Nat.sub_self]
  rfl
theorem rd_at (l : List Int) (i : Nat) (h : i < l.length) : rd l (i : Int) = l[i] := by
  unfold rd
  rw [List.getD_eq_getElem?_getD, Int.toNat_natCast, List.getElem?_eq_getElem h]
  rfl

theorem toIntS_from (l : List Int) (hl : l.length ≤ 1048576) (n : Nat) : ∀ i, i + n = l.length →
    Ev (fun k => laws_toIntS.l0 k l (l.take i ++ List.replicate n 0) (i : Int)) l := by
  induction n with
  | zero =>
    intro i hi
    refine Ev.step (f := fun _ => some l) (fun k => ?_) (Ev.now _)
    simp only [laws_toIntS.l0]
    rw [if_neg (by omega), List.take_of_length_le (by omega), List.replicate_zero, List.append_nil]
  | succ n ih =>
    intro i hi
    have ih := ih (i + 1) (by omega)
    have hlt : i < l.length := by omega
    have hw : wrap64 ((i : Int) + 1) = ((i + 1 : Nat) : Int) := by unfold wrap64; omega
    have hlen : (l.take i).length = i := by rw [List.length_take]; omega
    have hnew : (l.take i ++ List.replicate (n + 1) 0).set i l[i] = l.take (i + 1) ++ List.replicate n 0 := by
      rw [List.replicate_succ, set_mid _ _ _ _ _ hlen, List.take_succ_eq_append_getElem hlt, List.append_assoc]
      rfl
    refine Ev.step (f := fun k => laws_toIntS.l0 k l (l.take (i + 1) ++ List.replicate n 0) ((i + 1 : Nat) : Int)) (fun k => ?_) ih
    simp only [laws_toIntS.l0]
    rw [if_pos (by omega), if_pos (by omega), if_pos (by rw [List.length_append, hlen, List.length_replicate]; omega), rd_at l i hlt, hw, Int.toNat_natCast, hnew]

theorem toIntS_eq (l : List Int) (hl : l.length ≤ 1048576) : Ev (fun k => laws_toIntS.f k l) l := by
  unfold laws_toIntS.f
  simp only [if_pos (show (0 : Int) ≤ (l.length : Int) by omega), Int.toNat_natCast, if_pos (show l.length ≤ 35184372088832 by omega)]
  exact toIntS_from l hl l.length 0 (by omega)

theorem eqIntS_from (l : List Int) (hl : l.length ≤ 1048576) (n : Nat) : ∀ i, i + n = l.length → Ev (fun k => laws_eqIntS.l0 k l l (i : Int)) true := by
  induction n with
  | zero =>
    intro i hi
    refine Ev.step (f := fun _ => some true) (fun k => ?_) (Ev.now _)
    simp only [laws_eqIntS.l0]
    rw [if_neg (by omega)]
  | succ n ih =>
    intro i hi
    have hw : wrap64 ((i : Int) + 1) = ((i + 1 : Nat) : Int) := by unfold wrap64; omega
    refine Ev.step (f := fun k => laws_eqIntS.l0 k l l ((i + 1 : Nat) : Int)) (fun k => ?_) (ih (i + 1) (by omega))
    simp only [laws_eqIntS.l0]
    rw [if_pos (by omega), if_pos (by omega), if_pos (by omega), if_true, hw]

theorem eqIntS_self (l : List Int) (hl : l.length ≤ 1048576) : Ev (fun k => laws_eqIntS.f k l l) true := by
  unfold laws_eqIntS.f
  simp only [if_true]
  exact eqIntS_from l hl l.length 0 (by omega)

theorem countsSpec_from (l : List Int) (hl : l.length ≤ 1048577) (n : Nat) : ∀ i, i + n = l.length →
    Ev (fun k => spec_CountsOk.l0 k l (i : Int)) ((l.drop i).all Man.cntB && decide (l.length = 4)) := by
  induction n with
  | zero =>
    intro i hi
    rw [List.drop_of_length_le (by omega)]
    refine Ev.step (f := fun _ => some (decide (l.length = 4))) (fun k => ?_) ?_
    · simp only [spec_CountsOk.l0]
      rw [if_neg (by omega)]
      congr 1
      rw [Bool.eq_iff_iff]
      simp
      omega
    · simp only [List.all_nil, Bool.true_and]
      exact Ev.now _
  | succ n ih =>
    intro i hi
    have hlt : i < l.length := by omega
    have hw : wrap64 ((i : Int) + 1) = ((i + 1 : Nat) : Int) := by unfold wrap64; omega
    rw [List.drop_eq_getElem_cons hlt, List.all_cons]
    refine Ev.step (f := fun k => if Man.cntB l[i] = true then spec_CountsOk.l0 k l ((i + 1 : Nat) : Int) else some false) (fun k => ?_) ?_
    · simp only [spec_CountsOk.l0]
      rw [if_pos (by omega), if_pos (by omega), rd_at l i hlt, l1In_eq, Option.bind_some, hw]
      rfl
    · cases Man.cntB l[i] with
      | true => simp only [if_true, Bool.true_and]; exact ih (i + 1) (by omega)
      | false => simp only [Bool.false_eq_true, if_false, Bool.false_and]; exact Ev.now _

theorem spec_CountsOk_eq (l : List Int) (hl : l.length ≤ 1048577) : Ev (fun k => spec_CountsOk.f k l) (Man.countsB l) := by
  have h := countsSpec_from l hl l.length 0 (by omega)
  have e : Man.countsB l = ((l.drop 0).all Man.cntB && decide (l.length = 4)) := by
    unfold Man.countsB
    rw [List.drop_zero, Bool.and_comm]
  rw [e]
  exact h

theorem impl_CountsOk_eq (l : List Int) : impl_CountsOk.f l = some (Man.countsB l) := rfl
end Go.Proofs.Ytknphpgalklclaa.Sem
