/- Rows of sentences: copied, compared, allowed; in plain words; no condition but a row's length. -/
import Derived.Test.YthnmllkhlinnaaaManSaid
import Derived.Test.YthnmllkhlinnaaaSemSay
import Derived.Test.YthnmllkhlinnaaaPAx7
import Derived.Test.YthnmllkhlinnaaaPAx10
import Derived.Test.YthnmllkhlinnaaaPAx2
import Derived.Test.YthnmllkhlinnaaaPAx6
import Derived.Test.YthnmllkhlinnaaaPAx9
namespace Go.Proofs.Ythnmllkhlinnaaa.Sem
open Go.RowKit Go.Proofs.Ythnmllkhlinnaaa.PA Go.Proofs.YthnmllkhlinnaaaW.PrintWords Go.Proofs.YthnmllkhlinnaaaW.PrintLast Go.Proofs.YthnmllkhlinnaaaW.PrintMore
set_option linter.unusedVariables false
set_option linter.unusedSimpArgs false

theorem okB_ok (k : Int) (x : S29) : Man.okB k x = decide (OkSay k x.f0 x.f1 x.f2) := by
  unfold Man.okB
  rw [impl_isSay_eq]; rfl

/-- A sentence of the laws' own type, copied. -/
def conv (x : S24) : S29 := ⟨x.f0, x.f1, x.f2⟩

theorem set_mid {α : Type} (p : List α) (z v : α) (r : List α) (i : Nat) (h : p.length = i) : (p ++ z :: r).set i v = p ++ v :: r := by
  subst h
  rw [List.set_append, if_neg (by omega), Nat.sub_self]
  rfl

theorem toSayS_from (l : List S24) (hl : l.length ≤ 1048576) (n : Nat) : ∀ i, i + n = l.length →
    Ev (fun k => laws_toSayS.l0 k l ((l.take i).map conv ++ List.replicate n z29) (i : Int)) (l.map conv) := by
  induction n with
  | zero =>
    intro i hi
    refine Ev.step (f := fun _ => some (l.map conv)) (fun k => ?_) (Ev.now _)
    simp only [laws_toSayS.l0]
    rw [if_neg (by omega), List.take_of_length_le (by omega), List.replicate_zero, List.append_nil]
  | succ n ih =>
    intro i hi
    have ih := ih (i + 1) (by omega)
    have hlt : i < l.length := by omega
    have hw : wrap64 ((i : Int) + 1) = ((i + 1 : Nat) : Int) := by unfold wrap64; omega
    have hlen : ((l.take i).map conv).length = i := by rw [List.length_map, List.length_take]; omega
    have hrd : rd_T24 l (i : Int) = l[i] := by
      unfold rd_T24
      rw [List.getD_eq_getElem?_getD, Int.toNat_natCast, List.getElem?_eq_getElem hlt]
      rfl
    have hnew : ((l.take i).map conv ++ List.replicate (n + 1) z29).set i (conv l[i]) = (l.take (i + 1)).map conv ++ List.replicate n z29 := by
      rw [List.replicate_succ, set_mid _ _ _ _ _ hlen, List.take_succ_eq_append_getElem hlt, List.map_append, List.append_assoc]
      rfl
    refine Ev.step (f := fun k => laws_toSayS.l0 k l ((l.take (i + 1)).map conv ++ List.replicate n z29) ((i + 1 : Nat) : Int)) (fun k => ?_) ih
    simp only [laws_toSayS.l0]
    rw [if_pos (by omega), if_pos (by omega), hrd, toSay_eq, Option.bind_some, if_pos (by rw [List.length_append, hlen, List.length_replicate]; omega), hw, Int.toNat_natCast]
    show laws_toSayS.l0 k l (((l.take i).map conv ++ List.replicate (n + 1) z29).set i (conv l[i])) _ = _
    rw [hnew]

theorem toSayS_eq (l : List S24) (hl : l.length ≤ 1048576) : Ev (fun k => laws_toSayS.f k l) (l.map conv) := by
  unfold laws_toSayS.f
  simp only [if_pos (show (0 : Int) ≤ (l.length : Int) by omega), Int.toNat_natCast, if_pos (show l.length ≤ 11728124029610 by omega)]
  exact toSayS_from l hl l.length 0 (by omega)

theorem eqSay_self (f o t : Int) : laws_eqSay.f f o t f o t = some true := by unfold laws_eqSay.f; rw [if_pos rfl, if_pos rfl, if_pos rfl]

theorem eqSayS_from (l : List S29) (hl : l.length ≤ 1048576) (n : Nat) : ∀ i, i + n = l.length → Ev (fun k => laws_eqSayS.l0 k l l (i : Int)) true := by
  induction n with
  | zero =>
    intro i hi
    refine Ev.step (f := fun _ => some true) (fun k => ?_) (Ev.now _)
    simp only [laws_eqSayS.l0]
    rw [if_neg (by omega)]
  | succ n ih =>
    intro i hi
    have hw : wrap64 ((i : Int) + 1) = ((i + 1 : Nat) : Int) := by unfold wrap64; omega
    refine Ev.step (f := fun k => laws_eqSayS.l0 k l l ((i + 1 : Nat) : Int)) (fun k => ?_) (ih (i + 1) (by omega))
    simp only [laws_eqSayS.l0]
    rw [if_pos (by omega), if_pos (by omega), if_pos (by omega), eqSay_self, Option.bind_some, if_pos rfl, hw]

theorem eqSayS_self (l : List S29) (hl : l.length ≤ 1048576) : Ev (fun k => laws_eqSayS.f k l l) true := by
  unfold laws_eqSayS.f
  simp only [if_true]
  exact eqSayS_from l hl l.length 0 (by omega)

theorem saidSpec_from (a : Int) (l : List S29) (hl : l.length ≤ 1048576) (n : Nat) : ∀ i, i + n = l.length →
    Ev (fun k => spec_SaidOk.l0 k a l (i : Int)) ((l.drop i).all (Man.okB a) && (decide (1 ≤ a ∧ a ≤ 3) && decide (l.length ≤ 6))) := by
  induction n with
  | zero =>
    intro i hi
    rw [List.drop_of_length_le (by omega)]
    refine Ev.step (f := fun _ => some (decide (1 ≤ a ∧ a ≤ 3) && decide (l.length ≤ 6))) (fun k => ?_) ?_
    · simp only [spec_SaidOk.l0]
      rw [if_neg (by omega), l1In_eq, Option.bind_some]
      by_cases h : 1 ≤ a ∧ a ≤ 3
      · rw [if_pos (decide_eq_true h), decide_eq_true h, Bool.true_and]
        exact congrArg some (decide_eq_decide.mpr (by omega))
      · rw [if_neg (by simpa using h), decide_eq_false h]; rfl
    · simp only [List.all_nil, Bool.true_and]
      exact Ev.now _
  | succ n ih =>
    intro i hi
    have hlt : i < l.length := by omega
    have hw : wrap64 ((i : Int) + 1) = ((i + 1 : Nat) : Int) := by unfold wrap64; omega
    have hrd : rd_T29 l (i : Int) = l[i] := by
      unfold rd_T29
      rw [List.getD_eq_getElem?_getD, Int.toNat_natCast, List.getElem?_eq_getElem hlt]
      rfl
    rw [List.drop_eq_getElem_cons hlt, List.all_cons]
    refine Ev.step (f := fun k => if Man.okB a l[i] = true then spec_SaidOk.l0 k a l ((i + 1 : Nat) : Int) else some false) (fun k => ?_) ?_
    · simp only [spec_SaidOk.l0]
      rw [if_pos (by omega), if_pos (by omega), hrd, spec_SayOk_eq, Option.bind_some, okB_ok, hw]
    · cases Man.okB a l[i] with
      | true => simp only [if_true, Bool.true_and]; exact ih (i + 1) (by omega)
      | false => simp only [Bool.false_eq_true, if_false, Bool.false_and]; exact Ev.now _

theorem spec_SaidOk_eq (a : Int) (l : List S29) (hl : l.length ≤ 1048576) : Ev (fun k => spec_SaidOk.f k a l) (Man.saidB a l) := by
  have h := saidSpec_from a l hl l.length 0 (by omega)
  have e : Man.saidB a l = ((l.drop 0).all (Man.okB a) && (decide (1 ≤ a ∧ a ≤ 3) && decide (l.length ≤ 6))) := by
    unfold Man.saidB
    rw [List.drop_zero]
    cases l.all (Man.okB a) <;> simp
  rw [e]
  exact h

theorem sz_ok (l : List S24) (h : l.length ≤ 1048576) : laws_szSayS.f l 1048576 = some (1048576 - (l.length : Int)) := by
  unfold laws_szSayS.f
  have e : wrap64 (1048576 - (l.length : Int)) = 1048576 - (l.length : Int) := by unfold wrap64; omega
  rw [e, if_neg (by omega)]
theorem sz_no (l : List S24) (b : l.length ≤ 9223372036854775807) (h : ¬ l.length ≤ 1048576) : laws_szSayS.f l 1048576 = some (-1) := by
  unfold laws_szSayS.f
  have e : wrap64 (1048576 - (l.length : Int)) = 1048576 - (l.length : Int) := by unfold wrap64; omega
  rw [e, if_pos (by omega)]
end Go.Proofs.Ythnmllkhlinnaaa.Sem
