/- Rows of sentences and rows of rows under the laws' own functions: sizes, copies, comparing, marking; in plain words; no condition but a row's length. -/
import Derived.Test.YtmbninbecclbiaaSemA
import Derived.Test.YtmbninbecclbiaaPAx13
import Derived.Test.YtmbninbecclbiaaPAx23
import Derived.Test.YtmbninbecclbiaaPAx1
import Derived.Test.YtmbninbecclbiaaPAx22
import Derived.Test.YtmbninbecclbiaaPAx38
import Derived.Test.YtmbninbecclbiaaPAx37
import Derived.Test.YtmbninbecclbiaaPAx39
namespace Go.Proofs.Ytmbninbecclbiaa.Sem
open Go.RowKit Go.Proofs.Ytmbninbecclbiaa.PA Go.Proofs.YtmbninbecclbiaaW.PrintWords Go.Proofs.YtmbninbecclbiaaW.PrintLast Go.Proofs.YtmbninbecclbiaaW.PrintMore
set_option linter.unusedVariables false
set_option linter.unusedSimpArgs false

theorem ev_some {α : Type} {g : Nat → Option α} {x : α} (h : Ev g x) : ∃ k, g k = Option.some x := by
  obtain ⟨k, hk⟩ := h
  exact ⟨k, hk k (Nat.le_refl _)⟩
theorem toSay_eq (f o t : Int) : laws_toSay.f f o t = some (f, o, t) := rfl
/-- A sentence of the laws' own type, copied. -/
def conv (x : S24) : S29 := ⟨x.f0, x.f1, x.f2⟩

theorem set_midS {α : Type} (p : List α) (z v : α) (r : List α) (i : Nat) (h : p.length = i) : (p ++ z :: r).set i v = p ++ v :: r := by
  subst h
  rw [List.set_append, if_neg (by omega), Nat.sub_self]
  rfl

theorem toSayS_from (l : List S24) (hl : l.length ≤ 1048576) (n : Nat) : ∀ i, i + n = l.length →
    Ev (fun k => laws_toSayS.l0 k l ((l.take i).map conv ++ List.replicate n z29) (i : Int)) (l.map conv) := by
  induction n with
  | zero =>
    intro i hi
    refine Ev.step (f := fun _ => some (l.map conv)) (fun k => ?_) (Ev.now _)
    simp only [laws_toSayS.l0]
    rw [if_neg (by omega), List.take_of_length_le (by omega), List.replicate_zero, List.append_nil]
  | succ n ih =>
    intro i hi
    have ih := ih (i + 1) (by omega)
    have hlt : i < l.length := by omega
    have hw : wrap64 ((i : Int) + 1) = ((i + 1 : Nat) : Int) := by unfold wrap64; omega
    have hlen : ((l.take i).map conv).length = i := by rw [List.length_map, List.length_take]; omega
    have hrd : rd_T24 l (i : Int) = l[i] := by
      unfold rd_T24
      rw [List.getD_eq_getElem?_getD, Int.toNat_natCast, List.getElem?_eq_getElem hlt]
      rfl
    have hnew : ((l.take i).map conv ++ List.replicate (n + 1) z29).set i (conv l[i]) = (l.take (i + 1)).map conv ++ List.replicate n z29 := by
      rw [List.replicate_succ, set_midS _ _ _ _ _ hlen, List.take_succ_eq_append_getElem hlt, List.map_append, List.append_assoc]
      rfl
    refine Ev.step (f := fun k => laws_toSayS.l0 k l ((l.take (i + 1)).map conv ++ List.replicate n z29) ((i + 1 : Nat) : Int)) (fun k => ?_) ih
    simp only [laws_toSayS.l0]
    rw [if_pos (by omega), if_pos (by omega), hrd, toSay_eq, Option.bind_some, if_pos (by rw [List.length_append, hlen, List.length_replicate]; omega), hw, Int.toNat_natCast]
    show laws_toSayS.l0 k l (((l.take i).map conv ++ List.replicate (n + 1) z29).set i (conv l[i])) _ = _
    rw [hnew]

theorem toSayS_eq (l : List S24) (hl : l.length ≤ 1048576) : Ev (fun k => laws_toSayS.f k l) (l.map conv) := by
  unfold laws_toSayS.f
  simp only [if_pos (show (0 : Int) ≤ (l.length : Int) by omega), Int.toNat_natCast, if_pos (show l.length ≤ 11728124029610 by omega)]
  exact toSayS_from l hl l.length 0 (by omega)

theorem eqSay_self (f o t : Int) : laws_eqSay.f f o t f o t = some true := by unfold laws_eqSay.f; rw [if_pos rfl, if_pos rfl, if_pos rfl]

theorem eqSayS_from (l : List S29) (hl : l.length ≤ 1048576) (n : Nat) : ∀ i, i + n = l.length → Ev (fun k => laws_eqSayS.l0 k l l (i : Int)) true := by
  induction n with
  | zero =>
    intro i hi
    refine Ev.step (f := fun _ => some true) (fun k => ?_) (Ev.now _)
    simp only [laws_eqSayS.l0]
    rw [if_neg (by omega)]
  | succ n ih =>
    intro i hi
    have hw : wrap64 ((i : Int) + 1) = ((i + 1 : Nat) : Int) := by unfold wrap64; omega
    refine Ev.step (f := fun k => laws_eqSayS.l0 k l l ((i + 1 : Nat) : Int)) (fun k => ?_) (ih (i + 1) (by omega))
    simp only [laws_eqSayS.l0]
    rw [if_pos (by omega), if_pos (by omega), if_pos (by omega), eqSay_self, Option.bind_some, if_pos rfl, hw]

theorem eqSayS_self (l : List S29) (hl : l.length ≤ 1048576) : Ev (fun k => laws_eqSayS.f k l l) true := by
  unfold laws_eqSayS.f
  simp only [if_true]
  exact eqSayS_from l hl l.length 0 (by omega)
theorem szSayS_eq (l : List S24) (hl : l.length ≤ 9223372036854775807) : laws_szSayS.f l 1048576 = some (if 1048576 < (l.length : Int) then -1 else 1048576 - (l.length : Int)) := by
  unfold laws_szSayS.f
  have hw : wrap64 (1048576 - (l.length : Int)) = 1048576 - (l.length : Int) := by unfold wrap64; omega
  rw [hw]
  by_cases h : 1048576 < (l.length : Int)
  · rw [if_pos (by omega), if_pos h]
  · rw [if_neg (by omega), if_neg h]
theorem markSayS_ev (n : Nat) : ∀ (x : List S29) (i : Nat) (a : Int), x.length ≤ 1048576 → i + n = x.length → 0 ≤ a → a ≤ 3 * (i : Int) + 1 → ∃ r y, 0 ≤ r ∧ Ev (fun k => laws_markSayS.l0 k x a (i : Int)) (r, y) := by
  induction n with
  | zero =>
    intro x i a hl hi h0 h1
    refine ⟨a, x, h0, ev1 fun k => ?_⟩
    simp only [laws_markSayS.l0]
    rw [if_neg (by omega)]
  | succ n ih =>
    intro x i a hl hi h0 h1
    have hw : wrap64 ((i : Int) + 1) = ((i + 1 : Nat) : Int) := by unfold wrap64; omega
    have w1 : wrap64 (a + 1) = a + 1 := by unfold wrap64; omega
    have w2 : wrap64 (a + 1 + 1) = a + 1 + 1 := by unfold wrap64; omega
    have w3 : wrap64 (a + 1 + 1 + 1) = a + 1 + 1 + 1 := by unfold wrap64; omega
    obtain ⟨r, y, hr, h⟩ := ih ((((x.set i ⟨a, (rd_T29 x (i : Int)).f1, (rd_T29 x (i : Int)).f2⟩).set i ⟨(rd_T29 (x.set i ⟨a, (rd_T29 x (i : Int)).f1, (rd_T29 x (i : Int)).f2⟩) (i : Int)).f0, a + 1, (rd_T29 (x.set i ⟨a, (rd_T29 x (i : Int)).f1, (rd_T29 x (i : Int)).f2⟩) (i : Int)).f2⟩).set i ⟨(rd_T29 ((x.set i ⟨a, (rd_T29 x (i : Int)).f1, (rd_T29 x (i : Int)).f2⟩).set i ⟨(rd_T29 (x.set i ⟨a, (rd_T29 x (i : Int)).f1, (rd_T29 x (i : Int)).f2⟩) (i : Int)).f0, a + 1, (rd_T29 (x.set i ⟨a, (rd_T29 x (i : Int)).f1, (rd_T29 x (i : Int)).f2⟩) (i : Int)).f2⟩) (i : Int)).f0, (rd_T29 ((x.set i ⟨a, (rd_T29 x (i : Int)).f1, (rd_T29 x (i : Int)).f2⟩).set i ⟨(rd_T29 (x.set i ⟨a, (rd_T29 x (i : Int)).f1, (rd_T29 x (i : Int)).f2⟩) (i : Int)).f0, a + 1, (rd_T29 (x.set i ⟨a, (rd_T29 x (i : Int)).f1, (rd_T29 x (i : Int)).f2⟩) (i : Int)).f2⟩) (i : Int)).f1, a + 1 + 1⟩)) (i + 1) (a + 1 + 1 + 1) (by simp only [List.length_set]; exact hl) (by simp only [List.length_set]; omega) (by omega) (by omega)
    refine ⟨r, y, hr, Ev.step (f := _) (fun k => ?_) h⟩
    simp only [laws_markSayS.l0]
    rw [if_pos (by omega), if_pos (by omega)]
    simp only [Option.bind_some, w1, w2, w3, hw, Int.toNat_natCast]
theorem markSayS_eq (x : List S29) (hl : x.length ≤ 1048576) : ∃ r y, 0 ≤ r ∧ Ev (fun k => laws_markSayS.f k x 1) (r, y) := markSayS_ev x.length x 0 1 hl (by omega) (by omega) (by omega)
theorem eqIntS4 {x : List Int} (hx : x.length = 4) : Ev (fun k => laws_eqIntS.f k x x) true := by
  unfold laws_eqIntS.f
  simp only [if_true]
  have go : ∀ (n i : Nat), i + n = x.length → Ev (fun k => laws_eqIntS.l0 k x x (i : Int)) true := by
    intro n
    induction n with
    | zero =>
      intro i hi
      refine ev1 fun k => ?_
      simp only [laws_eqIntS.l0]
      rw [if_neg (by omega)]
    | succ n ih =>
      intro i hi
      have hw : wrap64 ((i : Int) + 1) = ((i + 1 : Nat) : Int) := by unfold wrap64; omega
      refine Ev.step (f := fun k => laws_eqIntS.l0 k x x ((i + 1 : Nat) : Int)) (fun k => ?_) (ih (i + 1) (by omega))
      simp only [laws_eqIntS.l0]
      rw [if_pos (by omega), if_pos (by omega), if_pos (by omega), if_pos trivial, hw]
  exact go x.length 0 (by omega)
/-- Four numbers, one after the other. -/
def mk4 (a : Int) : List Int := [a, a + 1, a + 2, a + 3]
theorem markIntS4 (x : List Int) (hx : x.length = 4) (a : Int) (h0 : 0 ≤ a) (h1 : a ≤ 100000000) : laws_markIntS.f 5 x a = some (a + 4, mk4 a) := by
  match x, hx with
  | [p, q, r, s], _ =>
    have w1 : wrap64 (a + 1) = a + 1 := by unfold wrap64; omega
    have w2 : wrap64 (a + 1 + 1) = a + 2 := by unfold wrap64; omega
    have w3 : wrap64 (a + 2 + 1) = a + 3 := by unfold wrap64; omega
    have w4 : wrap64 (a + 3 + 1) = a + 4 := by unfold wrap64; omega
    have v1 : wrap64 1 = 1 := by unfold wrap64; omega
    have v2 : wrap64 2 = 2 := by unfold wrap64; omega
    have v3 : wrap64 3 = 3 := by unfold wrap64; omega
    have v4 : wrap64 4 = 4 := by unfold wrap64; omega
    unfold laws_markIntS.f mk4
    simp [laws_markIntS.l0, w1, w2, w3, w4, v1, v2, v3, v4]
theorem heldIntS4 (a : Int) (h0 : 0 ≤ a) (h1 : a ≤ 100000000) : Ev (fun k => laws_heldIntS.f k (mk4 a) a) (a + 4) := by
  have w1 : wrap64 (a + 1) = a + 1 := by unfold wrap64; omega
  have w2 : wrap64 (a + 1 + 1) = a + 2 := by unfold wrap64; omega
  have w3 : wrap64 (a + 2 + 1) = a + 3 := by unfold wrap64; omega
  have w4 : wrap64 (a + 3 + 1) = a + 4 := by unfold wrap64; omega
  have v1 : wrap64 1 = 1 := by unfold wrap64; omega
  have v2 : wrap64 2 = 2 := by unfold wrap64; omega
  have v3 : wrap64 3 = 3 := by unfold wrap64; omega
  have v4 : wrap64 4 = 4 := by unfold wrap64; omega
  refine ⟨5, fun k hk => ?_⟩
  obtain ⟨j, rfl⟩ : ∃ j, k = j + 5 := ⟨k - 5, by omega⟩
  show laws_heldIntS.f (j + 5) (mk4 a) a = some (a + 4)
  have r0 : rd [a, a + 1, a + 2, a + 3] 0 = a := rfl
  have r1 : rd [a, a + 1, a + 2, a + 3] 1 = a + 1 := rfl
  have r2 : rd [a, a + 1, a + 2, a + 3] 2 = a + 2 := rfl
  have r3 : rd [a, a + 1, a + 2, a + 3] 3 = a + 3 := rfl
  unfold laws_heldIntS.f mk4
  simp [laws_heldIntS.l0, w1, w2, w3, w4, v1, v2, v3, v4, r0, r1, r2, r3]
/-- Rows marked one after the other. -/
def markN (o : List (List Int)) : Nat → List (List Int)
  | 0 => o
  | i + 1 => (markN o i).set i (mk4 (1 + 4 * (i : Int)))
end Go.Proofs.Ytmbninbecclbiaa.Sem
