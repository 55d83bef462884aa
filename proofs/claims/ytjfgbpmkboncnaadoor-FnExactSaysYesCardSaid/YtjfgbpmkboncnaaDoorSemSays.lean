/- What a machine says after a text, in plain words: both programs' answers; no condition but the rows' and the text's lengths. -/
import Derived.Lib.SlTrimSet
import Derived.Test.YtjfgbpmkboncnaaDoorSemMach
import Derived.Test.YtjfgbpmkboncnaaDoorPAx4
import Derived.Test.YtjfgbpmkboncnaaDoorPAx9
import Derived.Test.YtjfgbpmkboncnaaDoorPAx7
namespace Go.Proofs.YtjfgbpmkboncnaaDoor.Sem
open Go.RowKit Go.Proofs.YtjfgbpmkboncnaaDoor.PA Go.Proofs.YtjfgbpmkboncnaaDoorW.PrintWords Go.Proofs.YtjfgbpmkboncnaaDoorW.PrintLast Go.Proofs.YtjfgbpmkboncnaaDoorW.PrintMore
set_option linter.unusedVariables false
set_option linter.unusedSimpArgs false

/-- The state after the letters. -/
def stateOf (a b : List Int) : List UInt8 → Int → Int
  | [], s => s
  | x :: r, s => stateOf a b r (if x = 48 then rd a s else rd b s)
def bitsOk (l : List UInt8) : Bool := l.all (fun x => x == 48 || x == 49)
/-- What SaysYes answers. -/
def saysB (a b c : List Int) (l : List UInt8) : Bool := decide (MachOk a b c) && (bitsOk l && rd c (stateOf a b l 0) == 1)

theorem bt_list (s : ByteArray) (i : Nat) (h : i < s.data.toList.length) : bt s (i : Int) = (s.data.toList[i].toNat : Int) := by
  unfold bt
  have hlt : (i : Int).toNat < s.size := by rw [Int.toNat_natCast]; rw [Array.length_toList] at h; exact h
  rw [dif_pos hlt]
  have e2 : s[(i : Int).toNat]'hlt = s.data.toList[i] := by
    rw [Array.getElem_toList]
    rfl
  rw [e2]
theorem size_list (s : ByteArray) : s.size = s.data.toList.length := by rw [Array.length_toList]; rfl
theorem u8_48 (x : UInt8) : ((x.toNat : Int) = 48) ↔ x = 48 := by
  constructor
  · intro h; apply UInt8.toNat_inj.1; show x.toNat = 48; omega
  · rintro rfl; rfl
theorem u8_49 (x : UInt8) : ((x.toNat : Int) = 49) ↔ x = 49 := by
  constructor
  · intro h; apply UInt8.toNat_inj.1; show x.toNat = 49; omega
  · rintro rfl; rfl

theorem bits_from (s : ByteArray) (hs : s.size ≤ 2000000) (d : Nat) : ∀ i, i + d = s.data.toList.length → Ev (fun k => spec_l4Bits.l0 k s (i : Int)) (bitsOk (s.data.toList.drop i)) := by
  have hz := size_list s
  induction d with
  | zero =>
    intro i hi
    rw [List.drop_of_length_le (by omega)]
    refine Ev.step (f := fun _ => some true) (fun k => ?_) (Ev.now _)
    simp only [spec_l4Bits.l0]
    rw [if_neg (by omega)]
  | succ d ih =>
    intro i hi
    have hlt : i < s.data.toList.length := by omega
    have g1 : (i : Int) < (s.size : Int) := by omega
    have g0 : (0 : Int) ≤ (i : Int) := by omega
    have ih := ih (i + 1) (by omega)
    have hb := bt_list s i hlt
    have hw : wrap64 ((i : Int) + 1) = ((i + 1 : Nat) : Int) := by unfold wrap64; omega
    rw [List.drop_eq_getElem_cons hlt]
    generalize s.data.toList[i] = x at hb ⊢
    by_cases h1 : x = 48
    · refine Ev.step (f := fun k => spec_l4Bits.l0 k s ((i + 1 : Nat) : Int)) (fun k => ?_) (by rw [show bitsOk (x :: s.data.toList.drop (i + 1)) = bitsOk (s.data.toList.drop (i + 1)) by subst h1; rfl]; exact ih)
      simp only [spec_l4Bits.l0]
      rw [if_pos g1, if_pos g0, hb, if_pos ((u8_48 x).2 h1), hw]
    · by_cases h2 : x = 49
      · refine Ev.step (f := fun k => spec_l4Bits.l0 k s ((i + 1 : Nat) : Int)) (fun k => ?_) (by rw [show bitsOk (x :: s.data.toList.drop (i + 1)) = bitsOk (s.data.toList.drop (i + 1)) by subst h2; rfl]; exact ih)
        simp only [spec_l4Bits.l0]
        rw [if_pos g1, if_pos g0, hb, if_neg (fun e => h1 ((u8_48 x).1 e)), if_pos ((u8_49 x).2 h2), hw]
      · have hf : bitsOk (x :: s.data.toList.drop (i + 1)) = false := by
          unfold bitsOk
          rw [List.all_cons, beq_eq_false_iff_ne.2 h1, beq_eq_false_iff_ne.2 h2]
          rfl
        rw [hf]
        refine Ev.step (f := fun _ => some false) (fun k => ?_) (Ev.now _)
        simp only [spec_l4Bits.l0]
        rw [if_pos g1, if_pos g0, hb, if_neg (fun e => h1 ((u8_48 x).1 e)), if_neg (fun e => h2 ((u8_49 x).1 e))]
theorem bits_eq (s : ByteArray) (hs : s.size ≤ 2000000) : Ev (fun k => spec_l4Bits.f k s) (bitsOk s.data.toList) := by
  unfold spec_l4Bits.f
  exact bits_from s hs s.data.toList.length 0 (by omega)

theorem mach_step {a b c : List Int} (h : MachOk a b c) {st : Int} (h0 : 0 ≤ st) (h1 : st < a.length) (x : UInt8) : 0 ≤ (if x = 48 then rd a st else rd b st) ∧ (if x = 48 then rd a st else rd b st) < a.length := by
  have := h.2 st.toNat (by omega)
  unfold StOk at this
  rw [show ((st.toNat : Nat) : Int) = st by omega] at this
  split
  · exact this.1
  · exact this.2.1
theorem state_range {a b c : List Int} (h : MachOk a b c) : ∀ (l : List UInt8) (st : Int), 0 ≤ st → st < a.length → 0 ≤ stateOf a b l st ∧ stateOf a b l st < a.length
  | [], st, h0, h1 => ⟨h0, h1⟩
  | x :: r, st, h0, h1 => by
    have := mach_step h h0 h1 x
    exact state_range h r _ this.1 this.2

theorem spec_state_from {a b c : List Int} (h : MachOk a b c) (s : ByteArray) (hs : s.size ≤ 2000000) (d : Nat) : ∀ (i : Nat) (st : Int), i + d = s.data.toList.length → 0 ≤ st → st < a.length → Ev (fun k => spec_l4State.l0 k s st (i : Int) a b c) (stateOf a b (s.data.toList.drop i) st) := by
  have hz := size_list s
  have hb' := h.1.2.2.1
  induction d with
  | zero =>
    intro i st hi _ _
    rw [List.drop_of_length_le (by omega)]
    refine Ev.step (f := fun _ => some st) (fun k => ?_) (Ev.now _)
    simp only [spec_l4State.l0]
    rw [if_neg (by omega)]
  | succ d ih =>
    intro i st hi h0 h1
    have hlt : i < s.data.toList.length := by omega
    have g1 : (i : Int) < (s.size : Int) := by omega
    have g0 : (0 : Int) ≤ (i : Int) := by omega
    have g2 : st < (b.length : Int) := by omega
    have hb := bt_list s i hlt
    have hw : wrap64 ((i : Int) + 1) = ((i + 1 : Nat) : Int) := by unfold wrap64; omega
    rw [List.drop_eq_getElem_cons hlt]
    have hst := mach_step h h0 h1 s.data.toList[i]
    have ih := ih (i + 1) _ (by omega) hst.1 hst.2
    generalize s.data.toList[i] = x at hb ih ⊢
    show Ev _ (stateOf a b (s.data.toList.drop (i + 1)) (if x = 48 then rd a st else rd b st))
    by_cases hx : x = 48
    · rw [if_pos hx] at ih ⊢
      refine Ev.step (f := fun k => spec_l4State.l0 k s (rd a st) ((i + 1 : Nat) : Int) a b c) (fun k => ?_) ih
      simp only [spec_l4State.l0]
      rw [if_pos g1, if_pos g0, hb, if_pos ((u8_48 x).2 hx), if_pos h0, if_pos h1, hw]
    · rw [if_neg hx] at ih ⊢
      refine Ev.step (f := fun k => spec_l4State.l0 k s (rd b st) ((i + 1 : Nat) : Int) a b c) (fun k => ?_) ih
      simp only [spec_l4State.l0]
      rw [if_pos g1, if_pos g0, hb, if_neg (fun e => hx ((u8_48 x).1 e)), if_pos h0, if_pos g2, hw]
theorem impl_state_from {a b c : List Int} (h : MachOk a b c) (s : ByteArray) (hs : s.size ≤ 2000000) (d : Nat) : ∀ (i : Nat) (st : Int), i + d = s.data.toList.length → 0 ≤ st → st < a.length → Ev (fun k => impl_Machine_after.l0 k s st (s.size : Int) (i : Int) a b c) (stateOf a b (s.data.toList.drop i) st) := by
  have hz := size_list s
  have hb' := h.1.2.2.1
  induction d with
  | zero =>
    intro i st hi _ _
    rw [List.drop_of_length_le (by omega)]
    refine Ev.step (f := fun _ => some st) (fun k => ?_) (Ev.now _)
    simp only [impl_Machine_after.l0]
    rw [if_neg (by omega)]
  | succ d ih =>
    intro i st hi h0 h1
    have hlt : i < s.data.toList.length := by omega
    have g1 : (i : Int) < (s.size : Int) := by omega
    have g0 : (0 : Int) ≤ (i : Int) := by omega
    have g2 : st < (b.length : Int) := by omega
    have hb := bt_list s i hlt
    have hw : wrap64 ((i : Int) + 1) = ((i + 1 : Nat) : Int) := by unfold wrap64; omega
    rw [List.drop_eq_getElem_cons hlt]
    have hst := mach_step h h0 h1 s.data.toList[i]
    have ih := ih (i + 1) _ (by omega) hst.1 hst.2
    generalize s.data.toList[i] = x at hb ih ⊢
    show Ev _ (stateOf a b (s.data.toList.drop (i + 1)) (if x = 48 then rd a st else rd b st))
    by_cases hx : x = 48
    · rw [if_pos hx] at ih ⊢
      refine Ev.step (f := fun k => impl_Machine_after.l0 k s (rd a st) (s.size : Int) ((i + 1 : Nat) : Int) a b c) (fun k => ?_) ih
      simp only [impl_Machine_after.l0]
      rw [if_pos g1, if_pos g0, if_pos g1, hb, if_pos ((u8_48 x).2 hx), if_pos h0, if_pos h1, hw]
    · rw [if_neg hx] at ih ⊢
      refine Ev.step (f := fun k => impl_Machine_after.l0 k s (rd b st) (s.size : Int) ((i + 1 : Nat) : Int) a b c) (fun k => ?_) ih
      simp only [impl_Machine_after.l0]
      rw [if_pos g1, if_pos g0, if_pos g1, hb, if_neg (fun e => hx ((u8_48 x).1 e)), if_pos h0, if_pos g2, hw]

theorem spec_SaysYes_eq (a b c : List Int) (s : ByteArray) (hl : a.length ≤ 1048577) (hs : s.size ≤ 2000000) : Ev (fun k => spec_SaysYes.f k a b c s) (saysB a b c s.data.toList) := by
  unfold spec_SaysYes.f saysB
  refine Ev.bind (spec_MachineOk_eq a b c hl) ?_
  by_cases h : MachOk a b c
  · rw [decide_eq_true h]
    simp only [if_true, Bool.true_and]
    refine Ev.bind (bits_eq s hs) ?_
    cases hb : bitsOk s.data.toList with
    | false => simp only [Bool.false_eq_true, if_false, Bool.false_and]; exact Ev.now _
    | true =>
      simp only [if_true, Bool.true_and]
      have hr := state_range h s.data.toList 0 (by omega) (by have := h.1.1; omega)
      have hc := h.1.2.2.2
      have hst : Ev (fun k => spec_l4State.f k a b c s) (stateOf a b s.data.toList 0) := by
        unfold spec_l4State.f
        exact spec_state_from h s hs s.data.toList.length 0 0 (by omega) (by omega) (by have := h.1.1; omega)
      refine Ev.bind hst ?_
      simp only [if_pos hr.1, if_pos (show stateOf a b s.data.toList 0 < (c.length : Int) by omega)]
      exact Ev.now _
  · rw [decide_eq_false h]
    simp only [Bool.false_eq_true, if_false, Bool.false_and]
    exact Ev.now _

theorem drop_all (p : UInt8 → Bool) : ∀ l : List UInt8, (∀ x ∈ l.dropWhile p, p x = true) → ∀ x ∈ l, p x = true
  | [], _, x, hx => absurd hx (by simp)
  | y :: r, h, x, hx => by
    by_cases hy : p y = true
    · rw [List.dropWhile_cons_of_pos hy] at h
      rcases List.mem_cons.1 hx with rfl | hx
      · exact hy
      · exact drop_all p r h x hx
    · rw [List.dropWhile_cons_of_neg hy] at h
      exact absurd (h y List.mem_cons_self) hy
theorem drop_nil (p : UInt8 → Bool) : ∀ l : List UInt8, (∀ x ∈ l, p x = true) → l.dropWhile p = []
  | [], _ => rfl
  | y :: r, h => by
    rw [List.dropWhile_cons_of_pos (h y List.mem_cons_self)]
    exact drop_nil p r (fun x hx => h x (List.mem_cons_of_mem _ hx))
theorem nil_drop (p : UInt8 → Bool) (l : List UInt8) (h : l.dropWhile p = []) : ∀ x ∈ l, p x = true := drop_all p l (by rw [h]; intro x hx; exact absurd hx (by simp))
theorem trim_nil (l cs : List UInt8) : Go.Lib.trimS l cs = [] ↔ ∀ x ∈ l, cs.contains x = true := by
  unfold Go.Lib.trimS Go.Lib.trimLeftS Go.Lib.trimRightS
  constructor
  · intro h x hx
    have h1 := nil_drop _ _ h
    have h2 := drop_all (fun x => cs.contains x) l.reverse (fun y hy => h1 y (List.mem_reverse.2 hy))
    exact h2 x (List.mem_reverse.2 hx)
  · intro h
    rw [drop_nil (fun x => cs.contains x) l.reverse (fun x hx => h x (List.mem_reverse.1 hx))]
    rfl
theorem two_has (x : UInt8) : ([48, 49] : List UInt8).contains x = (x == 48 || x == 49) := by
  show List.elem x [48, 49] = _
  simp only [List.elem]
  cases (x == 48) <;> cases (x == 49) <;> rfl
theorem trim_bits (l : List UInt8) : Go.Lib.trimS l [48, 49] = [] ↔ bitsOk l = true := by
  rw [trim_nil]
  unfold bitsOk
  rw [List.all_eq_true]
  constructor
  · intro h x hx
    rw [← two_has]
    exact h x hx
  · intro h x hx
    rw [two_has]
    exact h x hx

theorem impl_SaysYes_eq (a b c : List Int) (s : ByteArray) (hs : s.size ≤ 2000000) : Ev (fun k => impl_SaysYes.f k a b c s) (saysB a b c s.data.toList) := by
  unfold impl_SaysYes.f saysB
  refine Ev.bind (impl_isMachine_eq a b c) ?_
  by_cases h : MachOk a b c
  · rw [decide_eq_true h]
    simp only [if_true, Bool.true_and]
    have ht : strings_Trim.f s (⟨#[48, 49]⟩ : ByteArray) = some ⟨(Go.Lib.trimS s.data.toList [48, 49]).toArray⟩ := by
      unfold strings_Trim.f Man.trimF
      exact if_pos ⟨by omega, by decide, by decide⟩
    simp only [ht, Option.bind_some]
    have hl : (⟨(Go.Lib.trimS s.data.toList [48, 49]).toArray⟩ : ByteArray).toList = Go.Lib.trimS s.data.toList [48, 49] := by rw [ByteArray.toList_eq]
    rw [hl]
    cases hb : bitsOk s.data.toList with
    | false =>
      simp only [if_neg (fun e => Bool.false_ne_true (hb.symm.trans ((trim_bits _).1 e))), Bool.false_and]
      exact Ev.now _
    | true =>
      simp only [if_pos ((trim_bits _).2 hb), Bool.true_and]
      have hr := state_range h s.data.toList 0 (by omega) (by have := h.1.1; omega)
      have hc := h.1.2.2.2
      have hst : Ev (fun k => impl_Machine_after.f k a b c s) (stateOf a b s.data.toList 0) := by
        unfold impl_Machine_after.f
        exact impl_state_from h s hs s.data.toList.length 0 0 (by omega) (by omega) (by have := h.1.1; omega)
      refine Ev.bind hst ?_
      simp only [if_pos hr.1, if_pos (show stateOf a b s.data.toList 0 < (c.length : Int) by omega)]
      exact Ev.now _
  · rw [decide_eq_false h]
    simp only [Bool.false_eq_true, if_false, Bool.false_and]
    exact Ev.now _
end Go.Proofs.YtjfgbpmkboncnaaDoor.Sem
