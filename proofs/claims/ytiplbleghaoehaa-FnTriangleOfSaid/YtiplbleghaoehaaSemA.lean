/- Words printed by the print tool, the unused ones left out, merged into one text by mergew.py. -/
import Derived.Laws.BitsLemmas
import Derived.Test.YtiplbleghaoehaaPAx19
import Derived.Test.YtiplbleghaoehaaPAx20
import Derived.Test.YtiplbleghaoehaaPAx12
import Derived.Test.YtiplbleghaoehaaPAx17
import Derived.OpenShut
import Derived.Test.YtiplbleghaoehaaPAx2
import Derived.Test.YtiplbleghaoehaaPAx22
import Derived.Test.YtiplbleghaoehaaPAx1
import Derived.Test.YtiplbleghaoehaaPAx11
import Derived.Test.YtiplbleghaoehaaPAx21
import Derived.Test.YtiplbleghaoehaaPAx13
import Derived.Test.YtiplbleghaoehaaPAx14
import Derived.Test.YtiplbleghaoehaaPAx25
import Derived.Test.YtiplbleghaoehaaManOrd
import Derived.Test.YtiplbleghaoehaaPAx15
import Derived.Test.YtiplbleghaoehaaPAx16
import Derived.Test.YtiplbleghaoehaaPAx26
import Derived.Test.YtiplbleghaoehaaPAx30
section
/- Small words on numbers and rounds; no condition but the bounds that they name. -/
namespace Go.Proofs.Ytiplbleghaoehaa.Sem
open Go.RowKit Go.Proofs.Ytiplbleghaoehaa.PA Go.Proofs.YtiplbleghaoehaaW.PrintWords Go.Proofs.YtiplbleghaoehaaW.PrintLast Go.Proofs.YtiplbleghaoehaaW.PrintMore
set_option linter.unusedVariables false
set_option linter.unusedSimpArgs false

theorem w64 {n : Int} (h : -9223372036854775808 ≤ n) (h' : n ≤ 9223372036854775807) : wrap64 n = n := by unfold wrap64; omega

theorem ev1 {α : Type} {g : Nat → Option α} {x : α} (h : ∀ k, g (k + 1) = some x) : Ev g x := ⟨1, fun k hk => by
  obtain ⟨j, rfl⟩ : ∃ j, k = j + 1 := ⟨k - 1, by omega⟩
  exact h j⟩

theorem l1In_eq (n a b : Int) : spec_l1In.f n a b = some (decide (a ≤ n ∧ n ≤ b)) := by
  unfold spec_l1In.f
  by_cases h : n ≥ a
  · rw [if_pos h]; simp; omega
  · rw [if_neg h]; simp; omega
theorem rd_at (l : List Int) (i : Nat) (h : i < l.length) : rd l (i : Int) = l[i] := by
  unfold rd
  rw [List.getD_eq_getElem?_getD, Int.toNat_natCast, List.getElem?_eq_getElem h]
  rfl
end Go.Proofs.Ytiplbleghaoehaa.Sem

end
section
/- What a machine is, in plain words: both programs' answers; no condition but a row's length. -/
namespace Go.Proofs.Ytiplbleghaoehaa.Sem
open Go.RowKit Go.Proofs.Ytiplbleghaoehaa.PA Go.Proofs.YtiplbleghaoehaaW.PrintWords Go.Proofs.YtiplbleghaoehaaW.PrintLast Go.Proofs.YtiplbleghaoehaaW.PrintMore
set_option linter.unusedVariables false
set_option linter.unusedSimpArgs false

/-- One state's entries are right. -/
def StOk (a b c : List Int) (i : Nat) : Prop := (0 ≤ rd a i ∧ rd a i < a.length) ∧ (0 ≤ rd b i ∧ rd b i < a.length) ∧ (0 ≤ rd c i ∧ rd c i ≤ 1)
instance (a b c : List Int) (i : Nat) : Decidable (StOk a b c i) := by unfold StOk; infer_instance
/-- A machine: 1 to 12 states, each right. -/
def MachOk (a b c : List Int) : Prop := (1 ≤ a.length ∧ a.length ≤ 12 ∧ b.length = a.length ∧ c.length = a.length) ∧ ∀ i, i < a.length → StOk a b c i
instance (a b c : List Int) : Decidable (MachOk a b c) := by unfold MachOk; infer_instance

theorem specMach_from (a b c : List Int) (hl : a.length ≤ 1048577) (hb : b.length = a.length) (hc : c.length = a.length) (n : Nat) : ∀ i, i + n = a.length → (∀ j, j < i → StOk a b c j) →
    Ev (fun k => spec_MachineOk.l0 k (i : Int) a b c) (decide (MachOk a b c)) := by
  induction n with
  | zero =>
    intro i hi hp
    refine Ev.step (f := fun _ => some (decide (MachOk a b c))) (fun k => ?_) (Ev.now _)
    simp only [spec_MachineOk.l0]
    rw [if_neg (by omega), l1In_eq, Option.bind_some, if_pos (show (b.length : Int) = a.length by omega), hc, beq_self_eq_true]
    by_cases h : 1 ≤ (a.length : Int) ∧ (a.length : Int) ≤ 12
    · have hm : MachOk a b c := ⟨⟨by omega, by omega, hb, hc⟩, fun j hj => hp j (by omega)⟩
      rw [decide_eq_true h, if_pos rfl, decide_eq_true hm]
    · have hm : ¬MachOk a b c := fun h' => h ⟨by have := h'.1.1; omega, by have := h'.1.2.1; omega⟩
      rw [decide_eq_false h, decide_eq_false hm, if_neg (by decide)]
  | succ n ih =>
    intro i hi hp
    have hw : wrap64 ((i : Int) + 1) = ((i + 1 : Nat) : Int) := by unfold wrap64; omega
    have hw1 : wrap64 ((a.length : Int) - 1) = (a.length : Int) - 1 := by unfold wrap64; omega
    by_cases h : StOk a b c i
    · refine Ev.step (f := fun k => spec_MachineOk.l0 k ((i + 1 : Nat) : Int) a b c) (fun k => ?_) (ih (i + 1) (by omega) (fun j hj => by
        rcases Nat.lt_or_eq_of_le (Nat.lt_succ_iff.1 hj) with h' | rfl
        · exact hp j h'
        · exact h))
      obtain ⟨h1, h2, h3⟩ := h
      simp only [spec_MachineOk.l0]
      rw [if_pos (by omega), if_pos (by omega), if_pos (by omega), if_pos (by omega), hw1, l1In_eq, l1In_eq, l1In_eq, decide_eq_true (show 0 ≤ rd a i ∧ rd a i ≤ (a.length : Int) - 1 by omega), decide_eq_true (show 0 ≤ rd b i ∧ rd b i ≤ (a.length : Int) - 1 by omega), decide_eq_true h3]
      simp only [Option.bind_some, if_true]
      rw [if_pos (by omega), if_pos (by omega), hw]
    · have hm : ¬MachOk a b c := fun h' => h (h'.2 i (by omega))
      rw [decide_eq_false hm]
      refine Ev.step (f := fun _ => some false) (fun k => ?_) (Ev.now _)
      simp only [spec_MachineOk.l0]
      rw [if_pos (by omega), if_pos (by omega), if_pos (by omega), if_pos (by omega), hw1, l1In_eq, l1In_eq, l1In_eq]
      simp only [Option.bind_some]
      rw [if_pos (show (i : Int) < b.length by omega), if_pos (show (i : Int) < c.length by omega)]
      by_cases h1 : 0 ≤ rd a i ∧ rd a i ≤ (a.length : Int) - 1
      · rw [decide_eq_true h1, if_pos rfl]
        by_cases h2 : 0 ≤ rd b i ∧ rd b i ≤ (a.length : Int) - 1
        · rw [decide_eq_true h2, if_pos rfl, decide_eq_false (fun h3 => h ⟨by omega, by omega, h3⟩), if_neg (by decide)]
        · rw [decide_eq_false h2, if_neg (by decide)]
      · rw [decide_eq_false h1, if_neg (by decide)]

theorem spec_MachineOk_eq (a b c : List Int) (hl : a.length ≤ 1048577) : Ev (fun k => spec_MachineOk.f k a b c) (decide (MachOk a b c)) := by
  unfold spec_MachineOk.f
  by_cases hb : b.length = a.length
  · by_cases hc : c.length = a.length
    · exact specMach_from a b c hl hb hc a.length 0 (by omega) (fun j hj => absurd hj (by omega))
    · have hm : ¬MachOk a b c := fun h' => hc h'.1.2.2.2
      rw [decide_eq_false hm]
      refine Ev.step (f := fun _ => some false) (fun k => ?_) (Ev.now _)
      simp only [spec_MachineOk.l0]
      by_cases h0 : (0 : Int) < a.length
      · rw [if_pos h0, if_pos (by omega), if_neg (by omega)]
      · rw [if_neg h0, l1In_eq, Option.bind_some, decide_eq_false (by omega), if_neg (by decide)]
  · have hm : ¬MachOk a b c := fun h' => hb h'.1.2.2.1
    rw [decide_eq_false hm]
    refine Ev.step (f := fun _ => some false) (fun k => ?_) (Ev.now _)
    simp only [spec_MachineOk.l0]
    by_cases h0 : (0 : Int) < a.length
    · rw [if_pos h0, if_neg (by omega)]
    · rw [if_neg h0, l1In_eq, Option.bind_some, decide_eq_false (by omega), if_neg (by decide)]

theorem implMach_from (a b c : List Int) (hl : c.length ≤ 12) (hl1 : 1 ≤ c.length) (hb : b.length = c.length) (ha : a.length = c.length) (n : Nat) : ∀ i, i + n = c.length → (∀ j, j < i → StOk a b c j) →
    Ev (fun k => impl_isMachine.l0 k (c.length : Int) (c.length : Int) (i : Int) a b c) (decide (MachOk a b c)) := by
  induction n with
  | zero =>
    intro i hi hp
    have hm : MachOk a b c := ⟨⟨by omega, by omega, by omega, by omega⟩, fun j hj => hp j (by omega)⟩
    rw [decide_eq_true hm]
    refine Ev.step (f := fun _ => some true) (fun k => ?_) (Ev.now _)
    simp only [impl_isMachine.l0]
    rw [if_neg (by omega)]
  | succ n ih =>
    intro i hi hp
    have hw : wrap64 ((i : Int) + 1) = ((i + 1 : Nat) : Int) := by unfold wrap64; omega
    by_cases h : StOk a b c i
    · refine Ev.step (f := fun k => impl_isMachine.l0 k (c.length : Int) (c.length : Int) ((i + 1 : Nat) : Int) a b c) (fun k => ?_) (ih (i + 1) (by omega) (fun j hj => by
        rcases Nat.lt_or_eq_of_le (Nat.lt_succ_iff.1 hj) with h' | rfl
        · exact hp j h'
        · exact h))
      obtain ⟨h1, h2, h3⟩ := h
      simp only [impl_isMachine.l0]
      rw [if_pos (by omega), if_pos (by omega), if_pos (by omega), if_neg (by omega), if_neg (by omega), if_pos (by omega), if_neg (by omega), if_neg (by omega), if_pos (by omega), hw]
      by_cases h0 : rd c i = 0
      · rw [if_pos h0]
      · rw [if_neg h0, if_pos (by omega)]
    · have hm : ¬MachOk a b c := fun h' => h (h'.2 i (by omega))
      rw [decide_eq_false hm]
      refine Ev.step (f := fun _ => some false) (fun k => ?_) (Ev.now _)
      simp only [impl_isMachine.l0]
      rw [if_pos (by omega), if_pos (by omega), if_pos (by omega)]
      by_cases h1 : rd a i < 0
      · rw [if_pos h1]
      · rw [if_neg h1]
        by_cases h2 : rd a i ≥ (c.length : Int)
        · rw [if_pos h2]
        · rw [if_neg h2, if_pos (by omega)]
          by_cases h3 : rd b i < 0
          · rw [if_pos h3]
          · rw [if_neg h3]
            by_cases h4 : rd b i ≥ (c.length : Int)
            · rw [if_pos h4]
            · rw [if_neg h4, if_pos (by omega)]
              by_cases h5 : rd c i = 0
              · exact absurd ⟨⟨by omega, by omega⟩, ⟨by omega, by omega⟩, ⟨by omega, by omega⟩⟩ h
              · rw [if_neg h5]
                by_cases h6 : rd c i = 1
                · exact absurd ⟨⟨by omega, by omega⟩, ⟨by omega, by omega⟩, ⟨by omega, by omega⟩⟩ h
                · rw [if_neg h6]

theorem impl_isMachine_eq (a b c : List Int) : Ev (fun k => impl_isMachine.f k a b c) (decide (MachOk a b c)) := by
  unfold impl_isMachine.f
  have no (h : ¬MachOk a b c) : Ev (fun k => impl_isMachine.j0 k (c.length : Int) true a b c) (decide (MachOk a b c)) := by
    rw [decide_eq_false h]
    exact Ev.step (f := fun _ => some false) (fun k => by simp only [impl_isMachine.j0, if_true]) (Ev.now _)
  by_cases h1 : (c.length : Int) < 1
  · simp only [if_pos h1]; exact no (fun h => by have := h.1; omega)
  · simp only [if_neg h1]
    by_cases h2 : (c.length : Int) > 12
    · simp only [if_pos h2]; exact no (fun h => by have := h.1; omega)
    · simp only [if_neg h2]
      by_cases h3 : (a.length : Int) = c.length
      · simp only [if_pos h3]
        by_cases h4 : (b.length : Int) = c.length
        · refine Ev.step (f := fun k => impl_isMachine.l0 k (c.length : Int) (c.length : Int) ((0 : Nat) : Int) a b c) (fun k => ?_) (implMach_from a b c (by omega) (by omega) (by omega) (by omega) c.length 0 (by omega) (fun j hj => absurd hj (by omega)))
          rw [h4, bne_self_eq_false]
          simp only [impl_isMachine.j0, Bool.false_eq_true, if_false]
          rfl
        · have : ((b.length : Int) != c.length) = true := bne_iff_ne.2 h4
          rw [this]
          exact no (fun h => by have := h.1; omega)
      · simp only [if_neg h3]; exact no (fun h => by have := h.1; omega)

end Go.Proofs.Ytiplbleghaoehaa.Sem

end
section
/- The state of a machine after a text, in plain words; no condition but the rows' and the text's lengths. -/
namespace Go.Proofs.Ytiplbleghaoehaa.Sem
open Go.RowKit Go.Proofs.Ytiplbleghaoehaa.PA Go.Proofs.YtiplbleghaoehaaW.PrintWords Go.Proofs.YtiplbleghaoehaaW.PrintLast Go.Proofs.YtiplbleghaoehaaW.PrintMore
set_option linter.unusedVariables false
set_option linter.unusedSimpArgs false

/-- The state after the letters. -/
def stateOf (a b : List Int) : List UInt8 → Int → Int
  | [], s => s
  | x :: r, s => stateOf a b r (if x = 48 then rd a s else rd b s)
theorem bt_list (s : ByteArray) (i : Nat) (h : i < s.data.toList.length) : bt s (i : Int) = (s.data.toList[i].toNat : Int) := by
  unfold bt
  have hlt : (i : Int).toNat < s.size := by rw [Int.toNat_natCast]; rw [Array.length_toList] at h; exact h
  rw [dif_pos hlt]
  have e2 : s[(i : Int).toNat]'hlt = s.data.toList[i] := by
    rw [Array.getElem_toList]
    rfl
  rw [e2]
theorem size_list (s : ByteArray) : s.size = s.data.toList.length := by rw [Array.length_toList]; rfl
theorem u8_48 (x : UInt8) : ((x.toNat : Int) = 48) ↔ x = 48 := by
  constructor
  · intro h; apply UInt8.toNat_inj.1; show x.toNat = 48; omega
  · rintro rfl; rfl
theorem mach_step {a b c : List Int} (h : MachOk a b c) {st : Int} (h0 : 0 ≤ st) (h1 : st < a.length) (x : UInt8) : 0 ≤ (if x = 48 then rd a st else rd b st) ∧ (if x = 48 then rd a st else rd b st) < a.length := by
  have := h.2 st.toNat (by omega)
  unfold StOk at this
  rw [show ((st.toNat : Nat) : Int) = st by omega] at this
  split
  · exact this.1
  · exact this.2.1
theorem state_range {a b c : List Int} (h : MachOk a b c) : ∀ (l : List UInt8) (st : Int), 0 ≤ st → st < a.length → 0 ≤ stateOf a b l st ∧ stateOf a b l st < a.length
  | [], st, h0, h1 => ⟨h0, h1⟩
  | x :: r, st, h0, h1 => by
    have := mach_step h h0 h1 x
    exact state_range h r _ this.1 this.2

theorem impl_state_from {a b c : List Int} (h : MachOk a b c) (s : ByteArray) (hs : s.size ≤ 2000000) (d : Nat) : ∀ (i : Nat) (st : Int), i + d = s.data.toList.length → 0 ≤ st → st < a.length → Ev (fun k => impl_Machine_after.l0 k s st (s.size : Int) (i : Int) a b c) (stateOf a b (s.data.toList.drop i) st) := by
  have hz := size_list s
  have hb' := h.1.2.2.1
  induction d with
  | zero =>
    intro i st hi _ _
    rw [List.drop_of_length_le (by omega)]
    refine Ev.step (f := fun _ => some st) (fun k => ?_) (Ev.now _)
    simp only [impl_Machine_after.l0]
    rw [if_neg (by omega)]
  | succ d ih =>
    intro i st hi h0 h1
    have hlt : i < s.data.toList.length := by omega
    have g1 : (i : Int) < (s.size : Int) := by omega
    have g0 : (0 : Int) ≤ (i : Int) := by omega
    have g2 : st < (b.length : Int) := by omega
    have hb := bt_list s i hlt
    have hw : wrap64 ((i : Int) + 1) = ((i + 1 : Nat) : Int) := by unfold wrap64; omega
    rw [List.drop_eq_getElem_cons hlt]
    have hst := mach_step h h0 h1 s.data.toList[i]
    have ih := ih (i + 1) _ (by omega) hst.1 hst.2
    generalize s.data.toList[i] = x at hb ih ⊢
    show Ev _ (stateOf a b (s.data.toList.drop (i + 1)) (if x = 48 then rd a st else rd b st))
    by_cases hx : x = 48
    · rw [if_pos hx] at ih ⊢
      refine Ev.step (f := fun k => impl_Machine_after.l0 k s (rd a st) (s.size : Int) ((i + 1 : Nat) : Int) a b c) (fun k => ?_) ih
      simp only [impl_Machine_after.l0]
      rw [if_pos g1, if_pos g0, if_pos g1, hb, if_pos ((u8_48 x).2 hx), if_pos h0, if_pos h1, hw]
    · rw [if_neg hx] at ih ⊢
      refine Ev.step (f := fun k => impl_Machine_after.l0 k s (rd b st) (s.size : Int) ((i + 1 : Nat) : Int) a b c) (fun k => ?_) ih
      simp only [impl_Machine_after.l0]
      rw [if_pos g1, if_pos g0, if_pos g1, hb, if_neg (fun e => hx ((u8_48 x).1 e)), if_pos h0, if_pos g2, hw]

end Go.Proofs.Ytiplbleghaoehaa.Sem

end
section
/- The reader of draws: each draw comes to an end, and answers a number in its range; no condition but the reader's own shape. -/
namespace Go.Proofs.Ytiplbleghaoehaa.Sem
open Go.RowKit Go.Proofs.Ytiplbleghaoehaa.PA Go.Proofs.YtiplbleghaoehaaW.PrintWords Go.Proofs.YtiplbleghaoehaaW.PrintLast Go.Proofs.YtiplbleghaoehaaW.PrintMore
set_option linter.unusedVariables false
set_option linter.unusedSimpArgs false

theorem xor_nonneg {a b : Int} (ha : 0 ≤ a) (ha' : a < 1099511627776) (hb : 0 ≤ b) (hb' : b < 1099511627776) : 0 ≤ Go.bits .xor .i64 a b ∧ Go.bits .xor .i64 a b < 1099511627776 := by
  obtain ⟨x, rfl⟩ := Int.eq_ofNat_of_zero_le ha
  obtain ⟨y, rfl⟩ := Int.eq_ofNat_of_zero_le hb
  have hx : x < 2 ^ 40 := by omega
  have hy : y < 2 ^ 40 := by omega
  have h := Nat.xor_lt_two_pow hx hy
  have e : Go.bits .xor .i64 (x : Int) (y : Int) = ((x ^^^ y : Nat) : Int) := by
    have h1 : x % 2 ^ 64 = x := Nat.mod_eq_of_lt (by omega)
    have h2 : y % 2 ^ 64 = y := Nat.mod_eq_of_lt (by omega)
    have e0 : (BitVec.ofNat 64 x ^^^ BitVec.ofNat 64 y).toNat = x ^^^ y := by rw [BitVec.toNat_xor, BitVec.toNat_ofNat, BitVec.toNat_ofNat, h1, h2]
    simp only [Go.bits, BitVec.ofInt_natCast]
    show IntKind.i64.wrap (((BitVec.ofNat 64 x ^^^ BitVec.ofNat 64 y).toNat : Nat) : Int) = _
    rw [e0, IntKind.wrap_i64]
    omega
  rw [e]
  omega

/-- A reader of draws: its bytes, its place, a bound on the place. -/
structure Rd (b : List Int) (p : Int) (m : Int) : Prop where
  bytes : ∀ x ∈ b, 0 ≤ x ∧ x ≤ 255
  len : b.length ≤ 2000
  lo : 0 ≤ p
  hi : p ≤ m
  most : m ≤ 1000000

theorem rd_byte {b : List Int} (h : ∀ x ∈ b, 0 ≤ x ∧ x ≤ 255) (i : Int) : 0 ≤ rd b i ∧ rd b i ≤ 255 := by
  unfold rd
  rw [List.getD_eq_getElem?_getD]
  cases e : b[i.toNat]? with
  | none => simp
  | some x => simpa using h x (List.mem_of_getElem? e)

theorem pick_ok {b : List Int} {p m : Int} (h : Rd b p m) (hm : m + 1 ≤ 1000000) (n : Int) (hn : n ≤ 1000000) :
    ∃ r, (∀ k, spec_l20Rd_pick.f (k + 1) b p n = some (r, p + 1)) ∧ 0 ≤ r ∧ (1 ≤ n → r < n) ∧ (n < 1 → r = 0) ∧ Rd b (p + 1) (m + 1) := by
  have hR : Rd b (p + 1) (m + 1) := ⟨h.bytes, h.len, by have := h.lo; omega, by have := h.hi; omega, hm⟩
  have h0 := h.lo
  have h1 := h.hi
  have hl := h.len
  unfold spec_l20Rd_pick.f
  rw [w64 (n := p + 1) (by omega) (by omega)]
  by_cases hn1 : n < 1
  · refine ⟨0, fun k => ?_, by omega, fun h => by omega, fun _ => rfl, hR⟩
    rw [if_pos hn1]
    simp [spec_l20Rd_pick.j0]
  · simp only [if_neg hn1]
    by_cases hb : (b.length : Int) = 0
    · refine ⟨0, fun k => ?_, by omega, fun h => by omega, fun h => rfl, hR⟩
      simp [spec_l20Rd_pick.j0, hb]
    · have hb' : ((b.length : Int) == 0) = false := by simpa using hb
      rw [hb']
      simp only [spec_l20Rd_pick.j0, Bool.false_eq_true, if_false]
      rw [w64 (n := p + 1 - 1) (by omega) (by omega), show p + 1 - 1 = p by omega]
      by_cases hp : p < (b.length : Int)
      · have hx := rd_byte h.bytes p
        have e : wrap64 (rd b p) = rd b p := w64 (by omega) (by omega)
        refine ⟨Int.tmod (rd b p) n, fun k => ?_, Int.tmod_nonneg _ hx.1, fun _ => Int.tmod_lt_of_pos _ (by omega), fun h => by omega, hR⟩
        rw [if_pos hp, if_pos h0, if_neg (by omega), e]
      · simp only [if_neg hp, if_neg hb]
        have hlp : 0 < (b.length : Int) := by omega
        have t1 : 0 ≤ Int.tmod p (b.length : Int) := Int.tmod_nonneg _ h0
        have t2 : Int.tmod p (b.length : Int) < (b.length : Int) := Int.tmod_lt_of_pos _ hlp
        rw [w64 (n := p * 7) (by omega) (by omega), w64 (n := p * 7 + 3) (by omega) (by omega)]
        have t3 : 0 ≤ Int.tmod (p * 7 + 3) (b.length : Int) := Int.tmod_nonneg _ (by omega)
        have t4 : Int.tmod (p * 7 + 3) (b.length : Int) < (b.length : Int) := Int.tmod_lt_of_pos _ hlp
        simp only [if_pos t1, if_pos t2, if_pos t3, if_pos t4, if_neg (show ¬ n = 0 by omega)]
        have hx := rd_byte h.bytes (Int.tmod p (b.length : Int))
        have hy := rd_byte h.bytes (Int.tmod (p * 7 + 3) (b.length : Int))
        have hq : 0 ≤ Int.tdiv p (b.length : Int) ∧ Int.tdiv p (b.length : Int) ≤ p := by
          rw [Int.tdiv_eq_ediv_of_nonneg h0]
          exact ⟨Int.ediv_nonneg h0 (by omega), Int.ediv_le_self _ h0⟩
        generalize rd b (Int.tmod p (b.length : Int)) = x at hx ⊢
        generalize rd b (Int.tmod (p * 7 + 3) (b.length : Int)) = y at hy ⊢
        generalize Int.tdiv p (b.length : Int) = q at hq ⊢
        rw [w64 (n := x) (by omega) (by omega), w64 (n := y) (by omega) (by omega), w64 (n := x * 131) (by omega) (by omega), w64 (n := y * 1117) (by omega) (by omega),
          w64 (n := x * 131 + y * 1117) (by omega) (by omega), w64 (n := p * 29) (by omega) (by omega), w64 (n := x * 131 + y * 1117 + p * 29) (by omega) (by omega),
          w64 (n := q) (by omega) (by omega), w64 (n := q * 53) (by omega) (by omega), w64 (n := x * 131 + y * 1117 + p * 29 + q * 53) (by omega) (by omega)]
        have hX : 0 ≤ x * 131 + y * 1117 + p * 29 + q * 53 ∧ x * 131 + y * 1117 + p * 29 + q * 53 ≤ 1000000000 := by omega
        generalize x * 131 + y * 1117 + p * 29 + q * 53 = X at hX ⊢
        have hd : 0 ≤ Int.tdiv X 64 ∧ Int.tdiv X 64 ≤ X := by
          rw [Int.tdiv_eq_ediv_of_nonneg hX.1]
          omega
        rw [w64 (n := Int.tdiv X 64) (by omega) (by omega)]
        have hz := xor_nonneg (a := X) (b := Int.tdiv X 64) hX.1 (by omega) hd.1 (by omega)
        exact ⟨_, fun k => rfl, Int.tmod_nonneg _ hz.1, fun _ => Int.tmod_lt_of_pos _ (by omega), fun h => by omega, hR⟩

theorem odd_ok {b : List Int} {p m : Int} (h : Rd b p m) (hm : m + 1 ≤ 1000000) (n : Int) (hn : n ≤ 1000000) :
    ∃ r p', (∀ k, spec_l20Rd_odd.f (k + 1) b p n = some (r, p')) ∧ Rd b p' (m + 1) := by
  unfold spec_l20Rd_odd.f
  by_cases h0 : n > 0
  · obtain ⟨r, hr, _, _, _, hR⟩ := pick_ok h hm n hn
    refine ⟨r == n - 1, p + 1, fun k => ?_, hR⟩
    rw [if_pos h0, hr k, Option.bind_some, w64 (n := n - 1) (by omega) (by omega)]
  · exact ⟨false, p, fun k => by rw [if_neg h0], ⟨h.bytes, h.len, h.lo, by have := h.hi; omega, hm⟩⟩

theorem open_ok {l : List Int} (w : ∀ x ∈ l, (Lit.int .u8 x).wf = true) : ∃ b, spec_l20Open.f l = some (b, 0) ∧ Rd b 0 0 := by
  have hb : ∀ x ∈ l, 0 ≤ x ∧ x ≤ 255 := fun x hx => by
    exact bounds_u8 (w x hx)
  unfold spec_l20Open.f
  by_cases h : (l.length : Int) > 2000
  · refine ⟨l.take 2000, by rw [if_pos h, if_pos (by omega)], fun x hx => hb x (List.mem_of_mem_take hx), ?_, by omega, by omega, by omega⟩
    rw [List.length_take]; omega
  · exact ⟨l, by rw [if_neg h], hb, by omega, by omega, by omega, by omega⟩

theorem alive_ok : laws_alive.f = some true := by
  kernel_rfl

end Go.Proofs.Ytiplbleghaoehaa.Sem

end
section
/- Two machines at once, in plain words: both programs' answers; no condition but a row's length. -/
namespace Go.Proofs.Ytiplbleghaoehaa.Sem
open Go.RowKit Go.Proofs.Ytiplbleghaoehaa.PA Go.Proofs.YtiplbleghaoehaaW.PrintWords Go.Proofs.YtiplbleghaoehaaW.PrintLast Go.Proofs.YtiplbleghaoehaaW.PrintMore
set_option linter.unusedVariables false
set_option linter.unusedSimpArgs false

/-- Places of two, from one on. -/
def seg (f : Nat → Nat → Int) (i j d : Nat) : List Int := (List.range' j d).map (f i)
def segs (f : Nat → Nat → Int) (m i d : Nat) : List Int := (List.range' i d).flatMap fun i => seg f i 0 m
theorem seg_succ (f : Nat → Nat → Int) (i j d : Nat) : seg f i j (d + 1) = f i j :: seg f i (j + 1) d := by unfold seg; rw [List.range'_succ, List.map_cons]
theorem segs_succ (f : Nat → Nat → Int) (m i d : Nat) : segs f m i (d + 1) = seg f i 0 m ++ segs f m (i + 1) d := by unfold segs; rw [List.range'_succ, List.flatMap_cons]
theorem put_seg (o : List Int) (f : Nat → Nat → Int) (i j d : Nat) : o ++ seg f i j (d + 1) = (o ++ [f i j]) ++ seg f i (j + 1) d := by rw [seg_succ, List.append_assoc]; rfl
theorem seg_length (f : Nat → Nat → Int) (i j d : Nat) : (seg f i j d).length = d := by unfold seg; rw [List.length_map, List.length_range']
theorem segs_length (f : Nat → Nat → Int) (m d : Nat) : ∀ i, (segs f m i d).length = d * m := by
  induction d with
  | zero => intro i; simp [segs]
  | succ d ih => intro i; rw [segs_succ, List.length_append, seg_length, ih, Nat.add_mul]; omega
def fz (a b : List Int) (i j : Nat) : Int := wrap64 (wrap64 (rd a i * (b.length : Int)) + rd b j)
def fy (a b : List Int) (i j : Nat) : Int := wrap64 (rd a i * rd b j)

/-- What MachineBoth answers. -/
def bothM (a0 a1 a2 b0 b1 b2 : List Int) : List Int × List Int × List Int × Bool :=
  if MachOk a0 a1 a2 ∧ MachOk b0 b1 b2 ∧ a0.length * b0.length ≤ 12 then (segs (fz a0 b0) b0.length 0 a0.length, segs (fz a1 b1) b0.length 0 a0.length, segs (fy a2 b2) b0.length 0 a0.length, true) else ([], [], [], false)

theorem wr (i : Nat) (h : i < 1000000) : wrap64 ((i : Int) + 1) = ((i + 1 : Nat) : Int) := by unfold wrap64; omega

section
variable {a0 a1 a2 b0 b1 b2 : List Int} (A : MachOk a0 a1 a2) (B : MachOk b0 b1 b2)
include A B
theorem spec_both_in (i : Nat) (hi : i < a0.length) (r : List Int × List Int × List Int × Bool) (d : Nat) : ∀ (j : Nat) (o0 o1 o2 : List Int), o0.length + d ≤ 1000 → o1.length + d ≤ 1000 → o2.length + d ≤ 1000 → j + d = b0.length →
    Ev (fun k => spec_MachineBoth.l0 k (b0.length : Int) ((i + 1 : Nat) : Int) a0 a1 a2 b0 b1 b2 (o0 ++ seg (fz a0 b0) i j d) (o1 ++ seg (fz a1 b1) i j d) (o2 ++ seg (fy a2 b2) i j d)) r →
    Ev (fun k => spec_MachineBoth.l1 k (b0.length : Int) (i : Int) (j : Int) a0 a1 a2 b0 b1 b2 o0 o1 o2) r := by
  obtain ⟨⟨p1, p2, p3, p4⟩, _⟩ := A
  obtain ⟨⟨q1, q2, q3, q4⟩, _⟩ := B
  have hi6 : i < 1000000 := by omega
  induction d with
  | zero =>
    intro j o0 o1 o2 _ _ _ hj h
    simp only [seg, List.range'_zero, List.map_nil, List.append_nil] at h
    refine Ev.step (fun k => ?_) h
    simp only [spec_MachineBoth.l1]
    rw [if_neg (by omega), wr i hi6]
  | succ d ih =>
    intro j o0 o1 o2 h0 h1 h2 hj h
    have hj6 : j < 1000000 := by omega
    have x1 : (j : Int) < (b0.length : Int) := by omega
    have y1 : (j : Int) < (b2.length : Int) := by omega
    have x2 : (0 : Int) ≤ (i : Int) := by omega
    have x3 : (i : Int) < (a0.length : Int) := by omega
    have x4 : (0 : Int) ≤ (j : Int) := by omega
    have x5 : (j : Int) < (b0.length : Int) := x1
    have x6 : o0.length < 17592186044416 := by omega
    have x7 : (i : Int) < (a1.length : Int) := by omega
    have x8 : (j : Int) < (b1.length : Int) := by omega
    have x9 : o1.length < 17592186044416 := by omega
    have x10 : (i : Int) < (a2.length : Int) := by omega
    have x11 : (j : Int) < (b2.length : Int) := y1
    have x12 : o2.length < 17592186044416 := by omega
    rw [put_seg, put_seg, put_seg] at h
    have ih := ih (j + 1) (o0 ++ [fz a0 b0 i j]) (o1 ++ [fz a1 b1 i j]) (o2 ++ [fy a2 b2 i j]) (by rw [List.length_append, List.length_singleton]; omega) (by rw [List.length_append, List.length_singleton]; omega) (by rw [List.length_append, List.length_singleton]; omega) (by omega) h
    refine Ev.step (fun k => ?_) ih
    simp only [spec_MachineBoth.l1]
    rw [if_pos x1, if_pos x2, if_pos x3, if_pos x4, if_pos x5, if_pos x6, if_pos x7, if_pos x8, if_pos x9, if_pos x10, if_pos x11, if_pos x12, wr j hj6]
    unfold fz fy
    rw [q3]
theorem spec_both_from (hm : a0.length * b0.length ≤ 12) (d : Nat) : ∀ (i : Nat) (o0 o1 o2 : List Int), o0.length + d * b0.length ≤ 500 → o1.length + d * b0.length ≤ 500 → o2.length + d * b0.length ≤ 500 → i + d = a0.length →
    Ev (fun k => spec_MachineBoth.l0 k (b0.length : Int) (i : Int) a0 a1 a2 b0 b1 b2 o0 o1 o2) (o0 ++ segs (fz a0 b0) b0.length i d, o1 ++ segs (fz a1 b1) b0.length i d, o2 ++ segs (fy a2 b2) b0.length i d, true) := by
  have q := B.1
  induction d with
  | zero =>
    intro i o0 o1 o2 _ _ _ hi
    simp only [segs, List.range'_zero, List.flatMap_nil, List.append_nil]
    refine Ev.step (f := fun _ => some (o0, o1, o2, true)) (fun k => ?_) (Ev.now _)
    simp only [spec_MachineBoth.l0]
    rw [if_neg (by omega)]
  | succ d ih =>
    intro i o0 o1 o2 h0 h1 h2 hi
    rw [Nat.add_mul] at h0 h1 h2
    have ih := ih (i + 1) (o0 ++ seg (fz a0 b0) i 0 b0.length) (o1 ++ seg (fz a1 b1) i 0 b0.length) (o2 ++ seg (fy a2 b2) i 0 b0.length) (by rw [List.length_append, seg_length]; omega) (by rw [List.length_append, seg_length]; omega) (by rw [List.length_append, seg_length]; omega) (by omega)
    rw [segs_succ, segs_succ, segs_succ, ← List.append_assoc, ← List.append_assoc, ← List.append_assoc]
    refine Ev.step (f := fun k => spec_MachineBoth.l1 k (b0.length : Int) (i : Int) ((0 : Nat) : Int) a0 a1 a2 b0 b1 b2 o0 o1 o2) (fun k => ?_) (spec_both_in A B i (by omega) _ b0.length 0 o0 o1 o2 (by omega) (by omega) (by omega) (by omega) ih)
    simp only [spec_MachineBoth.l0]
    rw [if_pos (by omega)]
    rfl
end

theorem mul_small {n m : Nat} (hn : n ≤ 12) (hm : m ≤ 12) : wrap64 ((n : Int) * (m : Int)) = ((n * m : Nat) : Int) := by
  have h : n * m ≤ 144 := Nat.mul_le_mul hn hm
  rw [← Int.natCast_mul]
  unfold wrap64
  omega

theorem spec_MachineBoth_eq (a0 a1 a2 b0 b1 b2 : List Int) (ha : a0.length ≤ 1048577) (hb : b0.length ≤ 1048577) : Ev (fun k => spec_MachineBoth.f k a0 a1 a2 b0 b1 b2) (bothM a0 a1 a2 b0 b1 b2) := by
  unfold spec_MachineBoth.f bothM
  have no : Ev (fun k => spec_MachineBoth.j0 k true a0 a1 a2 b0 b1 b2) (([], [], [], false) : List Int × List Int × List Int × Bool) := ev1 (fun k => by simp only [spec_MachineBoth.j0, if_true])
  refine Ev.bind (spec_MachineOk_eq a0 a1 a2 ha) ?_
  by_cases A : MachOk a0 a1 a2
  · simp only [decide_eq_true A, if_true]
    refine Ev.bind (spec_MachineOk_eq b0 b1 b2 hb) ?_
    by_cases B : MachOk b0 b1 b2
    · simp only [decide_eq_true B, if_true, mul_small A.1.2.1 B.1.2.1]
      by_cases hm : a0.length * b0.length ≤ 12
      · rw [if_pos ⟨A, B, hm⟩, decide_eq_false (show ¬ ((a0.length * b0.length : Nat) : Int) > 12 by omega)]
        have h := spec_both_from A B hm a0.length 0 [] [] [] (by simp; omega) (by simp; omega) (by simp; omega) (by omega)
        simp only [List.nil_append] at h
        refine Ev.step (fun k => ?_) h
        simp only [spec_MachineBoth.j0, Bool.false_eq_true, if_false]
        rfl
      · rw [if_neg (fun h => hm h.2.2), decide_eq_true (show ((a0.length * b0.length : Nat) : Int) > 12 by omega)]
        exact no
    · simp only [decide_eq_false B, Bool.false_eq_true, if_false]
      rw [if_neg (fun h => B h.2.1)]
      exact no
  · simp only [decide_eq_false A, Bool.false_eq_true, if_false]
    rw [if_neg (fun h => A h.1)]
    exact no
theorem bothM_len (a0 a1 a2 b0 b1 b2 : List Int) : (bothM a0 a1 a2 b0 b1 b2).1.length ≤ 12 ∧ (bothM a0 a1 a2 b0 b1 b2).2.1.length ≤ 12 ∧ (bothM a0 a1 a2 b0 b1 b2).2.2.1.length ≤ 12 := by
  unfold bothM
  split
  · rename_i h
    simp only [segs_length]
    exact ⟨h.2.2, h.2.2, h.2.2⟩
  · simp
end Go.Proofs.Ytiplbleghaoehaa.Sem

end
section
/- Reached states, in plain words: the least set closed under both letters; the row that grows, and the marks; no condition but that each state's letters lead to a state. -/
namespace Go.Proofs.Ytiplbleghaoehaa.Sem
open Go.RowKit Go.Proofs.Ytiplbleghaoehaa.PA Go.Proofs.YtiplbleghaoehaaW.PrintWords Go.Proofs.YtiplbleghaoehaaW.PrintLast Go.Proofs.YtiplbleghaoehaaW.PrintMore
set_option linter.unusedVariables false
set_option linter.unusedSimpArgs false

/-- Both letters lead from each state to a state. -/
structure Ste (a b : List Int) (n : Nat) : Prop where
  la : a.length = n
  lb : b.length = n
  n12 : n ≤ 12
  st : ∀ x : Int, 0 ≤ x → x < n → (0 ≤ rd a x ∧ rd a x < n) ∧ (0 ≤ rd b x ∧ rd b x < n)

/-- What is reached from a state. -/
inductive Rch (a b : List Int) (z : Int) : Int → Prop
  | here : Rch a b z z
  | zero {x : Int} : Rch a b z x → Rch a b z (rd a x)
  | one {x : Int} : Rch a b z x → Rch a b z (rd b x)

theorem Rch.range {a b : List Int} {n : Nat} (S : Ste a b n) {z x : Int} (hz : 0 ≤ z ∧ z < n) (h : Rch a b z x) : 0 ≤ x ∧ x < n := by
  induction h with
  | here => exact hz
  | zero _ ih => exact (S.st _ ih.1 ih.2).1
  | one _ ih => exact (S.st _ ih.1 ih.2).2
theorem Rch.trans {a b : List Int} {x y z : Int} (h1 : Rch a b x y) (h2 : Rch a b y z) : Rch a b x z := by
  induction h2 with
  | here => exact h1
  | zero _ ih => exact ih.zero
  | one _ ih => exact ih.one

theorem nodup_le {α : Type} [DecidableEq α] : ∀ (K A : List α), K.Nodup → (∀ x ∈ K, x ∈ A) → K.length ≤ A.length
  | [], A, _, _ => Nat.zero_le _
  | x :: K, A, h, hA => by
    have hx : x ∈ A := hA x (List.mem_cons_self)
    rw [List.nodup_cons] at h
    have := nodup_le K (A.erase x) h.2 (fun y hy => (List.mem_erase_of_ne (fun e => h.1 (by rw [← e]; exact hy))).2 (hA y (List.mem_cons_of_mem _ hy)))
    rw [List.length_erase_of_mem hx] at this
    have := List.length_pos_of_mem hx
    simp only [List.length_cons]
    omega

/-- A new one is put at the end. -/
def addI (l : List Int) (x : Int) : List Int := if x ∈ l then l else l ++ [x]
theorem mem_addI (l : List Int) (x y : Int) : y ∈ addI l x ↔ y ∈ l ∨ y = x := by
  unfold addI
  split
  · rename_i h
    exact ⟨Or.inl, fun h' => h'.elim id (fun e => e ▸ h)⟩
  · simp
theorem addI_pre (l : List Int) (x : Int) : ∃ e, addI l x = l ++ e := by
  unfold addI
  split
  · exact ⟨[], by simp⟩
  · exact ⟨[x], rfl⟩

/-- The row of reached ones, the first of which have been looked at. -/
structure Row (a b : List Int) (z : Int) (out : List Int) (i : Nat) : Prop where
  nd : out.Nodup
  at0 : ∃ e, out = z :: e
  snd : ∀ x ∈ out, Rch a b z x
  done : ∀ x ∈ out.take i, rd a x ∈ out ∧ rd b x ∈ out
  ord : ∀ j (h : j < out.length), 0 < j → ∃ m, ∃ h' : m < out.length, m < j ∧ (out[j] = rd a out[m] ∨ out[j] = rd b out[m])

theorem Row.add {a b : List Int} {z : Int} {out : List Int} {i : Nat} (R : Row a b z out i) (hi : i ≤ out.length) (m : Nat) (hm : m < out.length) {x : Int} (hx : x = rd a out[m] ∨ x = rd b out[m]) : Row a b z (addI out x) i ∧ i ≤ (addI out x).length := by
  unfold addI
  split
  · exact ⟨R, hi⟩
  · rename_i hn
    refine ⟨⟨?_, ?_, ?_, ?_, ?_⟩, by rw [List.length_append]; omega⟩
    · rw [List.nodup_append]
      exact ⟨R.nd, by simp, fun p hp q hq => by rw [List.mem_singleton.1 hq]; exact fun e => hn (e ▸ hp)⟩
    · obtain ⟨e, he⟩ := R.at0
      exact ⟨e ++ [x], by rw [he]; rfl⟩
    · intro y hy
      rcases List.mem_append.1 hy with hy | hy
      · exact R.snd y hy
      · rw [List.mem_singleton.1 hy]
        have hr := R.snd out[m] (List.getElem_mem hm)
        rcases hx with rfl | rfl
        · exact hr.zero
        · exact hr.one
    · intro y hy
      rw [List.take_append_of_le_length hi] at hy
      exact ⟨List.mem_append_left _ (R.done y hy).1, List.mem_append_left _ (R.done y hy).2⟩
    · intro j hj h0
      rw [List.length_append] at hj
      simp only [List.length_singleton] at hj
      by_cases hl : j < out.length
      · obtain ⟨m', hm', h1, h2⟩ := R.ord j hl h0
        refine ⟨m', by rw [List.length_append]; omega, h1, ?_⟩
        rw [List.getElem_append_left hl, List.getElem_append_left hm']
        exact h2
      · refine ⟨m, by rw [List.length_append]; omega, by omega, ?_⟩
        rw [List.getElem_append_right (by omega), List.getElem_append_left hm]
        simpa using hx

theorem Row.full {a b : List Int} {z : Int} {out : List Int} (R : Row a b z out out.length) (x : Int) : x ∈ out ↔ Rch a b z x := by
  refine ⟨R.snd x, fun h => ?_⟩
  have hd := R.done
  rw [List.take_of_length_le (Nat.le_refl _)] at hd
  induction h with
  | here =>
    obtain ⟨e, he⟩ := R.at0
    rw [he]; exact List.mem_cons_self
  | zero _ ih => exact (hd _ ih).1
  | one _ ih => exact (hd _ ih).2

theorem Row.few {a b : List Int} {n : Nat} (S : Ste a b n) {z : Int} (hz : 0 ≤ z ∧ z < n) {out : List Int} {i : Nat} (R : Row a b z out i) : out.length ≤ n := by
  have := nodup_le out ((List.range n).map (fun m : Nat => (m : Int))) R.nd (fun x hx => by
    have := (R.snd x hx).range S hz
    exact List.mem_map.2 ⟨x.toNat, List.mem_range.2 (by omega), by omega⟩)
  rwa [List.length_map, List.length_range] at this

theorem Row.start (a b : List Int) (z : Int) : Row a b z [z] 0 :=
  ⟨by simp, ⟨[], rfl⟩, fun x hx => by rw [List.mem_singleton.1 hx]; exact Rch.here, fun x hx => by simp at hx, fun j hj h0 => by simp at hj; omega⟩

theorem Row.next {a b : List Int} {z : Int} {out out' : List Int} {i : Nat} (R : Row a b z out' i) (hi : i < out.length) (hp : ∃ e, out' = out ++ e) (h1 : rd a out[i] ∈ out') (h2 : rd b out[i] ∈ out') : Row a b z out' (i + 1) := by
  obtain ⟨e, rfl⟩ := hp
  refine ⟨R.nd, R.at0, R.snd, fun x hx => ?_, R.ord⟩
  rw [List.take_succ_eq_append_getElem (by rw [List.length_append]; omega)] at hx
  rcases List.mem_append.1 hx with hx | hx
  · exact R.done x hx
  · rw [List.mem_singleton.1 hx, List.getElem_append_left hi]
    exact ⟨h1, h2⟩

/-! ### marks -/
def upd (a b : List Int) (s : List Int) (j : Nat) : List Int := if rd s j = 1 then (s.set (rd a j).toNat 1).set (rd b j).toNat 1 else s
def pass (a b : List Int) (n : Nat) (s : List Int) : List Int := (List.range n).foldl (upd a b) s
def passes (a b : List Int) (n : Nat) : Nat → List Int → List Int
  | 0, s => s
  | r + 1, s => passes a b n r (pass a b n s)

theorem rd_set (s : List Int) (i : Nat) (hi : i < s.length) (x : Int) (h0 : 0 ≤ x) : rd (s.set i 1) x = if x = (i : Int) then 1 else rd s x := by
  unfold rd
  rw [List.getD_eq_getElem?_getD, List.getD_eq_getElem?_getD, List.getElem?_set]
  by_cases h : x = (i : Int)
  · rw [if_pos h, if_pos (by omega), if_pos hi]
    rfl
  · rw [if_neg h, if_neg (by omega)]

/-- Marks: 0 or 1, one for each state; just reached ones are marked. -/
structure Mk (a b : List Int) (z : Int) (n : Nat) (s : List Int) : Prop where
  len : s.length = n
  bit : ∀ x : Int, 0 ≤ x → x < n → rd s x = 0 ∨ rd s x = 1
  snd : ∀ x : Int, 0 ≤ x → x < n → rd s x = 1 → Rch a b z x

theorem Mk.set1 {a b : List Int} {z : Int} {n : Nat} {s : List Int} (M : Mk a b z n s) {y : Int} (hy : 0 ≤ y ∧ y < n) (hr : Rch a b z y) : Mk a b z n (s.set y.toNat 1) ∧ ∀ x : Int, 0 ≤ x → rd s x = 1 ∨ x = y → rd (s.set y.toNat 1) x = 1 := by
  have hl : y.toNat < s.length := by rw [M.len]; omega
  have hc : ((y.toNat : Nat) : Int) = y := Int.toNat_of_nonneg hy.1
  refine ⟨⟨by rw [List.length_set]; exact M.len, fun x h0 h1 => ?_, fun x h0 h1 h => ?_⟩, fun x h0 h => ?_⟩
  · rw [rd_set s _ hl x h0]
    split
    · exact Or.inr rfl
    · exact M.bit x h0 h1
  · rw [rd_set s _ hl x h0] at h
    split at h
    · rename_i e
      rw [e, hc]; exact hr
    · exact M.snd x h0 h1 h
  · rw [rd_set s _ hl x h0]
    split
    · rfl
    · rename_i e
      exact h.resolve_right (fun e' => e (by rw [e', hc]))

theorem Mk.upd {a b : List Int} {z : Int} {n : Nat} (S : Ste a b n) {s : List Int} (M : Mk a b z n s) (j : Nat) (hj : j < n) :
    Mk a b z n (upd a b s j) ∧ (∀ x : Int, 0 ≤ x → rd s x = 1 → rd (Sem.upd a b s j) x = 1) ∧ (rd s j = 1 → rd (Sem.upd a b s j) (rd a j) = 1 ∧ rd (Sem.upd a b s j) (rd b j) = 1) := by
  unfold Sem.upd
  by_cases h : rd s j = 1
  · rw [if_pos h]
    have hr := M.snd j (by omega) (by omega) h
    have hs := S.st j (by omega) (by omega)
    obtain ⟨M1, k1⟩ := M.set1 hs.1 hr.zero
    obtain ⟨M2, k2⟩ := M1.set1 hs.2 hr.one
    exact ⟨M2, fun x h0 hx => k2 x h0 (Or.inl (k1 x h0 (Or.inl hx))), fun _ => ⟨k2 _ hs.1.1 (Or.inl (k1 _ hs.1.1 (Or.inr rfl))), k2 _ hs.2.1 (Or.inr rfl)⟩⟩
  · rw [if_neg h]
    exact ⟨M, fun _ _ h => h, fun h' => absurd h' h⟩

theorem Mk.fold {a b : List Int} {z : Int} {n : Nat} (S : Ste a b n) : ∀ (l : List Nat), (∀ j ∈ l, j < n) → ∀ {s : List Int}, Mk a b z n s →
    Mk a b z n (l.foldl (Sem.upd a b) s) ∧ (∀ x : Int, 0 ≤ x → rd s x = 1 → rd (l.foldl (Sem.upd a b) s) x = 1) ∧ ∀ j ∈ l, rd s j = 1 → rd (l.foldl (Sem.upd a b) s) (rd a j) = 1 ∧ rd (l.foldl (Sem.upd a b) s) (rd b j) = 1
  | [], _, _, M => ⟨M, fun _ _ h => h, fun _ h => by cases h⟩
  | j :: l, hl, s, M => by
    have hj := hl j List.mem_cons_self
    obtain ⟨M1, k1, d1⟩ := M.upd S j hj
    obtain ⟨M2, k2, d2⟩ := Mk.fold S l (fun i hi => hl i (List.mem_cons_of_mem _ hi)) M1
    have hs := S.st j (by omega) (by omega)
    refine ⟨M2, fun x h0 hx => k2 x h0 (k1 x h0 hx), fun i hi h => ?_⟩
    rcases List.mem_cons.1 hi with rfl | hi
    · exact ⟨k2 _ hs.1.1 (d1 h).1, k2 _ hs.2.1 (d1 h).2⟩
    · exact d2 i hi (k1 i (by omega) h)

theorem Mk.pass {a b : List Int} {z : Int} {n : Nat} (S : Ste a b n) {s : List Int} (M : Mk a b z n s) :
    Mk a b z n (pass a b n s) ∧ (∀ x : Int, 0 ≤ x → rd s x = 1 → rd (Sem.pass a b n s) x = 1) ∧ ∀ x : Int, 0 ≤ x → x < n → rd s x = 1 → rd (Sem.pass a b n s) (rd a x) = 1 ∧ rd (Sem.pass a b n s) (rd b x) = 1 := by
  obtain ⟨M1, k1, d1⟩ := Mk.fold S (List.range n) (fun j hj => List.mem_range.1 hj) M
  refine ⟨M1, k1, fun x h0 h1 h => ?_⟩
  obtain ⟨j, rfl⟩ := Int.eq_ofNat_of_zero_le h0
  exact d1 j (List.mem_range.2 (by omega)) h

/-- After so many passes the first ones of the row are marked. -/
theorem Mk.passes {a b : List Int} {z : Int} {n : Nat} (S : Ste a b n) (hz : 0 ≤ z ∧ z < n) {out : List Int} (R : Row a b z out out.length) (r : Nat) : ∀ (c : Nat) {s : List Int}, Mk a b z n s → (∀ j (h : j < out.length), j ≤ c → rd s out[j] = 1) →
    Mk a b z n (passes a b n r s) ∧ ∀ j (h : j < out.length), j ≤ c + r → rd (Sem.passes a b n r s) out[j] = 1 := by
  induction r with
  | zero => exact fun c s M h => ⟨M, h⟩
  | succ r ih =>
    intro c s M h
    obtain ⟨M1, k1, d1⟩ := M.pass S
    have hr : ∀ j (h : j < out.length), 0 ≤ out[j] ∧ out[j] < n := fun j h => (R.snd _ (List.getElem_mem h)).range S hz
    obtain ⟨M2, h2⟩ := ih (c + 1) M1 (fun j hj hle => by
      by_cases hc : j ≤ c
      · exact k1 _ (hr j hj).1 (h j hj hc)
      · obtain ⟨m, hm, hmj, e⟩ := R.ord j hj (by omega)
        have := d1 _ (hr m hm).1 (hr m hm).2 (h m hm (by omega))
        rcases e with e | e
        · rw [e]; exact this.1
        · rw [e]; exact this.2)
    exact ⟨M2, fun j hj hle => h2 j hj (by omega)⟩

theorem marked {a b : List Int} {n : Nat} (S : Ste a b n) {z : Int} (hz : 0 ≤ z ∧ z < n) {out : List Int} (R : Row a b z out out.length) :
    (passes a b n n ((List.replicate n 0).set z.toNat 1)).length = n ∧ ∀ x : Int, 0 ≤ x → x < n → (Rch a b z x → rd (passes a b n n ((List.replicate n 0).set z.toNat 1)) x = 1) ∧ (¬ Rch a b z x → rd (passes a b n n ((List.replicate n 0).set z.toNat 1)) x = 0) := by
  have hrep : ∀ x : Int, 0 ≤ x → x < n → rd (List.replicate n (0 : Int)) x = 0 := fun x h0 h1 => by
    unfold rd
    rw [List.getD_eq_getElem?_getD, List.getElem?_replicate]
    split <;> rfl
  have M0 : Mk a b z n (List.replicate n 0) := ⟨by simp, fun x h0 h1 => Or.inl (hrep x h0 h1), fun x h0 h1 h => by rw [hrep x h0 h1] at h; exact absurd h (by decide)⟩
  obtain ⟨M1, k1⟩ := M0.set1 hz Rch.here
  obtain ⟨e, he⟩ := R.at0
  obtain ⟨M2, h2⟩ := Mk.passes S hz R n 0 M1 (fun j hj h0 => by
    obtain rfl : j = 0 := by omega
    have : out[0] = z := by simp [he]
    rw [this]
    exact k1 z hz.1 (Or.inr rfl))
  have hf := R.few S hz
  refine ⟨M2.len, fun x h0 h1 => ⟨fun h => ?_, fun h => ?_⟩⟩
  · obtain ⟨j, hj, e⟩ := List.mem_iff_getElem.1 ((R.full x).2 h)
    rw [← e]
    exact h2 j hj (by omega)
  · rcases M2.bit x h0 h1 with h' | h'
    · exact h'
    · exact absurd (M2.snd x h0 h1 h') h
end Go.Proofs.Ytiplbleghaoehaa.Sem

end
section
/- Reached states: both programs' loops, in plain words; no condition but that each state's letters lead to a state. -/
namespace Go.Proofs.Ytiplbleghaoehaa.Sem
open Go.RowKit Go.Proofs.Ytiplbleghaoehaa.PA Go.Proofs.YtiplbleghaoehaaW.PrintWords Go.Proofs.YtiplbleghaoehaaW.PrintLast Go.Proofs.YtiplbleghaoehaaW.PrintMore
set_option linter.unusedVariables false
set_option linter.unusedSimpArgs false

theorem rdN (l : List Int) (i : Nat) (h : i < l.length) : rd l (i : Int) = l[i] := by
  unfold rd
  rw [List.getD_eq_getElem?_getD, Int.toNat_natCast, List.getElem?_eq_getElem h]
  rfl
theorem w1 (i : Nat) (h : i < 9223372036854775807) : wrap64 ((i : Int) + 1) = ((i + 1 : Nat) : Int) := by unfold wrap64; omega

theorem index_from (l : List Int) (x : Int) (hl : l.length ≤ 1000000) (d : Nat) : ∀ i, i + d = l.length → ∃ r, Ev (fun k => slices_Index_int_int.l0 k l x (l.length : Int) (i : Int)) r ∧ (decide (r ≥ 0) = decide (x ∈ l.drop i)) := by
  induction d with
  | zero =>
    intro i hi
    refine ⟨-1, Ev.step (f := fun _ => some (-1)) (fun k => ?_) (Ev.now _), ?_⟩
    · simp only [slices_Index_int_int.l0]
      rw [if_neg (by omega)]
    · rw [List.drop_of_length_le (by omega)]; simp
  | succ d ih =>
    intro i hi
    have hlt : i < l.length := by omega
    rw [List.drop_eq_getElem_cons hlt]
    by_cases h : x = l[i]
    · refine ⟨(i : Int), Ev.step (f := fun _ => some (i : Int)) (fun k => ?_) (Ev.now _), ?_⟩
      · simp only [slices_Index_int_int.l0]
        rw [if_pos (by omega), if_pos (by omega), if_pos (by omega), rdN l i hlt, if_pos h]
      · rw [decide_eq_true (show (i : Int) ≥ 0 by omega), decide_eq_true (show x ∈ l[i] :: l.drop (i + 1) by rw [h]; exact List.mem_cons_self)]
    · obtain ⟨r, hr, hd⟩ := ih (i + 1) (by omega)
      refine ⟨r, Ev.step (f := fun k => slices_Index_int_int.l0 k l x (l.length : Int) ((i + 1 : Nat) : Int)) (fun k => ?_) hr, ?_⟩
      · simp only [slices_Index_int_int.l0]
        rw [if_pos (by omega), if_pos (by omega), if_pos (by omega), rdN l i hlt, if_neg h, w1 i (by omega)]
      · rw [hd]
        refine decide_eq_decide.2 ⟨fun h' => List.mem_cons_of_mem _ h', fun h' => ?_⟩
        rcases List.mem_cons.1 h' with e | e
        · exact absurd e h
        · exact e

theorem contains_eq (l : List Int) (x : Int) (hl : l.length ≤ 1000000) : Ev (fun k => slices_Contains_int_int.f k l x) (decide (x ∈ l)) := by
  obtain ⟨r, hr, hd⟩ := index_from l x hl l.length 0 (by omega)
  rw [List.drop_zero] at hd
  unfold slices_Contains_int_int.f slices_Index_int_int.f
  refine Ev.bind hr ?_
  rw [hd]
  exact Ev.now _

theorem reached_two (out : List Int) (i : Nat) (u v : Int) (a b c : List Int) (hl : out.length ≤ 100000) (r : List Int) (h : Ev (fun k => impl_Machine_reached.l0 k (addI (addI out u) v) (wrap64 ((i : Int) + 1)) a b c) r) :
    Ev (fun k => impl_Machine_reached.l1 k out (i : Int) [u, v] (([u, v] : List Int).length : Int) 0 a b c) r := by
  have hl1 : (addI out u).length ≤ 100001 := by
    unfold addI
    split
    · omega
    · rw [List.length_append, List.length_singleton]; omega
  have w0 : wrap64 (0 + 1) = 1 := by unfold wrap64; omega
  have w2 : wrap64 (1 + 1) = 2 := by unfold wrap64; omega
  have end_ : ∀ o : List Int, Ev (fun k => impl_Machine_reached.l0 k o (wrap64 ((i : Int) + 1)) a b c) r → Ev (fun k => impl_Machine_reached.l1 k o (i : Int) [u, v] 2 2 a b c) r := fun o ho =>
    Ev.step (f := fun k => impl_Machine_reached.l0 k o (wrap64 ((i : Int) + 1)) a b c) (fun k => by simp only [impl_Machine_reached.l1]; rw [if_neg (by omega)]) ho
  have two : ∀ o : List Int, o.length ≤ 100001 → Ev (fun k => impl_Machine_reached.l0 k (addI o v) (wrap64 ((i : Int) + 1)) a b c) r → Ev (fun k => impl_Machine_reached.l1 k o (i : Int) [u, v] 2 1 a b c) r := fun o hol ho => by
    have hc := contains_eq o v (by omega)
    refine Ev.step (f := fun k => (slices_Contains_int_int.f k o v).bind fun t => if t = true then impl_Machine_reached.l1 k o (i : Int) [u, v] 2 2 a b c else if o.length < 17592186044416 then impl_Machine_reached.l1 k (o ++ [v]) (i : Int) [u, v] 2 2 a b c else none) (fun k => ?_) (Ev.bind hc ?_)
    · simp only [impl_Machine_reached.l1]
      rw [if_pos (by omega), if_pos (by omega), if_pos (by simp), w2]
      rfl
    · by_cases hm : v ∈ o
      · rw [decide_eq_true hm]
        simp only [if_true]
        rw [addI, if_pos hm] at ho
        exact end_ o ho
      · rw [decide_eq_false hm]
        simp only [Bool.false_eq_true, if_false, if_pos (show o.length < 17592186044416 by omega)]
        rw [addI, if_neg hm] at ho
        exact end_ _ ho
  have hc := contains_eq out u (by omega)
  refine Ev.step (f := fun k => (slices_Contains_int_int.f k out u).bind fun t => if t = true then impl_Machine_reached.l1 k out (i : Int) [u, v] 2 1 a b c else if out.length < 17592186044416 then impl_Machine_reached.l1 k (out ++ [u]) (i : Int) [u, v] 2 1 a b c else none) (fun k => ?_) (Ev.bind hc ?_)
  · simp only [impl_Machine_reached.l1]
    rw [if_pos (by simp), if_pos (by omega), if_pos (by simp), w0]
    rfl
  · by_cases hm : u ∈ out
    · rw [decide_eq_true hm]
      simp only [if_true]
      rw [addI, if_pos hm] at hl1
      refine two out hl1 ?_
      rw [show addI out u = out from if_pos hm] at h
      exact h
    · rw [decide_eq_false hm]
      simp only [Bool.false_eq_true, if_false, if_pos (show out.length < 17592186044416 by omega)]
      rw [show addI out u = out ++ [u] from if_neg hm] at h hl1
      exact two _ hl1 h

theorem reached_from {a b : List Int} (c : List Int) {n : Nat} (S : Ste a b n) {z : Int} (hz : 0 ≤ z ∧ z < n) (d : Nat) : ∀ (i : Nat) (out : List Int), Row a b z out i → i ≤ out.length → n ≤ i + d →
    ∃ out', Ev (fun k => impl_Machine_reached.l0 k out (i : Int) a b c) out' ∧ Row a b z out' out'.length := by
  induction d with
  | zero =>
    intro i out R hi hn
    have hf := R.few S hz
    obtain rfl : i = out.length := by omega
    refine ⟨out, Ev.step (f := fun _ => some out) (fun k => ?_) (Ev.now _), R⟩
    simp only [impl_Machine_reached.l0]
    rw [if_neg (by omega)]
  | succ d ih =>
    intro i out R hi hn
    have hf := R.few S hz
    have n12 := S.n12
    by_cases hlt : i < out.length
    · have hx := (R.snd _ (List.getElem_mem hlt)).range S hz
      obtain ⟨R1, hi1⟩ := R.add hi i hlt (x := rd a out[i]) (Or.inl rfl)
      have hm1 : out[i] ∈ addI out (rd a out[i]) := (mem_addI _ _ _).2 (Or.inl (List.getElem_mem hlt))
      obtain ⟨e1, he1⟩ := addI_pre out (rd a out[i])
      have hlt1 : i < (addI out (rd a out[i])).length := by rw [he1, List.length_append]; omega
      have hg1 : (addI out (rd a out[i]))[i] = out[i] := by simp only [he1]; rw [List.getElem_append_left hlt]
      obtain ⟨R2, hi2⟩ := R1.add hi1 i hlt1 (x := rd b out[i]) (Or.inr (by rw [hg1]))
      obtain ⟨e2, he2⟩ := addI_pre (addI out (rd a out[i])) (rd b out[i])
      have R3 := R2.next hlt ⟨e1 ++ e2, by rw [he2, he1, List.append_assoc]⟩ ((mem_addI _ _ _).2 (Or.inl ((mem_addI _ _ _).2 (Or.inr rfl)))) ((mem_addI _ _ _).2 (Or.inr rfl))
      obtain ⟨out', ho, Ro⟩ := ih (i + 1) _ R3 (by rw [he2, List.length_append]; omega) (by omega)
      refine ⟨out', Ev.step (f := fun k => impl_Machine_reached.l1 k out (i : Int) [rd a out[i], rd b out[i]] (([rd a out[i], rd b out[i]] : List Int).length : Int) 0 a b c) (fun k => ?_) (reached_two out i _ _ a b c (by omega) out' (by rw [w1 i (by omega)]; exact ho)), Ro⟩
      simp only [impl_Machine_reached.l0]
      rw [if_pos (by omega), if_pos (by omega), rdN out i hlt, if_pos hx.1, if_pos (by rw [S.la]; exact hx.2), if_pos (by rw [S.lb]; exact hx.2)]
      rfl
    · obtain rfl : i = out.length := by omega
      refine ⟨out, Ev.step (f := fun _ => some out) (fun k => ?_) (Ev.now _), R⟩
      simp only [impl_Machine_reached.l0]
      rw [if_neg (by omega)]

theorem impl_reached {a b : List Int} (c : List Int) {n : Nat} (S : Ste a b n) {z : Int} (hz : 0 ≤ z ∧ z < n) : ∃ out, Ev (fun k => impl_Machine_reached.f k a b c z) out ∧ Row a b z out out.length := by
  unfold impl_Machine_reached.f
  exact reached_from c S hz n 0 [z] (Row.start a b z) (by simp) (by omega)

/-! ### the reference's marks -/
theorem rmark_from {a b : List Int} (c : List Int) {n : Nat} (S : Ste a b n) (r : Nat) (res : List Int) (d : Nat) : ∀ (j : Nat) (s : List Int), s.length = n → j + d = n →
    Ev (fun k => spec_l4Reached.l0 k ((List.range' j d).foldl (upd a b) s) (wrap64 ((r : Int) + 1)) a b c) res → Ev (fun k => spec_l4Reached.l1 k s (r : Int) (j : Int) a b c) res := by
  have n12 := S.n12
  induction d with
  | zero =>
    intro j s hs hj h
    refine Ev.step (f := fun k => spec_l4Reached.l0 k s (wrap64 ((r : Int) + 1)) a b c) (fun k => ?_) h
    simp only [spec_l4Reached.l1]
    rw [if_neg (by omega)]
  | succ d ih =>
    intro j s hs hj h
    have st := S.st j (by omega) (by omega)
    rw [List.range'_succ, List.foldl_cons] at h
    refine Ev.step (f := fun k => spec_l4Reached.l1 k (upd a b s j) (r : Int) ((j + 1 : Nat) : Int) a b c) (fun k => ?_) (ih (j + 1) (upd a b s j) (by unfold upd; split <;> simp [hs]) (by omega) h)
    simp only [spec_l4Reached.l1]
    rw [if_pos (by omega), if_pos (by omega), w1 j (by omega)]
    unfold upd
    by_cases h1 : rd s j = 1
    · have ha := S.la
      have hb := S.lb
      rw [if_pos h1, if_pos h1, if_pos (by omega), if_pos st.1.1, if_pos (by omega), if_pos (by omega), if_pos st.2.1, if_pos (by omega)]
    · rw [if_neg h1, if_neg h1]

theorem mark_rounds {a b : List Int} (c : List Int) {n : Nat} (S : Ste a b n) (d : Nat) : ∀ (r : Nat) (s : List Int), s.length = n → r + d = n →
    Ev (fun k => spec_l4Reached.l0 k s (r : Int) a b c) (passes a b n d s) := by
  have n12 := S.n12
  induction d with
  | zero =>
    intro r s hs hr
    refine Ev.step (f := fun _ => some s) (fun k => ?_) (Ev.now _)
    simp only [spec_l4Reached.l0]
    rw [if_neg (by omega)]
  | succ d ih =>
    intro r s hs hr
    have hp : (pass a b n s).length = n := by
      unfold pass
      have : ∀ (l : List Nat) (s : List Int), (l.foldl (upd a b) s).length = s.length := fun l => by
        induction l with
        | nil => exact fun s => rfl
        | cons j l ih => exact fun s => by rw [List.foldl_cons, ih]; unfold upd; split <;> simp
      rw [this, hs]
    have ih := ih (r + 1) (pass a b n s) hp (by omega)
    refine Ev.step (f := fun k => spec_l4Reached.l1 k s (r : Int) ((0 : Nat) : Int) a b c) (fun k => ?_) (rmark_from c S r _ n 0 s hs (by omega) (by rw [w1 r (by omega)]; rw [← List.range_eq_range']; exact ih))
    simp only [spec_l4Reached.l0]
    rw [if_pos (by omega)]
    rfl

theorem spec_reached {a b : List Int} (c : List Int) {n : Nat} (S : Ste a b n) (hn : 0 < n) : ∃ s, Ev (fun k => spec_l4Reached.f k a b c) s ∧ s.length = n ∧ ∀ x : Int, 0 ≤ x → x < n → (Rch a b 0 x → rd s x = 1) ∧ (¬ Rch a b 0 x → rd s x = 0) := by
  obtain ⟨out, _, R⟩ := impl_reached c S (z := 0) ⟨by omega, by omega⟩
  obtain ⟨h1, h2⟩ := marked S (z := 0) ⟨by omega, by omega⟩ R
  have n12 := S.n12
  have la := S.la
  refine ⟨_, ?_, h1, h2⟩
  unfold spec_l4Reached.f
  simp only [la, Int.toNat_natCast, if_pos (show (0 : Int) ≤ (n : Int) by omega), if_pos (show n ≤ 35184372088832 by omega), Option.bind_some, List.length_replicate, if_pos (show (0 : Int) < (n : Int) by omega)]
  exact mark_rounds c S n 0 _ (by simp) (by omega)
end Go.Proofs.Ytiplbleghaoehaa.Sem

end
section
/- Whether order matters, in plain words: both programs' answers; no condition but a row's length. -/
namespace Go.Proofs.Ytiplbleghaoehaa.Sem
open Go.RowKit Go.Proofs.Ytiplbleghaoehaa.PA Go.Proofs.YtiplbleghaoehaaW.PrintWords Go.Proofs.YtiplbleghaoehaaW.PrintLast Go.Proofs.YtiplbleghaoehaaW.PrintMore
set_option linter.unusedVariables false
set_option linter.unusedSimpArgs false

theorem MachOk.steps {a b c : List Int} (h : MachOk a b c) : Ste a b a.length ∧ 0 < a.length := by
  obtain ⟨⟨h1, h2, h3, h4⟩, hs⟩ := h
  refine ⟨⟨rfl, h3, h2, fun x h0 hx => ?_⟩, h1⟩
  have := hs x.toNat (by omega)
  unfold StOk at this
  rw [Int.toNat_of_nonneg h0] at this
  exact ⟨this.1, this.2.1⟩

/-- The two letters lead to the same state. -/
def Comm (a b : List Int) (x : Int) : Prop := rd b (rd a x) = rd a (rd b x)
/-- What AnyOrder answers. -/
def AnyO (a b c : List Int) : Prop := MachOk a b c ∧ ∀ x, Rch a b 0 x → rd b (rd a x) = rd a (rd b x)

theorem impl_anyOrder_eq {a b : List Int} (c : List Int) (S : Ste a b a.length) (hn : 0 < a.length) : ∃ res, Ev (fun k => impl_anyOrder.f k a b c) res ∧ (res = true ↔ ∀ x, Rch a b 0 x → rd b (rd a x) = rd a (rd b x)) := by
  have hz : (0 : Int) ≤ 0 ∧ (0 : Int) < a.length := ⟨by omega, by omega⟩
  obtain ⟨out, ho, R⟩ := impl_reached c S hz
  refine ⟨!out.any (Man.diff a b), ?_, ?_⟩
  · unfold impl_anyOrder.f Man.anyOrderF
    refine Ev.bind ho ?_
    have hin : ∀ x ∈ out, Man.InR a b x := fun x hx => by
      have h := (R.snd x hx).range S hz
      have st := S.st x h.1 h.2
      have lb := S.lb
      unfold Man.InR
      exact ⟨⟨h.1, h.2, by omega⟩, ⟨st.1.1, by omega⟩, st.2⟩
    simp only [if_pos hin]
    exact Ev.now _
  · rw [Bool.not_eq_true', List.any_eq_false]
    unfold Man.diff
    constructor
    · intro h x hx
      have := h x ((R.full x).2 hx)
      simpa using this
    · intro h x hx
      have := h x ((R.full x).1 hx)
      simpa using this

theorem impl_AnyOrder_eq (a b c : List Int) : ∃ res, Ev (fun k => impl_AnyOrder.f k a b c) res ∧ (res = true ↔ AnyO a b c) := by
  unfold impl_AnyOrder.f
  by_cases h : MachOk a b c
  · obtain ⟨S, hn⟩ := h.steps
    obtain ⟨res, hr, e⟩ := impl_anyOrder_eq c S hn
    refine ⟨res, Ev.bind (impl_isMachine_eq a b c) ?_, ?_⟩
    · rw [decide_eq_true h]
      simp only [if_true]
      exact Ev.bind hr (Ev.now _)
    · rw [e]
      exact ⟨fun h' => ⟨h, h'⟩, fun h' => h'.2⟩
  · refine ⟨false, Ev.bind (impl_isMachine_eq a b c) ?_, ?_⟩
    · rw [decide_eq_false h]
      simp only [Bool.false_eq_true, if_false]
      exact Ev.now _
    · exact ⟨fun h' => absurd h' (by simp), fun h' => absurd h'.1 h⟩

theorem spec_order_from {a b : List Int} (c : List Int) {n : Nat} (S : Ste a b n) (s : List Int) (hs : s.length = n) (hk : ∀ x : Int, 0 ≤ x → x < n → (Rch a b 0 x → rd s x = 1) ∧ (¬ Rch a b 0 x → rd s x = 0)) (d : Nat) : ∀ i : Nat, i + d = n →
    ∃ res, Ev (fun k => spec_AnyOrder.l0 k s (i : Int) a b c) res ∧ (res = true ↔ ∀ x : Nat, i ≤ x → x < n → Rch a b 0 x → Comm a b x) := by
  have n12 := S.n12
  have la := S.la
  have lb := S.lb
  induction d with
  | zero =>
    intro i hi
    refine ⟨true, Ev.step (f := fun _ => some true) (fun k => ?_) (Ev.now _), ?_⟩
    · simp only [spec_AnyOrder.l0]
      rw [if_neg (by omega)]
    · exact ⟨fun _ x h1 h2 => by omega, fun _ => rfl⟩
  | succ d ih =>
    intro i hi
    obtain ⟨res, hr, hres⟩ := ih (i + 1) (by omega)
    have hki := hk i (by omega) (by omega)
    have st := S.st i (by omega) (by omega)
    have hw : wrap64 ((i : Int) + 1) = ((i + 1 : Nat) : Int) := w1 i (by omega)
    have hnext : (∀ x : Nat, i ≤ x → x < n → Rch a b 0 x → Comm a b x) ↔ (Rch a b 0 i → Comm a b i) ∧ ∀ x : Nat, i + 1 ≤ x → x < n → Rch a b 0 x → Comm a b x := by
      constructor
      · intro h
        exact ⟨h i (Nat.le_refl _) (by omega), fun x h1 h2 => h x (by omega) h2⟩
      · rintro ⟨h0, h⟩ x h1 h2 h3
        rcases Nat.lt_or_ge i x with h4 | h4
        · exact h x (by omega) h2 h3
        · obtain rfl : x = i := by omega
          exact h0 h3
    rw [hnext, ← hres]
    by_cases hz : Rch a b 0 i
    · by_cases hg : Comm a b i
      · refine ⟨res, Ev.step (f := fun k => spec_AnyOrder.l0 k s ((i + 1 : Nat) : Int) a b c) (fun k => ?_) hr, ⟨fun h => ⟨fun _ => hg, h⟩, fun h => h.2⟩⟩
        simp only [spec_AnyOrder.l0]
        rw [if_pos (show (i : Int) < s.length by omega), if_pos (show (0 : Int) ≤ i by omega), if_pos (hki.1 hz), if_pos (show (i : Int) < a.length by omega), if_pos st.1.1, if_pos (show rd a i < b.length by omega), if_pos (show (i : Int) < b.length by omega), if_pos st.2.1, if_pos (show rd b i < a.length by omega), if_pos (show rd b (rd a i) = rd a (rd b i) from hg), hw]
      · refine ⟨false, Ev.step (f := fun _ => some false) (fun k => ?_) (Ev.now _), ⟨fun h => absurd h (by simp), fun h => absurd (h.1 hz) hg⟩⟩
        simp only [spec_AnyOrder.l0]
        rw [if_pos (show (i : Int) < s.length by omega), if_pos (show (0 : Int) ≤ i by omega), if_pos (hki.1 hz), if_pos (show (i : Int) < a.length by omega), if_pos st.1.1, if_pos (show rd a i < b.length by omega), if_pos (show (i : Int) < b.length by omega), if_pos st.2.1, if_pos (show rd b i < a.length by omega), if_neg (show ¬ rd b (rd a i) = rd a (rd b i) from hg)]
    · refine ⟨res, Ev.step (f := fun k => spec_AnyOrder.l0 k s ((i + 1 : Nat) : Int) a b c) (fun k => ?_) hr, ⟨fun h => ⟨fun h' => absurd h' hz, h⟩, fun h => h.2⟩⟩
      simp only [spec_AnyOrder.l0]
      rw [if_pos (show (i : Int) < s.length by omega), if_pos (show (0 : Int) ≤ i by omega), hki.2 hz, if_neg (show ¬ (0 : Int) = 1 by omega), hw]

theorem spec_AnyOrder_eq (a b c : List Int) (hl : a.length ≤ 1048577) : ∃ res, Ev (fun k => spec_AnyOrder.f k a b c) res ∧ (res = true ↔ AnyO a b c) := by
  unfold spec_AnyOrder.f
  by_cases h : MachOk a b c
  · obtain ⟨S, hn⟩ := h.steps
    obtain ⟨s, hs, h1, h2⟩ := spec_reached c S hn
    obtain ⟨res, hr, hres⟩ := spec_order_from c S s h1 h2 a.length 0 (by omega)
    refine ⟨res, Ev.bind (spec_MachineOk_eq a b c hl) ?_, ?_⟩
    · rw [decide_eq_true h]
      simp only [if_true]
      exact Ev.bind hs hr
    · rw [hres]
      constructor
      · refine fun h' => ⟨h, fun x hx => ?_⟩
        have hx' := hx.range S (z := 0) ⟨by omega, by omega⟩
        obtain ⟨m, rfl⟩ := Int.eq_ofNat_of_zero_le hx'.1
        exact h' m (by omega) (by omega) hx
      · exact fun h' x _ _ hx => h'.2 x hx
  · refine ⟨false, Ev.bind (spec_MachineOk_eq a b c hl) ?_, ?_⟩
    · rw [decide_eq_false h]
      simp only [Bool.false_eq_true, if_false]
      exact Ev.now _
    · exact ⟨fun h' => absurd h' (by simp), fun h' => absurd h'.1 h⟩
end Go.Proofs.Ytiplbleghaoehaa.Sem

end
section
/- The contrary of a machine, in plain words: the program's answer; no condition but a row's length. -/
namespace Go.Proofs.Ytiplbleghaoehaa.Sem
open Go.RowKit Go.Proofs.Ytiplbleghaoehaa.PA Go.Proofs.YtiplbleghaoehaaW.PrintWords Go.Proofs.YtiplbleghaoehaaW.PrintLast Go.Proofs.YtiplbleghaoehaaW.PrintMore
set_option linter.unusedVariables false
set_option linter.unusedSimpArgs false

/-- What MachineNot answers. -/
def notM (a b c : List Int) : List Int × List Int × List Int := if MachOk a b c then (a, b, c.map fun x => wrap64 (1 - x)) else ([], [], [])

theorem impl_not_from (c x y : List Int) (hc : c.length ≤ 1000) (d : Nat) : ∀ i, i + d = c.length →
    Ev (fun k => impl_MachineNot.l0 k c (c.length : Int) (i : Int) x y ((c.take i).map fun x => wrap64 (1 - x))) (x, y, c.map fun x => wrap64 (1 - x)) := by
  induction d with
  | zero =>
    intro i hi
    rw [List.take_of_length_le (by omega)]
    refine Ev.step (f := fun _ => some (x, y, c.map fun x => wrap64 (1 - x))) (fun k => ?_) (Ev.now _)
    simp only [impl_MachineNot.l0]
    rw [if_neg (by omega)]
  | succ d ih =>
    intro i hi
    have hlt : i < c.length := by omega
    have hw : wrap64 ((i : Int) + 1) = ((i + 1 : Nat) : Int) := by unfold wrap64; omega
    refine Ev.step (f := fun k => impl_MachineNot.l0 k c (c.length : Int) ((i + 1 : Nat) : Int) x y ((c.take (i + 1)).map fun x => wrap64 (1 - x))) (fun k => ?_) (ih (i + 1) (by omega))
    simp only [impl_MachineNot.l0]
    rw [if_pos (by omega), if_pos (by omega), if_pos (by omega), if_pos (by rw [List.length_map, List.length_take]; omega), hw, rd_at c i hlt, List.take_succ_eq_append_getElem hlt, List.map_append]
    rfl

theorem impl_MachineNot_eq (a b c : List Int) : Ev (fun k => impl_MachineNot.f k a b c) (notM a b c) := by
  unfold impl_MachineNot.f notM
  refine Ev.bind (impl_isMachine_eq a b c) ?_
  by_cases h : MachOk a b c
  · obtain ⟨h1, h2, h3, h4⟩ := h.1
    simp only [decide_eq_true h, if_true, Option.bind_some, List.nil_append, List.length_nil, if_pos (show 0 + a.length < 17592186044416 by omega), if_pos (show 0 + b.length < 17592186044416 by omega), if_pos h]
    exact impl_not_from c a b (by omega) c.length 0 (by omega)
  · simp only [decide_eq_false h, Bool.false_eq_true, if_false, if_neg h]
    exact Ev.now _
end Go.Proofs.Ytiplbleghaoehaa.Sem

end
section
/- The contrary of a machine is one, and its contrary is the machine; no condition. -/
namespace Go.Proofs.Ytiplbleghaoehaa.Sem
open Go.RowKit Go.Proofs.Ytiplbleghaoehaa.PA Go.Proofs.YtiplbleghaoehaaW.PrintWords Go.Proofs.YtiplbleghaoehaaW.PrintLast Go.Proofs.YtiplbleghaoehaaW.PrintMore
set_option linter.unusedVariables false
set_option linter.unusedSimpArgs false

theorem wrap_one {x : Int} (h0 : 0 ≤ x) (h1 : x ≤ 1) : wrap64 (1 - x) = 1 - x := by unfold wrap64; omega
theorem bit_of {a b c : List Int} (h : MachOk a b c) {x : Int} (hx : x ∈ c) : 0 ≤ x ∧ x ≤ 1 := by
  obtain ⟨i, hi, rfl⟩ := List.mem_iff_getElem.1 hx
  have := (h.2 i (by have := h.1.2.2.2; omega)).2.2
  rw [rd_at c i hi] at this
  exact this
theorem not_ok {a b c : List Int} (h : MachOk a b c) : MachOk a b (c.map fun x => wrap64 (1 - x)) := by
  refine ⟨⟨h.1.1, h.1.2.1, h.1.2.2.1, by rw [List.length_map]; exact h.1.2.2.2⟩, fun i hi => ⟨(h.2 i hi).1, (h.2 i hi).2.1, ?_⟩⟩
  have hc : i < c.length := by have := h.1.2.2.2; omega
  rw [rd_at _ i (by rw [List.length_map]; exact hc), List.getElem_map]
  obtain ⟨h0, h1⟩ := bit_of h (List.getElem_mem hc)
  rw [wrap_one h0 h1]
  omega
end Go.Proofs.Ytiplbleghaoehaa.Sem

end
