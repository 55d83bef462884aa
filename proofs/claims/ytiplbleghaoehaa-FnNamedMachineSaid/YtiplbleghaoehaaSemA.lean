/- Words printed by the print tool, the unused ones left out, merged into one text by mergew.py. -/
import Derived.Laws.BitsLemmas
import Derived.Test.YtiplbleghaoehaaPAx20
import Derived.Test.YtiplbleghaoehaaPAx21
import Derived.Test.YtiplbleghaoehaaPAx12
import Derived.Test.YtiplbleghaoehaaPAx17
import Derived.OpenShut
import Derived.Test.YtiplbleghaoehaaPAx2
import Derived.Test.YtiplbleghaoehaaPAx23
import Derived.Test.YtiplbleghaoehaaPAx1
import Derived.Test.YtiplbleghaoehaaPAx11
import Derived.Test.YtiplbleghaoehaaPAx13
import Derived.Test.YtiplbleghaoehaaPAx14
import Derived.Test.YtiplbleghaoehaaPAx26
import Derived.Test.YtiplbleghaoehaaManOrd
import Derived.Test.YtiplbleghaoehaaPAx15
import Derived.Test.YtiplbleghaoehaaPAx16
import Derived.Test.YtiplbleghaoehaaPAx27
section
/- Small words on numbers and rounds; no condition but the bounds that they name. -/
namespace Go.Proofs.Ytiplbleghaoehaa.Sem
open Go.RowKit Go.Proofs.Ytiplbleghaoehaa.PA Go.Proofs.YtiplbleghaoehaaW.PrintWords Go.Proofs.YtiplbleghaoehaaW.PrintLast Go.Proofs.YtiplbleghaoehaaW.PrintMore
set_option linter.unusedVariables false
set_option linter.unusedSimpArgs false

theorem w64 {n : Int} (h : -9223372036854775808 ≤ n) (h' : n ≤ 9223372036854775807) : wrap64 n = n := by unfold wrap64; omega

theorem ev1 {α : Type} {g : Nat → Option α} {x : α} (h : ∀ k, g (k + 1) = some x) : Ev g x := ⟨1, fun k hk => by
  obtain ⟨j, rfl⟩ : ∃ j, k = j + 1 := ⟨k - 1, by omega⟩
  exact h j⟩

end Go.Proofs.Ytiplbleghaoehaa.Sem

end
section
/- What a machine is, in plain words: both programs' answers; no condition but a row's length. -/
namespace Go.Proofs.Ytiplbleghaoehaa.Sem
open Go.RowKit Go.Proofs.Ytiplbleghaoehaa.PA Go.Proofs.YtiplbleghaoehaaW.PrintWords Go.Proofs.YtiplbleghaoehaaW.PrintLast Go.Proofs.YtiplbleghaoehaaW.PrintMore
set_option linter.unusedVariables false
set_option linter.unusedSimpArgs false

/-- One state's entries are right. -/
def StOk (a b c : List Int) (i : Nat) : Prop := (0 ≤ rd a i ∧ rd a i < a.length) ∧ (0 ≤ rd b i ∧ rd b i < a.length) ∧ (0 ≤ rd c i ∧ rd c i ≤ 1)
instance (a b c : List Int) (i : Nat) : Decidable (StOk a b c i) := by unfold StOk; infer_instance
/-- A machine: 1 to 12 states, each right. -/
def MachOk (a b c : List Int) : Prop := (1 ≤ a.length ∧ a.length ≤ 12 ∧ b.length = a.length ∧ c.length = a.length) ∧ ∀ i, i < a.length → StOk a b c i
instance (a b c : List Int) : Decidable (MachOk a b c) := by unfold MachOk; infer_instance

theorem implMach_from (a b c : List Int) (hl : c.length ≤ 12) (hl1 : 1 ≤ c.length) (hb : b.length = c.length) (ha : a.length = c.length) (n : Nat) : ∀ i, i + n = c.length → (∀ j, j < i → StOk a b c j) →
    Ev (fun k => impl_isMachine.l0 k (c.length : Int) (c.length : Int) (i : Int) a b c) (decide (MachOk a b c)) := by
  induction n with
  | zero =>
    intro i hi hp
    have hm : MachOk a b c := ⟨⟨by omega, by omega, by omega, by omega⟩, fun j hj => hp j (by omega)⟩
    rw [decide_eq_true hm]
    refine Ev.step (f := fun _ => some true) (fun k => ?_) (Ev.now _)
    simp only [impl_isMachine.l0]
    rw [if_neg (by omega)]
  | succ n ih =>
    intro i hi hp
    have hw : wrap64 ((i : Int) + 1) = ((i + 1 : Nat) : Int) := by unfold wrap64; omega
    by_cases h : StOk a b c i
    · refine Ev.step (f := fun k => impl_isMachine.l0 k (c.length : Int) (c.length : Int) ((i + 1 : Nat) : Int) a b c) (fun k => ?_) (ih (i + 1) (by omega) (fun j hj => by
        rcases Nat.lt_or_eq_of_le (Nat.lt_succ_iff.1 hj) with h' | rfl
        · exact hp j h'
        · exact h))
      obtain ⟨h1, h2, h3⟩ := h
      simp only [impl_isMachine.l0]
      rw [if_pos (by omega), if_pos (by omega), if_pos (by omega), if_neg (by omega), if_neg (by omega), if_pos (by omega), if_neg (by omega), if_neg (by omega), if_pos (by omega), hw]
      by_cases h0 : rd c i = 0
      · rw [if_pos h0]
      · rw [if_neg h0, if_pos (by omega)]
    · have hm : ¬MachOk a b c := fun h' => h (h'.2 i (by omega))
      rw [decide_eq_false hm]
      refine Ev.step (f := fun _ => some false) (fun k => ?_) (Ev.now _)
      simp only [impl_isMachine.l0]
      rw [if_pos (by omega), if_pos (by omega), if_pos (by omega)]
      by_cases h1 : rd a i < 0
      · rw [if_pos h1]
      · rw [if_neg h1]
        by_cases h2 : rd a i ≥ (c.length : Int)
        · rw [if_pos h2]
        · rw [if_neg h2, if_pos (by omega)]
          by_cases h3 : rd b i < 0
          · rw [if_pos h3]
          · rw [if_neg h3]
            by_cases h4 : rd b i ≥ (c.length : Int)
            · rw [if_pos h4]
            · rw [if_neg h4, if_pos (by omega)]
              by_cases h5 : rd c i = 0
              · exact absurd ⟨⟨by omega, by omega⟩, ⟨by omega, by omega⟩, ⟨by omega, by omega⟩⟩ h
              · rw [if_neg h5]
                by_cases h6 : rd c i = 1
                · exact absurd ⟨⟨by omega, by omega⟩, ⟨by omega, by omega⟩, ⟨by omega, by omega⟩⟩ h
                · rw [if_neg h6]

theorem impl_isMachine_eq (a b c : List Int) : Ev (fun k => impl_isMachine.f k a b c) (decide (MachOk a b c)) := by
  unfold impl_isMachine.f
  have no (h : ¬MachOk a b c) : Ev (fun k => impl_isMachine.j0 k (c.length : Int) true a b c) (decide (MachOk a b c)) := by
    rw [decide_eq_false h]
    exact Ev.step (f := fun _ => some false) (fun k => by simp only [impl_isMachine.j0, if_true]) (Ev.now _)
  by_cases h1 : (c.length : Int) < 1
  · simp only [if_pos h1]; exact no (fun h => by have := h.1; omega)
  · simp only [if_neg h1]
    by_cases h2 : (c.length : Int) > 12
    · simp only [if_pos h2]; exact no (fun h => by have := h.1; omega)
    · simp only [if_neg h2]
      by_cases h3 : (a.length : Int) = c.length
      · simp only [if_pos h3]
        by_cases h4 : (b.length : Int) = c.length
        · refine Ev.step (f := fun k => impl_isMachine.l0 k (c.length : Int) (c.length : Int) ((0 : Nat) : Int) a b c) (fun k => ?_) (implMach_from a b c (by omega) (by omega) (by omega) (by omega) c.length 0 (by omega) (fun j hj => absurd hj (by omega)))
          rw [h4, bne_self_eq_false]
          simp only [impl_isMachine.j0, Bool.false_eq_true, if_false]
          rfl
        · have : ((b.length : Int) != c.length) = true := bne_iff_ne.2 h4
          rw [this]
          exact no (fun h => by have := h.1; omega)
      · simp only [if_neg h3]; exact no (fun h => by have := h.1; omega)

end Go.Proofs.Ytiplbleghaoehaa.Sem

end
section
/- The state of a machine after a text, in plain words; no condition but the rows' and the text's lengths. -/
namespace Go.Proofs.Ytiplbleghaoehaa.Sem
open Go.RowKit Go.Proofs.Ytiplbleghaoehaa.PA Go.Proofs.YtiplbleghaoehaaW.PrintWords Go.Proofs.YtiplbleghaoehaaW.PrintLast Go.Proofs.YtiplbleghaoehaaW.PrintMore
set_option linter.unusedVariables false
set_option linter.unusedSimpArgs false

/-- The state after the letters. -/
def stateOf (a b : List Int) : List UInt8 → Int → Int
  | [], s => s
  | x :: r, s => stateOf a b r (if x = 48 then rd a s else rd b s)
theorem bt_list (s : ByteArray) (i : Nat) (h : i < s.data.toList.length) : bt s (i : Int) = (s.data.toList[i].toNat : Int) := by
  unfold bt
  have hlt : (i : Int).toNat < s.size := by rw [Int.toNat_natCast]; rw [Array.length_toList] at h; exact h
  rw [dif_pos hlt]
  have e2 : s[(i : Int).toNat]'hlt = s.data.toList[i] := by
    rw [Array.getElem_toList]
    rfl
  rw [e2]
theorem size_list (s : ByteArray) : s.size = s.data.toList.length := by rw [Array.length_toList]; rfl
theorem u8_48 (x : UInt8) : ((x.toNat : Int) = 48) ↔ x = 48 := by
  constructor
  · intro h; apply UInt8.toNat_inj.1; show x.toNat = 48; omega
  · rintro rfl; rfl
theorem mach_step {a b c : List Int} (h : MachOk a b c) {st : Int} (h0 : 0 ≤ st) (h1 : st < a.length) (x : UInt8) : 0 ≤ (if x = 48 then rd a st else rd b st) ∧ (if x = 48 then rd a st else rd b st) < a.length := by
  have := h.2 st.toNat (by omega)
  unfold StOk at this
  rw [show ((st.toNat : Nat) : Int) = st by omega] at this
  split
  · exact this.1
  · exact this.2.1
theorem state_range {a b c : List Int} (h : MachOk a b c) : ∀ (l : List UInt8) (st : Int), 0 ≤ st → st < a.length → 0 ≤ stateOf a b l st ∧ stateOf a b l st < a.length
  | [], st, h0, h1 => ⟨h0, h1⟩
  | x :: r, st, h0, h1 => by
    have := mach_step h h0 h1 x
    exact state_range h r _ this.1 this.2

theorem impl_state_from {a b c : List Int} (h : MachOk a b c) (s : ByteArray) (hs : s.size ≤ 2000000) (d : Nat) : ∀ (i : Nat) (st : Int), i + d = s.data.toList.length → 0 ≤ st → st < a.length → Ev (fun k => impl_Machine_after.l0 k s st (s.size : Int) (i : Int) a b c) (stateOf a b (s.data.toList.drop i) st) := by
  have hz := size_list s
  have hb' := h.1.2.2.1
  induction d with
  | zero =>
    intro i st hi _ _
    rw [List.drop_of_length_le (by omega)]
    refine Ev.step (f := fun _ => some st) (fun k => ?_) (Ev.now _)
    simp only [impl_Machine_after.l0]
    rw [if_neg (by omega)]
  | succ d ih =>
    intro i st hi h0 h1
    have hlt : i < s.data.toList.length := by omega
    have g1 : (i : Int) < (s.size : Int) := by omega
    have g0 : (0 : Int) ≤ (i : Int) := by omega
    have g2 : st < (b.length : Int) := by omega
    have hb := bt_list s i hlt
    have hw : wrap64 ((i : Int) + 1) = ((i + 1 : Nat) : Int) := by unfold wrap64; omega
    rw [List.drop_eq_getElem_cons hlt]
    have hst := mach_step h h0 h1 s.data.toList[i]
    have ih := ih (i + 1) _ (by omega) hst.1 hst.2
    generalize s.data.toList[i] = x at hb ih ⊢
    show Ev _ (stateOf a b (s.data.toList.drop (i + 1)) (if x = 48 then rd a st else rd b st))
    by_cases hx : x = 48
    · rw [if_pos hx] at ih ⊢
      refine Ev.step (f := fun k => impl_Machine_after.l0 k s (rd a st) (s.size : Int) ((i + 1 : Nat) : Int) a b c) (fun k => ?_) ih
      simp only [impl_Machine_after.l0]
      rw [if_pos g1, if_pos g0, if_pos g1, hb, if_pos ((u8_48 x).2 hx), if_pos h0, if_pos h1, hw]
    · rw [if_neg hx] at ih ⊢
      refine Ev.step (f := fun k => impl_Machine_after.l0 k s (rd b st) (s.size : Int) ((i + 1 : Nat) : Int) a b c) (fun k => ?_) ih
      simp only [impl_Machine_after.l0]
      rw [if_pos g1, if_pos g0, if_pos g1, hb, if_neg (fun e => hx ((u8_48 x).1 e)), if_pos h0, if_pos g2, hw]

end Go.Proofs.Ytiplbleghaoehaa.Sem

end
section
/- The reader of draws: each draw comes to an end, and answers a number in its range; no condition but the reader's own shape. -/
namespace Go.Proofs.Ytiplbleghaoehaa.Sem
open Go.RowKit Go.Proofs.Ytiplbleghaoehaa.PA Go.Proofs.YtiplbleghaoehaaW.PrintWords Go.Proofs.YtiplbleghaoehaaW.PrintLast Go.Proofs.YtiplbleghaoehaaW.PrintMore
set_option linter.unusedVariables false
set_option linter.unusedSimpArgs false

theorem xor_nonneg {a b : Int} (ha : 0 ≤ a) (ha' : a < 1099511627776) (hb : 0 ≤ b) (hb' : b < 1099511627776) : 0 ≤ Go.bits .xor .i64 a b ∧ Go.bits .xor .i64 a b < 1099511627776 := by
  obtain ⟨x, rfl⟩ := Int.eq_ofNat_of_zero_le ha
  obtain ⟨y, rfl⟩ := Int.eq_ofNat_of_zero_le hb
  have hx : x < 2 ^ 40 := by omega
  have hy : y < 2 ^ 40 := by omega
  have h := Nat.xor_lt_two_pow hx hy
  have e : Go.bits .xor .i64 (x : Int) (y : Int) = ((x ^^^ y : Nat) : Int) := by
    have h1 : x % 2 ^ 64 = x := Nat.mod_eq_of_lt (by omega)
    have h2 : y % 2 ^ 64 = y := Nat.mod_eq_of_lt (by omega)
    have e0 : (BitVec.ofNat 64 x ^^^ BitVec.ofNat 64 y).toNat = x ^^^ y := by rw [BitVec.toNat_xor, BitVec.toNat_ofNat, BitVec.toNat_ofNat, h1, h2]
    simp only [Go.bits, BitVec.ofInt_natCast]
    show IntKind.i64.wrap (((BitVec.ofNat 64 x ^^^ BitVec.ofNat 64 y).toNat : Nat) : Int) = _
    rw [e0, IntKind.wrap_i64]
    omega
  rw [e]
  omega

/-- A reader of draws: its bytes, its place, a bound on the place. -/
structure Rd (b : List Int) (p : Int) (m : Int) : Prop where
  bytes : ∀ x ∈ b, 0 ≤ x ∧ x ≤ 255
  len : b.length ≤ 2000
  lo : 0 ≤ p
  hi : p ≤ m
  most : m ≤ 1000000

theorem rd_byte {b : List Int} (h : ∀ x ∈ b, 0 ≤ x ∧ x ≤ 255) (i : Int) : 0 ≤ rd b i ∧ rd b i ≤ 255 := by
  unfold rd
  rw [List.getD_eq_getElem?_getD]
  cases e : b[i.toNat]? with
  | none => simp
  | some x => simpa using h x (List.mem_of_getElem? e)

theorem pick_ok {b : List Int} {p m : Int} (h : Rd b p m) (hm : m + 1 ≤ 1000000) (n : Int) (hn : n ≤ 1000000) :
    ∃ r, (∀ k, spec_l20Rd_pick.f (k + 1) b p n = some (r, p + 1)) ∧ 0 ≤ r ∧ (1 ≤ n → r < n) ∧ (n < 1 → r = 0) ∧ Rd b (p + 1) (m + 1) := by
  have hR : Rd b (p + 1) (m + 1) := ⟨h.bytes, h.len, by have := h.lo; omega, by have := h.hi; omega, hm⟩
  have h0 := h.lo
  have h1 := h.hi
  have hl := h.len
  unfold spec_l20Rd_pick.f
  rw [w64 (n := p + 1) (by omega) (by omega)]
  by_cases hn1 : n < 1
  · refine ⟨0, fun k => ?_, by omega, fun h => by omega, fun _ => rfl, hR⟩
    rw [if_pos hn1]
    simp [spec_l20Rd_pick.j0]
  · simp only [if_neg hn1]
    by_cases hb : (b.length : Int) = 0
    · refine ⟨0, fun k => ?_, by omega, fun h => by omega, fun h => rfl, hR⟩
      simp [spec_l20Rd_pick.j0, hb]
    · have hb' : ((b.length : Int) == 0) = false := by simpa using hb
      rw [hb']
      simp only [spec_l20Rd_pick.j0, Bool.false_eq_true, if_false]
      rw [w64 (n := p + 1 - 1) (by omega) (by omega), show p + 1 - 1 = p by omega]
      by_cases hp : p < (b.length : Int)
      · have hx := rd_byte h.bytes p
        have e : wrap64 (rd b p) = rd b p := w64 (by omega) (by omega)
        refine ⟨Int.tmod (rd b p) n, fun k => ?_, Int.tmod_nonneg _ hx.1, fun _ => Int.tmod_lt_of_pos _ (by omega), fun h => by omega, hR⟩
        rw [if_pos hp, if_pos h0, if_neg (by omega), e]
      · simp only [if_neg hp, if_neg hb]
        have hlp : 0 < (b.length : Int) := by omega
        have t1 : 0 ≤ Int.tmod p (b.length : Int) := Int.tmod_nonneg _ h0
        have t2 : Int.tmod p (b.length : Int) < (b.length : Int) := Int.tmod_lt_of_pos _ hlp
        rw [w64 (n := p * 7) (by omega) (by omega), w64 (n := p * 7 + 3) (by omega) (by omega)]
        have t3 : 0 ≤ Int.tmod (p * 7 + 3) (b.length : Int) := Int.tmod_nonneg _ (by omega)
        have t4 : Int.tmod (p * 7 + 3) (b.length : Int) < (b.length : Int) := Int.tmod_lt_of_pos _ hlp
        simp only [if_pos t1, if_pos t2, if_pos t3, if_pos t4, if_neg (show ¬ n = 0 by omega)]
        have hx := rd_byte h.bytes (Int.tmod p (b.length : Int))
        have hy := rd_byte h.bytes (Int.tmod (p * 7 + 3) (b.length : Int))
        have hq : 0 ≤ Int.tdiv p (b.length : Int) ∧ Int.tdiv p (b.length : Int) ≤ p := by
          rw [Int.tdiv_eq_ediv_of_nonneg h0]
          exact ⟨Int.ediv_nonneg h0 (by omega), Int.ediv_le_self _ h0⟩
        generalize rd b (Int.tmod p (b.length : Int)) = x at hx ⊢
        generalize rd b (Int.tmod (p * 7 + 3) (b.length : Int)) = y at hy ⊢
        generalize Int.tdiv p (b.length : Int) = q at hq ⊢
        rw [w64 (n := x) (by omega) (by omega), w64 (n := y) (by omega) (by omega), w64 (n := x * 131) (by omega) (by omega), w64 (n := y * 1117) (by omega) (by omega),
          w64 (n := x * 131 + y * 1117) (by omega) (by omega), w64 (n := p * 29) (by omega) (by omega), w64 (n := x * 131 + y * 1117 + p * 29) (by omega) (by omega),
          w64 (n := q) (by omega) (by omega), w64 (n := q * 53) (by omega) (by omega), w64 (n := x * 131 + y * 1117 + p * 29 + q * 53) (by omega) (by omega)]
        have hX : 0 ≤ x * 131 + y * 1117 + p * 29 + q * 53 ∧ x * 131 + y * 1117 + p * 29 + q * 53 ≤ 1000000000 := by omega
        generalize x * 131 + y * 1117 + p * 29 + q * 53 = X at hX ⊢
        have hd : 0 ≤ Int.tdiv X 64 ∧ Int.tdiv X 64 ≤ X := by
          rw [Int.tdiv_eq_ediv_of_nonneg hX.1]
          omega
        rw [w64 (n := Int.tdiv X 64) (by omega) (by omega)]
        have hz := xor_nonneg (a := X) (b := Int.tdiv X 64) hX.1 (by omega) hd.1 (by omega)
        exact ⟨_, fun k => rfl, Int.tmod_nonneg _ hz.1, fun _ => Int.tmod_lt_of_pos _ (by omega), fun h => by omega, hR⟩

theorem open_ok {l : List Int} (w : ∀ x ∈ l, (Lit.int .u8 x).wf = true) : ∃ b, spec_l20Open.f l = some (b, 0) ∧ Rd b 0 0 := by
  have hb : ∀ x ∈ l, 0 ≤ x ∧ x ≤ 255 := fun x hx => by
    exact bounds_u8 (w x hx)
  unfold spec_l20Open.f
  by_cases h : (l.length : Int) > 2000
  · refine ⟨l.take 2000, by rw [if_pos h, if_pos (by omega)], fun x hx => hb x (List.mem_of_mem_take hx), ?_, by omega, by omega, by omega⟩
    rw [List.length_take]; omega
  · exact ⟨l, by rw [if_neg h], hb, by omega, by omega, by omega, by omega⟩

theorem alive_ok : laws_alive.f = some true := by
  kernel_rfl

end Go.Proofs.Ytiplbleghaoehaa.Sem

end
section
/- Reached states, in plain words: the least set closed under both letters; the row that grows, and the marks; no condition but that each state's letters lead to a state. -/
namespace Go.Proofs.Ytiplbleghaoehaa.Sem
open Go.RowKit Go.Proofs.Ytiplbleghaoehaa.PA Go.Proofs.YtiplbleghaoehaaW.PrintWords Go.Proofs.YtiplbleghaoehaaW.PrintLast Go.Proofs.YtiplbleghaoehaaW.PrintMore
set_option linter.unusedVariables false
set_option linter.unusedSimpArgs false

/-- Both letters lead from each state to a state. -/
structure Ste (a b : List Int) (n : Nat) : Prop where
  la : a.length = n
  lb : b.length = n
  n12 : n ≤ 12
  st : ∀ x : Int, 0 ≤ x → x < n → (0 ≤ rd a x ∧ rd a x < n) ∧ (0 ≤ rd b x ∧ rd b x < n)

/-- What is reached from a state. -/
inductive Rch (a b : List Int) (z : Int) : Int → Prop
  | here : Rch a b z z
  | zero {x : Int} : Rch a b z x → Rch a b z (rd a x)
  | one {x : Int} : Rch a b z x → Rch a b z (rd b x)

theorem Rch.range {a b : List Int} {n : Nat} (S : Ste a b n) {z x : Int} (hz : 0 ≤ z ∧ z < n) (h : Rch a b z x) : 0 ≤ x ∧ x < n := by
  induction h with
  | here => exact hz
  | zero _ ih => exact (S.st _ ih.1 ih.2).1
  | one _ ih => exact (S.st _ ih.1 ih.2).2
theorem Rch.trans {a b : List Int} {x y z : Int} (h1 : Rch a b x y) (h2 : Rch a b y z) : Rch a b x z := by
  induction h2 with
  | here => exact h1
  | zero _ ih => exact ih.zero
  | one _ ih => exact ih.one

theorem nodup_le {α : Type} [DecidableEq α] : ∀ (K A : List α), K.Nodup → (∀ x ∈ K, x ∈ A) → K.length ≤ A.length
  | [], A, _, _ => Nat.zero_le _
  | x :: K, A, h, hA => by
    have hx : x ∈ A := hA x (List.mem_cons_self)
    rw [List.nodup_cons] at h
    have := nodup_le K (A.erase x) h.2 (fun y hy => (List.mem_erase_of_ne (fun e => h.1 (by rw [← e]; exact hy))).2 (hA y (List.mem_cons_of_mem _ hy)))
    rw [List.length_erase_of_mem hx] at this
    have := List.length_pos_of_mem hx
    simp only [List.length_cons]
    omega

/-- A new one is put at the end. -/
def addI (l : List Int) (x : Int) : List Int := if x ∈ l then l else l ++ [x]
theorem mem_addI (l : List Int) (x y : Int) : y ∈ addI l x ↔ y ∈ l ∨ y = x := by
  unfold addI
  split
  · rename_i h
    exact ⟨Or.inl, fun h' => h'.elim id (fun e => e ▸ h)⟩
  · simp
theorem addI_pre (l : List Int) (x : Int) : ∃ e, addI l x = l ++ e := by
  unfold addI
  split
  · exact ⟨[], by simp⟩
  · exact ⟨[x], rfl⟩

/-- The row of reached ones, the first of which have been looked at. -/
structure Row (a b : List Int) (z : Int) (out : List Int) (i : Nat) : Prop where
  nd : out.Nodup
  at0 : ∃ e, out = z :: e
  snd : ∀ x ∈ out, Rch a b z x
  done : ∀ x ∈ out.take i, rd a x ∈ out ∧ rd b x ∈ out
  ord : ∀ j (h : j < out.length), 0 < j → ∃ m, ∃ h' : m < out.length, m < j ∧ (out[j] = rd a out[m] ∨ out[j] = rd b out[m])

theorem Row.add {a b : List Int} {z : Int} {out : List Int} {i : Nat} (R : Row a b z out i) (hi : i ≤ out.length) (m : Nat) (hm : m < out.length) {x : Int} (hx : x = rd a out[m] ∨ x = rd b out[m]) : Row a b z (addI out x) i ∧ i ≤ (addI out x).length := by
  unfold addI
  split
  · exact ⟨R, hi⟩
  · rename_i hn
    refine ⟨⟨?_, ?_, ?_, ?_, ?_⟩, by rw [List.length_append]; omega⟩
    · rw [List.nodup_append]
      exact ⟨R.nd, by simp, fun p hp q hq => by rw [List.mem_singleton.1 hq]; exact fun e => hn (e ▸ hp)⟩
    · obtain ⟨e, he⟩ := R.at0
      exact ⟨e ++ [x], by rw [he]; rfl⟩
    · intro y hy
      rcases List.mem_append.1 hy with hy | hy
      · exact R.snd y hy
      · rw [List.mem_singleton.1 hy]
        have hr := R.snd out[m] (List.getElem_mem hm)
        rcases hx with rfl | rfl
        · exact hr.zero
        · exact hr.one
    · intro y hy
      rw [List.take_append_of_le_length hi] at hy
      exact ⟨List.mem_append_left _ (R.done y hy).1, List.mem_append_left _ (R.done y hy).2⟩
    · intro j hj h0
      rw [List.length_append] at hj
      simp only [List.length_singleton] at hj
      by_cases hl : j < out.length
      · obtain ⟨m', hm', h1, h2⟩ := R.ord j hl h0
        refine ⟨m', by rw [List.length_append]; omega, h1, ?_⟩
        rw [List.getElem_append_left hl, List.getElem_append_left hm']
        exact h2
      · refine ⟨m, by rw [List.length_append]; omega, by omega, ?_⟩
        rw [List.getElem_append_right (by omega), List.getElem_append_left hm]
        simpa using hx

theorem Row.full {a b : List Int} {z : Int} {out : List Int} (R : Row a b z out out.length) (x : Int) : x ∈ out ↔ Rch a b z x := by
  refine ⟨R.snd x, fun h => ?_⟩
  have hd := R.done
  rw [List.take_of_length_le (Nat.le_refl _)] at hd
  induction h with
  | here =>
    obtain ⟨e, he⟩ := R.at0
    rw [he]; exact List.mem_cons_self
  | zero _ ih => exact (hd _ ih).1
  | one _ ih => exact (hd _ ih).2

theorem Row.few {a b : List Int} {n : Nat} (S : Ste a b n) {z : Int} (hz : 0 ≤ z ∧ z < n) {out : List Int} {i : Nat} (R : Row a b z out i) : out.length ≤ n := by
  have := nodup_le out ((List.range n).map (fun m : Nat => (m : Int))) R.nd (fun x hx => by
    have := (R.snd x hx).range S hz
    exact List.mem_map.2 ⟨x.toNat, List.mem_range.2 (by omega), by omega⟩)
  rwa [List.length_map, List.length_range] at this

theorem Row.start (a b : List Int) (z : Int) : Row a b z [z] 0 :=
  ⟨by simp, ⟨[], rfl⟩, fun x hx => by rw [List.mem_singleton.1 hx]; exact Rch.here, fun x hx => by simp at hx, fun j hj h0 => by simp at hj; omega⟩

theorem Row.next {a b : List Int} {z : Int} {out out' : List Int} {i : Nat} (R : Row a b z out' i) (hi : i < out.length) (hp : ∃ e, out' = out ++ e) (h1 : rd a out[i] ∈ out') (h2 : rd b out[i] ∈ out') : Row a b z out' (i + 1) := by
  obtain ⟨e, rfl⟩ := hp
  refine ⟨R.nd, R.at0, R.snd, fun x hx => ?_, R.ord⟩
  rw [List.take_succ_eq_append_getElem (by rw [List.length_append]; omega)] at hx
  rcases List.mem_append.1 hx with hx | hx
  · exact R.done x hx
  · rw [List.mem_singleton.1 hx, List.getElem_append_left hi]
    exact ⟨h1, h2⟩

/-! ### marks -/
end Go.Proofs.Ytiplbleghaoehaa.Sem

end
section
/- Reached states: both programs' loops, in plain words; no condition but that each state's letters lead to a state. -/
namespace Go.Proofs.Ytiplbleghaoehaa.Sem
open Go.RowKit Go.Proofs.Ytiplbleghaoehaa.PA Go.Proofs.YtiplbleghaoehaaW.PrintWords Go.Proofs.YtiplbleghaoehaaW.PrintLast Go.Proofs.YtiplbleghaoehaaW.PrintMore
set_option linter.unusedVariables false
set_option linter.unusedSimpArgs false

theorem rdN (l : List Int) (i : Nat) (h : i < l.length) : rd l (i : Int) = l[i] := by
  unfold rd
  rw [List.getD_eq_getElem?_getD, Int.toNat_natCast, List.getElem?_eq_getElem h]
  rfl
theorem w1 (i : Nat) (h : i < 9223372036854775807) : wrap64 ((i : Int) + 1) = ((i + 1 : Nat) : Int) := by unfold wrap64; omega

theorem index_from (l : List Int) (x : Int) (hl : l.length ≤ 1000000) (d : Nat) : ∀ i, i + d = l.length → ∃ r, Ev (fun k => slices_Index_int_int.l0 k l x (l.length : Int) (i : Int)) r ∧ (decide (r ≥ 0) = decide (x ∈ l.drop i)) := by
  induction d with
  | zero =>
    intro i hi
    refine ⟨-1, Ev.step (f := fun _ => some (-1)) (fun k => ?_) (Ev.now _), ?_⟩
    · simp only [slices_Index_int_int.l0]
      rw [if_neg (by omega)]
    · rw [List.drop_of_length_le (by omega)]; simp
  | succ d ih =>
    intro i hi
    have hlt : i < l.length := by omega
    rw [List.drop_eq_getElem_cons hlt]
    by_cases h : x = l[i]
    · refine ⟨(i : Int), Ev.step (f := fun _ => some (i : Int)) (fun k => ?_) (Ev.now _), ?_⟩
      · simp only [slices_Index_int_int.l0]
        rw [if_pos (by omega), if_pos (by omega), if_pos (by omega), rdN l i hlt, if_pos h]
      · rw [decide_eq_true (show (i : Int) ≥ 0 by omega), decide_eq_true (show x ∈ l[i] :: l.drop (i + 1) by rw [h]; exact List.mem_cons_self)]
    · obtain ⟨r, hr, hd⟩ := ih (i + 1) (by omega)
      refine ⟨r, Ev.step (f := fun k => slices_Index_int_int.l0 k l x (l.length : Int) ((i + 1 : Nat) : Int)) (fun k => ?_) hr, ?_⟩
      · simp only [slices_Index_int_int.l0]
        rw [if_pos (by omega), if_pos (by omega), if_pos (by omega), rdN l i hlt, if_neg h, w1 i (by omega)]
      · rw [hd]
        refine decide_eq_decide.2 ⟨fun h' => List.mem_cons_of_mem _ h', fun h' => ?_⟩
        rcases List.mem_cons.1 h' with e | e
        · exact absurd e h
        · exact e

theorem contains_eq (l : List Int) (x : Int) (hl : l.length ≤ 1000000) : Ev (fun k => slices_Contains_int_int.f k l x) (decide (x ∈ l)) := by
  obtain ⟨r, hr, hd⟩ := index_from l x hl l.length 0 (by omega)
  rw [List.drop_zero] at hd
  unfold slices_Contains_int_int.f slices_Index_int_int.f
  refine Ev.bind hr ?_
  rw [hd]
  exact Ev.now _

theorem reached_two (out : List Int) (i : Nat) (u v : Int) (a b c : List Int) (hl : out.length ≤ 100000) (r : List Int) (h : Ev (fun k => impl_Machine_reached.l0 k (addI (addI out u) v) (wrap64 ((i : Int) + 1)) a b c) r) :
    Ev (fun k => impl_Machine_reached.l1 k out (i : Int) [u, v] (([u, v] : List Int).length : Int) 0 a b c) r := by
  have hl1 : (addI out u).length ≤ 100001 := by
    unfold addI
    split
    · omega
    · rw [List.length_append, List.length_singleton]; omega
  have w0 : wrap64 (0 + 1) = 1 := by unfold wrap64; omega
  have w2 : wrap64 (1 + 1) = 2 := by unfold wrap64; omega
  have end_ : ∀ o : List Int, Ev (fun k => impl_Machine_reached.l0 k o (wrap64 ((i : Int) + 1)) a b c) r → Ev (fun k => impl_Machine_reached.l1 k o (i : Int) [u, v] 2 2 a b c) r := fun o ho =>
    Ev.step (f := fun k => impl_Machine_reached.l0 k o (wrap64 ((i : Int) + 1)) a b c) (fun k => by simp only [impl_Machine_reached.l1]; rw [if_neg (by omega)]) ho
  have two : ∀ o : List Int, o.length ≤ 100001 → Ev (fun k => impl_Machine_reached.l0 k (addI o v) (wrap64 ((i : Int) + 1)) a b c) r → Ev (fun k => impl_Machine_reached.l1 k o (i : Int) [u, v] 2 1 a b c) r := fun o hol ho => by
    have hc := contains_eq o v (by omega)
    refine Ev.step (f := fun k => (slices_Contains_int_int.f k o v).bind fun t => if t = true then impl_Machine_reached.l1 k o (i : Int) [u, v] 2 2 a b c else if o.length < 17592186044416 then impl_Machine_reached.l1 k (o ++ [v]) (i : Int) [u, v] 2 2 a b c else none) (fun k => ?_) (Ev.bind hc ?_)
    · simp only [impl_Machine_reached.l1]
      rw [if_pos (by omega), if_pos (by omega), if_pos (by simp), w2]
      rfl
    · by_cases hm : v ∈ o
      · rw [decide_eq_true hm]
        simp only [if_true]
        rw [addI, if_pos hm] at ho
        exact end_ o ho
      · rw [decide_eq_false hm]
        simp only [Bool.false_eq_true, if_false, if_pos (show o.length < 17592186044416 by omega)]
        rw [addI, if_neg hm] at ho
        exact end_ _ ho
  have hc := contains_eq out u (by omega)
  refine Ev.step (f := fun k => (slices_Contains_int_int.f k out u).bind fun t => if t = true then impl_Machine_reached.l1 k out (i : Int) [u, v] 2 1 a b c else if out.length < 17592186044416 then impl_Machine_reached.l1 k (out ++ [u]) (i : Int) [u, v] 2 1 a b c else none) (fun k => ?_) (Ev.bind hc ?_)
  · simp only [impl_Machine_reached.l1]
    rw [if_pos (by simp), if_pos (by omega), if_pos (by simp), w0]
    rfl
  · by_cases hm : u ∈ out
    · rw [decide_eq_true hm]
      simp only [if_true]
      rw [addI, if_pos hm] at hl1
      refine two out hl1 ?_
      rw [show addI out u = out from if_pos hm] at h
      exact h
    · rw [decide_eq_false hm]
      simp only [Bool.false_eq_true, if_false, if_pos (show out.length < 17592186044416 by omega)]
      rw [show addI out u = out ++ [u] from if_neg hm] at h hl1
      exact two _ hl1 h

theorem reached_from {a b : List Int} (c : List Int) {n : Nat} (S : Ste a b n) {z : Int} (hz : 0 ≤ z ∧ z < n) (d : Nat) : ∀ (i : Nat) (out : List Int), Row a b z out i → i ≤ out.length → n ≤ i + d →
    ∃ out', Ev (fun k => impl_Machine_reached.l0 k out (i : Int) a b c) out' ∧ Row a b z out' out'.length := by
  induction d with
  | zero =>
    intro i out R hi hn
    have hf := R.few S hz
    obtain rfl : i = out.length := by omega
    refine ⟨out, Ev.step (f := fun _ => some out) (fun k => ?_) (Ev.now _), R⟩
    simp only [impl_Machine_reached.l0]
    rw [if_neg (by omega)]
  | succ d ih =>
    intro i out R hi hn
    have hf := R.few S hz
    have n12 := S.n12
    by_cases hlt : i < out.length
    · have hx := (R.snd _ (List.getElem_mem hlt)).range S hz
      obtain ⟨R1, hi1⟩ := R.add hi i hlt (x := rd a out[i]) (Or.inl rfl)
      have hm1 : out[i] ∈ addI out (rd a out[i]) := (mem_addI _ _ _).2 (Or.inl (List.getElem_mem hlt))
      obtain ⟨e1, he1⟩ := addI_pre out (rd a out[i])
      have hlt1 : i < (addI out (rd a out[i])).length := by rw [he1, List.length_append]; omega
      have hg1 : (addI out (rd a out[i]))[i] = out[i] := by simp only [he1]; rw [List.getElem_append_left hlt]
      obtain ⟨R2, hi2⟩ := R1.add hi1 i hlt1 (x := rd b out[i]) (Or.inr (by rw [hg1]))
      obtain ⟨e2, he2⟩ := addI_pre (addI out (rd a out[i])) (rd b out[i])
      have R3 := R2.next hlt ⟨e1 ++ e2, by rw [he2, he1, List.append_assoc]⟩ ((mem_addI _ _ _).2 (Or.inl ((mem_addI _ _ _).2 (Or.inr rfl)))) ((mem_addI _ _ _).2 (Or.inr rfl))
      obtain ⟨out', ho, Ro⟩ := ih (i + 1) _ R3 (by rw [he2, List.length_append]; omega) (by omega)
      refine ⟨out', Ev.step (f := fun k => impl_Machine_reached.l1 k out (i : Int) [rd a out[i], rd b out[i]] (([rd a out[i], rd b out[i]] : List Int).length : Int) 0 a b c) (fun k => ?_) (reached_two out i _ _ a b c (by omega) out' (by rw [w1 i (by omega)]; exact ho)), Ro⟩
      simp only [impl_Machine_reached.l0]
      rw [if_pos (by omega), if_pos (by omega), rdN out i hlt, if_pos hx.1, if_pos (by rw [S.la]; exact hx.2), if_pos (by rw [S.lb]; exact hx.2)]
      rfl
    · obtain rfl : i = out.length := by omega
      refine ⟨out, Ev.step (f := fun _ => some out) (fun k => ?_) (Ev.now _), R⟩
      simp only [impl_Machine_reached.l0]
      rw [if_neg (by omega)]

theorem impl_reached {a b : List Int} (c : List Int) {n : Nat} (S : Ste a b n) {z : Int} (hz : 0 ≤ z ∧ z < n) : ∃ out, Ev (fun k => impl_Machine_reached.f k a b c z) out ∧ Row a b z out out.length := by
  unfold impl_Machine_reached.f
  exact reached_from c S hz n 0 [z] (Row.start a b z) (by simp) (by omega)

/-! ### the reference's marks -/
end Go.Proofs.Ytiplbleghaoehaa.Sem

end
section
/- Whether order matters, in plain words: both programs' answers; no condition but a row's length. -/
namespace Go.Proofs.Ytiplbleghaoehaa.Sem
open Go.RowKit Go.Proofs.Ytiplbleghaoehaa.PA Go.Proofs.YtiplbleghaoehaaW.PrintWords Go.Proofs.YtiplbleghaoehaaW.PrintLast Go.Proofs.YtiplbleghaoehaaW.PrintMore
set_option linter.unusedVariables false
set_option linter.unusedSimpArgs false

theorem MachOk.steps {a b c : List Int} (h : MachOk a b c) : Ste a b a.length ∧ 0 < a.length := by
  obtain ⟨⟨h1, h2, h3, h4⟩, hs⟩ := h
  refine ⟨⟨rfl, h3, h2, fun x h0 hx => ?_⟩, h1⟩
  have := hs x.toNat (by omega)
  unfold StOk at this
  rw [Int.toNat_of_nonneg h0] at this
  exact ⟨this.1, this.2.1⟩

/-- What AnyOrder answers. -/
def AnyO (a b c : List Int) : Prop := MachOk a b c ∧ ∀ x, Rch a b 0 x → rd b (rd a x) = rd a (rd b x)

theorem impl_anyOrder_eq {a b : List Int} (c : List Int) (S : Ste a b a.length) (hn : 0 < a.length) : ∃ res, Ev (fun k => impl_anyOrder.f k a b c) res ∧ (res = true ↔ ∀ x, Rch a b 0 x → rd b (rd a x) = rd a (rd b x)) := by
  have hz : (0 : Int) ≤ 0 ∧ (0 : Int) < a.length := ⟨by omega, by omega⟩
  obtain ⟨out, ho, R⟩ := impl_reached c S hz
  refine ⟨!out.any (Man.diff a b), ?_, ?_⟩
  · unfold impl_anyOrder.f Man.anyOrderF
    refine Ev.bind ho ?_
    have hin : ∀ x ∈ out, Man.InR a b x := fun x hx => by
      have h := (R.snd x hx).range S hz
      have st := S.st x h.1 h.2
      have lb := S.lb
      unfold Man.InR
      exact ⟨⟨h.1, h.2, by omega⟩, ⟨st.1.1, by omega⟩, st.2⟩
    simp only [if_pos hin]
    exact Ev.now _
  · rw [Bool.not_eq_true', List.any_eq_false]
    unfold Man.diff
    constructor
    · intro h x hx
      have := h x ((R.full x).2 hx)
      simpa using this
    · intro h x hx
      have := h x ((R.full x).1 hx)
      simpa using this

theorem impl_AnyOrder_eq (a b c : List Int) : ∃ res, Ev (fun k => impl_AnyOrder.f k a b c) res ∧ (res = true ↔ AnyO a b c) := by
  unfold impl_AnyOrder.f
  by_cases h : MachOk a b c
  · obtain ⟨S, hn⟩ := h.steps
    obtain ⟨res, hr, e⟩ := impl_anyOrder_eq c S hn
    refine ⟨res, Ev.bind (impl_isMachine_eq a b c) ?_, ?_⟩
    · rw [decide_eq_true h]
      simp only [if_true]
      exact Ev.bind hr (Ev.now _)
    · rw [e]
      exact ⟨fun h' => ⟨h, h'⟩, fun h' => h'.2⟩
  · refine ⟨false, Ev.bind (impl_isMachine_eq a b c) ?_, ?_⟩
    · rw [decide_eq_false h]
      simp only [Bool.false_eq_true, if_false]
      exact Ev.now _
    · exact ⟨fun h' => absurd h' (by simp), fun h' => absurd h'.1 h⟩

end Go.Proofs.Ytiplbleghaoehaa.Sem

end
