/- Words printed by the print tool, the unused ones left out, merged into one text by mergew.py. -/
import Derived.OpenShut
import Derived.Test.YthodcgkhianecaaDoorSemBase
import Derived.Test.YthodcgkhianecaaDoorPAx4
import Derived.Test.YthodcgkhianecaaDoorPAx8
import Derived.Test.YthodcgkhianecaaDoorPAx1
import Derived.Test.YthodcgkhianecaaDoorPAx21
import Derived.Test.YthodcgkhianecaaDoorPAx2
import Derived.Test.YthodcgkhianecaaDoorPAx12
import Derived.Test.YthodcgkhianecaaDoorPAx27
import Derived.Test.YthodcgkhianecaaDoorPAx14
import Derived.Test.YthodcgkhianecaaDoorPAx7
import Derived.Test.YthodcgkhianecaaDoorPAx3
import Derived.Test.YthodcgkhianecaaDoorPAx9
import Derived.Test.YthodcgkhianecaaDoorPAx10
import Derived.Test.YthodcgkhianecaaDoorPAx11
import Derived.Test.YthodcgkhianecaaDoorPAx24
import Derived.Test.YthodcgkhianecaaDoorPAx25
import Derived.Lib.SlTrimSet
import Derived.Test.YthodcgkhianecaaDoorPAx15
import Derived.Test.YthodcgkhianecaaDoorPAx13
import Derived.Test.YthodcgkhianecaaDoorPAx18
import Derived.Test.YthodcgkhianecaaDoorPAx19
import Derived.Test.YthodcgkhianecaaDoorManOrd
import Derived.Test.YthodcgkhianecaaDoorPAx20
import Derived.Test.YthodcgkhianecaaDoorManHolds
import Derived.Test.YthodcgkhianecaaDoorPAx28
import Derived.Test.YthodcgkhianecaaDoorPAx26
section
/- The reader of draws: each draw comes to an end, and answers a number in its range; no condition but the reader's own shape. -/
namespace Go.Proofs.YthodcgkhianecaaDoor.Sem
open Go.RowKit Go.Proofs.YthodcgkhianecaaDoor.PA Go.Proofs.YthodcgkhianecaaDoorW.PrintWords Go.Proofs.YthodcgkhianecaaDoorW.PrintLast Go.Proofs.YthodcgkhianecaaDoorW.PrintMore
set_option linter.unusedVariables false
set_option linter.unusedSimpArgs false

theorem xor_nonneg {a b : Int} (ha : 0 ≤ a) (ha' : a < 1099511627776) (hb : 0 ≤ b) (hb' : b < 1099511627776) : 0 ≤ Go.bits .xor .i64 a b ∧ Go.bits .xor .i64 a b < 1099511627776 := by
  obtain ⟨x, rfl⟩ := Int.eq_ofNat_of_zero_le ha
  obtain ⟨y, rfl⟩ := Int.eq_ofNat_of_zero_le hb
  have hx : x < 2 ^ 40 := by omega
  have hy : y < 2 ^ 40 := by omega
  have h := Nat.xor_lt_two_pow hx hy
  have e : Go.bits .xor .i64 (x : Int) (y : Int) = ((x ^^^ y : Nat) : Int) := by
    have h1 : x % 2 ^ 64 = x := Nat.mod_eq_of_lt (by omega)
    have h2 : y % 2 ^ 64 = y := Nat.mod_eq_of_lt (by omega)
    have e0 : (BitVec.ofNat 64 x ^^^ BitVec.ofNat 64 y).toNat = x ^^^ y := by rw [BitVec.toNat_xor, BitVec.toNat_ofNat, BitVec.toNat_ofNat, h1, h2]
    simp only [Go.bits, BitVec.ofInt_natCast]
    show IntKind.i64.wrap (((BitVec.ofNat 64 x ^^^ BitVec.ofNat 64 y).toNat : Nat) : Int) = _
    rw [e0, IntKind.wrap_i64]
    omega
  rw [e]
  omega

/-- A reader of draws: its bytes, its place, a bound on the place. -/
structure Rd (b : List Int) (p : Int) (m : Int) : Prop where
  bytes : ∀ x ∈ b, 0 ≤ x ∧ x ≤ 255
  len : b.length ≤ 2000
  lo : 0 ≤ p
  hi : p ≤ m
  most : m ≤ 1000000

theorem rd_byte {b : List Int} (h : ∀ x ∈ b, 0 ≤ x ∧ x ≤ 255) (i : Int) : 0 ≤ rd b i ∧ rd b i ≤ 255 := by
  unfold rd
  rw [List.getD_eq_getElem?_getD]
  cases e : b[i.toNat]? with
  | none => simp
  | some x => simpa using h x (List.mem_of_getElem? e)

theorem pick_ok {b : List Int} {p m : Int} (h : Rd b p m) (hm : m + 1 ≤ 1000000) (n : Int) (hn : n ≤ 1000000) :
    ∃ r, (∀ k, spec_l20Rd_pick.f (k + 1) b p n = some (r, p + 1)) ∧ 0 ≤ r ∧ (1 ≤ n → r < n) ∧ (n < 1 → r = 0) ∧ Rd b (p + 1) (m + 1) := by
  have hR : Rd b (p + 1) (m + 1) := ⟨h.bytes, h.len, by have := h.lo; omega, by have := h.hi; omega, hm⟩
  have h0 := h.lo
  have h1 := h.hi
  have hl := h.len
  unfold spec_l20Rd_pick.f
  rw [w64 (n := p + 1) (by omega) (by omega)]
  by_cases hn1 : n < 1
  · refine ⟨0, fun k => ?_, by omega, fun h => by omega, fun _ => rfl, hR⟩
    rw [if_pos hn1]
    simp [spec_l20Rd_pick.j0]
  · simp only [if_neg hn1]
    by_cases hb : (b.length : Int) = 0
    · refine ⟨0, fun k => ?_, by omega, fun h => by omega, fun h => rfl, hR⟩
      simp [spec_l20Rd_pick.j0, hb]
    · have hb' : ((b.length : Int) == 0) = false := by simpa using hb
      rw [hb']
      simp only [spec_l20Rd_pick.j0, Bool.false_eq_true, if_false]
      rw [w64 (n := p + 1 - 1) (by omega) (by omega), show p + 1 - 1 = p by omega]
      by_cases hp : p < (b.length : Int)
      · have hx := rd_byte h.bytes p
        have e : wrap64 (rd b p) = rd b p := w64 (by omega) (by omega)
        refine ⟨Int.tmod (rd b p) n, fun k => ?_, Int.tmod_nonneg _ hx.1, fun _ => Int.tmod_lt_of_pos _ (by omega), fun h => by omega, hR⟩
        rw [if_pos hp, if_pos h0, if_neg (by omega), e]
      · simp only [if_neg hp, if_neg hb]
        have hlp : 0 < (b.length : Int) := by omega
        have t1 : 0 ≤ Int.tmod p (b.length : Int) := Int.tmod_nonneg _ h0
        have t2 : Int.tmod p (b.length : Int) < (b.length : Int) := Int.tmod_lt_of_pos _ hlp
        rw [w64 (n := p * 7) (by omega) (by omega), w64 (n := p * 7 + 3) (by omega) (by omega)]
        have t3 : 0 ≤ Int.tmod (p * 7 + 3) (b.length : Int) := Int.tmod_nonneg _ (by omega)
        have t4 : Int.tmod (p * 7 + 3) (b.length : Int) < (b.length : Int) := Int.tmod_lt_of_pos _ hlp
        simp only [if_pos t1, if_pos t2, if_pos t3, if_pos t4, if_neg (show ¬ n = 0 by omega)]
        have hx := rd_byte h.bytes (Int.tmod p (b.length : Int))
        have hy := rd_byte h.bytes (Int.tmod (p * 7 + 3) (b.length : Int))
        have hq : 0 ≤ Int.tdiv p (b.length : Int) ∧ Int.tdiv p (b.length : Int) ≤ p := by
          rw [Int.tdiv_eq_ediv_of_nonneg h0]
          exact ⟨Int.ediv_nonneg h0 (by omega), Int.ediv_le_self _ h0⟩
        generalize rd b (Int.tmod p (b.length : Int)) = x at hx ⊢
        generalize rd b (Int.tmod (p * 7 + 3) (b.length : Int)) = y at hy ⊢
        generalize Int.tdiv p (b.length : Int) = q at hq ⊢
        rw [w64 (n := x) (by omega) (by omega), w64 (n := y) (by omega) (by omega), w64 (n := x * 131) (by omega) (by omega), w64 (n := y * 1117) (by omega) (by omega),
          w64 (n := x * 131 + y * 1117) (by omega) (by omega), w64 (n := p * 29) (by omega) (by omega), w64 (n := x * 131 + y * 1117 + p * 29) (by omega) (by omega),
          w64 (n := q) (by omega) (by omega), w64 (n := q * 53) (by omega) (by omega), w64 (n := x * 131 + y * 1117 + p * 29 + q * 53) (by omega) (by omega)]
        have hX : 0 ≤ x * 131 + y * 1117 + p * 29 + q * 53 ∧ x * 131 + y * 1117 + p * 29 + q * 53 ≤ 1000000000 := by omega
        generalize x * 131 + y * 1117 + p * 29 + q * 53 = X at hX ⊢
        have hd : 0 ≤ Int.tdiv X 64 ∧ Int.tdiv X 64 ≤ X := by
          rw [Int.tdiv_eq_ediv_of_nonneg hX.1]
          omega
        rw [w64 (n := Int.tdiv X 64) (by omega) (by omega)]
        have hz := xor_nonneg (a := X) (b := Int.tdiv X 64) hX.1 (by omega) hd.1 (by omega)
        exact ⟨_, fun k => rfl, Int.tmod_nonneg _ hz.1, fun _ => Int.tmod_lt_of_pos _ (by omega), fun h => by omega, hR⟩

theorem odd_ok {b : List Int} {p m : Int} (h : Rd b p m) (hm : m + 1 ≤ 1000000) (n : Int) (hn : n ≤ 1000000) :
    ∃ r p', (∀ k, spec_l20Rd_odd.f (k + 1) b p n = some (r, p')) ∧ Rd b p' (m + 1) := by
  unfold spec_l20Rd_odd.f
  by_cases h0 : n > 0
  · obtain ⟨r, hr, _, _, _, hR⟩ := pick_ok h hm n hn
    refine ⟨r == n - 1, p + 1, fun k => ?_, hR⟩
    rw [if_pos h0, hr k, Option.bind_some, w64 (n := n - 1) (by omega) (by omega)]
  · exact ⟨false, p, fun k => by rw [if_neg h0], ⟨h.bytes, h.len, h.lo, by have := h.hi; omega, hm⟩⟩

theorem open_ok {l : List Int} (w : ∀ x ∈ l, (Lit.int .u8 x).wf = true) : ∃ b, spec_l20Open.f l = some (b, 0) ∧ Rd b 0 0 := by
  have hb : ∀ x ∈ l, 0 ≤ x ∧ x ≤ 255 := fun x hx => by
    exact bounds_u8 (w x hx)
  unfold spec_l20Open.f
  by_cases h : (l.length : Int) > 2000
  · refine ⟨l.take 2000, by rw [if_pos h, if_pos (by omega)], fun x hx => hb x (List.mem_of_mem_take hx), ?_, by omega, by omega, by omega⟩
    rw [List.length_take]; omega
  · exact ⟨l, by rw [if_neg h], hb, by omega, by omega, by omega, by omega⟩

theorem Rd.more {b : List Int} {p m m' : Int} (h : Rd b p m) (hm : m ≤ m') (hm' : m' ≤ 1000000) : Rd b p m' := ⟨h.bytes, h.len, h.lo, by have := h.hi; omega, hm'⟩

theorem alive_ok : laws_alive.f = some true := by
  kernel_rfl

end Go.Proofs.YthodcgkhianecaaDoor.Sem

end
section
/- What a machine is, in plain words: both programs' answers; no condition but a row's length. -/
namespace Go.Proofs.YthodcgkhianecaaDoor.Sem
open Go.RowKit Go.Proofs.YthodcgkhianecaaDoor.PA Go.Proofs.YthodcgkhianecaaDoorW.PrintWords Go.Proofs.YthodcgkhianecaaDoorW.PrintLast Go.Proofs.YthodcgkhianecaaDoorW.PrintMore
set_option linter.unusedVariables false
set_option linter.unusedSimpArgs false

/-- One state's entries are right. -/
def StOk (a b c : List Int) (i : Nat) : Prop := (0 ≤ rd a i ∧ rd a i < a.length) ∧ (0 ≤ rd b i ∧ rd b i < a.length) ∧ (0 ≤ rd c i ∧ rd c i ≤ 1)
instance (a b c : List Int) (i : Nat) : Decidable (StOk a b c i) := by unfold StOk; infer_instance
/-- A machine: 1 to 12 states, each right. -/
def MachOk (a b c : List Int) : Prop := (1 ≤ a.length ∧ a.length ≤ 12 ∧ b.length = a.length ∧ c.length = a.length) ∧ ∀ i, i < a.length → StOk a b c i
instance (a b c : List Int) : Decidable (MachOk a b c) := by unfold MachOk; infer_instance

theorem specMach_from (a b c : List Int) (hl : a.length ≤ 1048577) (hb : b.length = a.length) (hc : c.length = a.length) (n : Nat) : ∀ i, i + n = a.length → (∀ j, j < i → StOk a b c j) →
    Ev (fun k => spec_MachineOk.l0 k (i : Int) a b c) (decide (MachOk a b c)) := by
  induction n with
  | zero =>
    intro i hi hp
    refine Ev.step (f := fun _ => some (decide (MachOk a b c))) (fun k => ?_) (Ev.now _)
    simp only [spec_MachineOk.l0]
    rw [if_neg (by omega), l1In_eq, Option.bind_some, if_pos (show (b.length : Int) = a.length by omega), hc, beq_self_eq_true]
    by_cases h : 1 ≤ (a.length : Int) ∧ (a.length : Int) ≤ 12
    · have hm : MachOk a b c := ⟨⟨by omega, by omega, hb, hc⟩, fun j hj => hp j (by omega)⟩
      rw [decide_eq_true h, if_pos rfl, decide_eq_true hm]
    · have hm : ¬MachOk a b c := fun h' => h ⟨by have := h'.1.1; omega, by have := h'.1.2.1; omega⟩
      rw [decide_eq_false h, decide_eq_false hm, if_neg (by decide)]
  | succ n ih =>
    intro i hi hp
    have hw : wrap64 ((i : Int) + 1) = ((i + 1 : Nat) : Int) := by unfold wrap64; omega
    have hw1 : wrap64 ((a.length : Int) - 1) = (a.length : Int) - 1 := by unfold wrap64; omega
    by_cases h : StOk a b c i
    · refine Ev.step (f := fun k => spec_MachineOk.l0 k ((i + 1 : Nat) : Int) a b c) (fun k => ?_) (ih (i + 1) (by omega) (fun j hj => by
        rcases Nat.lt_or_eq_of_le (Nat.lt_succ_iff.1 hj) with h' | rfl
        · exact hp j h'
        · exact h))
      obtain ⟨h1, h2, h3⟩ := h
      simp only [spec_MachineOk.l0]
      rw [if_pos (by omega), if_pos (by omega), if_pos (by omega), if_pos (by omega), hw1, l1In_eq, l1In_eq, l1In_eq, decide_eq_true (show 0 ≤ rd a i ∧ rd a i ≤ (a.length : Int) - 1 by omega), decide_eq_true (show 0 ≤ rd b i ∧ rd b i ≤ (a.length : Int) - 1 by omega), decide_eq_true h3]
      simp only [Option.bind_some, if_true]
      rw [if_pos (by omega), if_pos (by omega), hw]
    · have hm : ¬MachOk a b c := fun h' => h (h'.2 i (by omega))
      rw [decide_eq_false hm]
      refine Ev.step (f := fun _ => some false) (fun k => ?_) (Ev.now _)
      simp only [spec_MachineOk.l0]
      rw [if_pos (by omega), if_pos (by omega), if_pos (by omega), if_pos (by omega), hw1, l1In_eq, l1In_eq, l1In_eq]
      simp only [Option.bind_some]
      rw [if_pos (show (i : Int) < b.length by omega), if_pos (show (i : Int) < c.length by omega)]
      by_cases h1 : 0 ≤ rd a i ∧ rd a i ≤ (a.length : Int) - 1
      · rw [decide_eq_true h1, if_pos rfl]
        by_cases h2 : 0 ≤ rd b i ∧ rd b i ≤ (a.length : Int) - 1
        · rw [decide_eq_true h2, if_pos rfl, decide_eq_false (fun h3 => h ⟨by omega, by omega, h3⟩), if_neg (by decide)]
        · rw [decide_eq_false h2, if_neg (by decide)]
      · rw [decide_eq_false h1, if_neg (by decide)]

theorem spec_MachineOk_eq (a b c : List Int) (hl : a.length ≤ 1048577) : Ev (fun k => spec_MachineOk.f k a b c) (decide (MachOk a b c)) := by
  unfold spec_MachineOk.f
  by_cases hb : b.length = a.length
  · by_cases hc : c.length = a.length
    · exact specMach_from a b c hl hb hc a.length 0 (by omega) (fun j hj => absurd hj (by omega))
    · have hm : ¬MachOk a b c := fun h' => hc h'.1.2.2.2
      rw [decide_eq_false hm]
      refine Ev.step (f := fun _ => some false) (fun k => ?_) (Ev.now _)
      simp only [spec_MachineOk.l0]
      by_cases h0 : (0 : Int) < a.length
      · rw [if_pos h0, if_pos (by omega), if_neg (by omega)]
      · rw [if_neg h0, l1In_eq, Option.bind_some, decide_eq_false (by omega), if_neg (by decide)]
  · have hm : ¬MachOk a b c := fun h' => hb h'.1.2.2.1
    rw [decide_eq_false hm]
    refine Ev.step (f := fun _ => some false) (fun k => ?_) (Ev.now _)
    simp only [spec_MachineOk.l0]
    by_cases h0 : (0 : Int) < a.length
    · rw [if_pos h0, if_neg (by omega)]
    · rw [if_neg h0, l1In_eq, Option.bind_some, decide_eq_false (by omega), if_neg (by decide)]

theorem implMach_from (a b c : List Int) (hl : c.length ≤ 12) (hl1 : 1 ≤ c.length) (hb : b.length = c.length) (ha : a.length = c.length) (n : Nat) : ∀ i, i + n = c.length → (∀ j, j < i → StOk a b c j) →
    Ev (fun k => impl_isMachine.l0 k (c.length : Int) (c.length : Int) (i : Int) a b c) (decide (MachOk a b c)) := by
  induction n with
  | zero =>
    intro i hi hp
    have hm : MachOk a b c := ⟨⟨by omega, by omega, by omega, by omega⟩, fun j hj => hp j (by omega)⟩
    rw [decide_eq_true hm]
    refine Ev.step (f := fun _ => some true) (fun k => ?_) (Ev.now _)
    simp only [impl_isMachine.l0]
    rw [if_neg (by omega)]
  | succ n ih =>
    intro i hi hp
    have hw : wrap64 ((i : Int) + 1) = ((i + 1 : Nat) : Int) := by unfold wrap64; omega
    by_cases h : StOk a b c i
    · refine Ev.step (f := fun k => impl_isMachine.l0 k (c.length : Int) (c.length : Int) ((i + 1 : Nat) : Int) a b c) (fun k => ?_) (ih (i + 1) (by omega) (fun j hj => by
        rcases Nat.lt_or_eq_of_le (Nat.lt_succ_iff.1 hj) with h' | rfl
        · exact hp j h'
        · exact h))
      obtain ⟨h1, h2, h3⟩ := h
      simp only [impl_isMachine.l0]
      rw [if_pos (by omega), if_pos (by omega), if_pos (by omega), if_neg (by omega), if_neg (by omega), if_pos (by omega), if_neg (by omega), if_neg (by omega), if_pos (by omega), hw]
      by_cases h0 : rd c i = 0
      · rw [if_pos h0]
      · rw [if_neg h0, if_pos (by omega)]
    · have hm : ¬MachOk a b c := fun h' => h (h'.2 i (by omega))
      rw [decide_eq_false hm]
      refine Ev.step (f := fun _ => some false) (fun k => ?_) (Ev.now _)
      simp only [impl_isMachine.l0]
      rw [if_pos (by omega), if_pos (by omega), if_pos (by omega)]
      by_cases h1 : rd a i < 0
      · rw [if_pos h1]
      · rw [if_neg h1]
        by_cases h2 : rd a i ≥ (c.length : Int)
        · rw [if_pos h2]
        · rw [if_neg h2, if_pos (by omega)]
          by_cases h3 : rd b i < 0
          · rw [if_pos h3]
          · rw [if_neg h3]
            by_cases h4 : rd b i ≥ (c.length : Int)
            · rw [if_pos h4]
            · rw [if_neg h4, if_pos (by omega)]
              by_cases h5 : rd c i = 0
              · exact absurd ⟨⟨by omega, by omega⟩, ⟨by omega, by omega⟩, ⟨by omega, by omega⟩⟩ h
              · rw [if_neg h5]
                by_cases h6 : rd c i = 1
                · exact absurd ⟨⟨by omega, by omega⟩, ⟨by omega, by omega⟩, ⟨by omega, by omega⟩⟩ h
                · rw [if_neg h6]

theorem impl_isMachine_eq (a b c : List Int) : Ev (fun k => impl_isMachine.f k a b c) (decide (MachOk a b c)) := by
  unfold impl_isMachine.f
  have no (h : ¬MachOk a b c) : Ev (fun k => impl_isMachine.j0 k (c.length : Int) true a b c) (decide (MachOk a b c)) := by
    rw [decide_eq_false h]
    exact Ev.step (f := fun _ => some false) (fun k => by simp only [impl_isMachine.j0, if_true]) (Ev.now _)
  by_cases h1 : (c.length : Int) < 1
  · simp only [if_pos h1]; exact no (fun h => by have := h.1; omega)
  · simp only [if_neg h1]
    by_cases h2 : (c.length : Int) > 12
    · simp only [if_pos h2]; exact no (fun h => by have := h.1; omega)
    · simp only [if_neg h2]
      by_cases h3 : (a.length : Int) = c.length
      · simp only [if_pos h3]
        by_cases h4 : (b.length : Int) = c.length
        · refine Ev.step (f := fun k => impl_isMachine.l0 k (c.length : Int) (c.length : Int) ((0 : Nat) : Int) a b c) (fun k => ?_) (implMach_from a b c (by omega) (by omega) (by omega) (by omega) c.length 0 (by omega) (fun j hj => absurd hj (by omega)))
          rw [h4, bne_self_eq_false]
          simp only [impl_isMachine.j0, Bool.false_eq_true, if_false]
          rfl
        · have : ((b.length : Int) != c.length) = true := bne_iff_ne.2 h4
          rw [this]
          exact no (fun h => by have := h.1; omega)
      · simp only [if_neg h3]; exact no (fun h => by have := h.1; omega)

theorem impl_MachineOk_eq (a b c : List Int) : Ev (fun k => impl_MachineOk.f k a b c) (decide (MachOk a b c)) := by
  unfold impl_MachineOk.f
  exact Ev.bind (impl_isMachine_eq a b c) (Ev.now _)
end Go.Proofs.YthodcgkhianecaaDoor.Sem

end
section
/- The state of a machine after a text, in plain words; no condition but the rows' and the text's lengths. -/
namespace Go.Proofs.YthodcgkhianecaaDoor.Sem
open Go.RowKit Go.Proofs.YthodcgkhianecaaDoor.PA Go.Proofs.YthodcgkhianecaaDoorW.PrintWords Go.Proofs.YthodcgkhianecaaDoorW.PrintLast Go.Proofs.YthodcgkhianecaaDoorW.PrintMore
set_option linter.unusedVariables false
set_option linter.unusedSimpArgs false

/-- The state after the letters. -/
def stateOf (a b : List Int) : List UInt8 → Int → Int
  | [], s => s
  | x :: r, s => stateOf a b r (if x = 48 then rd a s else rd b s)
theorem bt_list (s : ByteArray) (i : Nat) (h : i < s.data.toList.length) : bt s (i : Int) = (s.data.toList[i].toNat : Int) := by
  unfold bt
  have hlt : (i : Int).toNat < s.size := by rw [Int.toNat_natCast]; rw [Array.length_toList] at h; exact h
  rw [dif_pos hlt]
  have e2 : s[(i : Int).toNat]'hlt = s.data.toList[i] := by
    rw [Array.getElem_toList]
    rfl
  rw [e2]
theorem size_list (s : ByteArray) : s.size = s.data.toList.length := by rw [Array.length_toList]; rfl
theorem u8_48 (x : UInt8) : ((x.toNat : Int) = 48) ↔ x = 48 := by
  constructor
  · intro h; apply UInt8.toNat_inj.1; show x.toNat = 48; omega
  · rintro rfl; rfl
theorem mach_step {a b c : List Int} (h : MachOk a b c) {st : Int} (h0 : 0 ≤ st) (h1 : st < a.length) (x : UInt8) : 0 ≤ (if x = 48 then rd a st else rd b st) ∧ (if x = 48 then rd a st else rd b st) < a.length := by
  have := h.2 st.toNat (by omega)
  unfold StOk at this
  rw [show ((st.toNat : Nat) : Int) = st by omega] at this
  split
  · exact this.1
  · exact this.2.1
theorem state_range {a b c : List Int} (h : MachOk a b c) : ∀ (l : List UInt8) (st : Int), 0 ≤ st → st < a.length → 0 ≤ stateOf a b l st ∧ stateOf a b l st < a.length
  | [], st, h0, h1 => ⟨h0, h1⟩
  | x :: r, st, h0, h1 => by
    have := mach_step h h0 h1 x
    exact state_range h r _ this.1 this.2

theorem impl_state_from {a b c : List Int} (h : MachOk a b c) (s : ByteArray) (hs : s.size ≤ 2000000) (d : Nat) : ∀ (i : Nat) (st : Int), i + d = s.data.toList.length → 0 ≤ st → st < a.length → Ev (fun k => impl_Machine_after.l0 k s st (s.size : Int) (i : Int) a b c) (stateOf a b (s.data.toList.drop i) st) := by
  have hz := size_list s
  have hb' := h.1.2.2.1
  induction d with
  | zero =>
    intro i st hi _ _
    rw [List.drop_of_length_le (by omega)]
    refine Ev.step (f := fun _ => some st) (fun k => ?_) (Ev.now _)
    simp only [impl_Machine_after.l0]
    rw [if_neg (by omega)]
  | succ d ih =>
    intro i st hi h0 h1
    have hlt : i < s.data.toList.length := by omega
    have g1 : (i : Int) < (s.size : Int) := by omega
    have g0 : (0 : Int) ≤ (i : Int) := by omega
    have g2 : st < (b.length : Int) := by omega
    have hb := bt_list s i hlt
    have hw : wrap64 ((i : Int) + 1) = ((i + 1 : Nat) : Int) := by unfold wrap64; omega
    rw [List.drop_eq_getElem_cons hlt]
    have hst := mach_step h h0 h1 s.data.toList[i]
    have ih := ih (i + 1) _ (by omega) hst.1 hst.2
    generalize s.data.toList[i] = x at hb ih ⊢
    show Ev _ (stateOf a b (s.data.toList.drop (i + 1)) (if x = 48 then rd a st else rd b st))
    by_cases hx : x = 48
    · rw [if_pos hx] at ih ⊢
      refine Ev.step (f := fun k => impl_Machine_after.l0 k s (rd a st) (s.size : Int) ((i + 1 : Nat) : Int) a b c) (fun k => ?_) ih
      simp only [impl_Machine_after.l0]
      rw [if_pos g1, if_pos g0, if_pos g1, hb, if_pos ((u8_48 x).2 hx), if_pos h0, if_pos h1, hw]
    · rw [if_neg hx] at ih ⊢
      refine Ev.step (f := fun k => impl_Machine_after.l0 k s (rd b st) (s.size : Int) ((i + 1 : Nat) : Int) a b c) (fun k => ?_) ih
      simp only [impl_Machine_after.l0]
      rw [if_pos g1, if_pos g0, if_pos g1, hb, if_neg (fun e => hx ((u8_48 x).1 e)), if_pos h0, if_pos g2, hw]

end Go.Proofs.YthodcgkhianecaaDoor.Sem

end
section
/- The machines of names, in plain words: the reference's answer is looked up in a table; no condition. -/
namespace Go.Proofs.YthodcgkhianecaaDoor.Sem
open Go.RowKit Go.Proofs.YthodcgkhianecaaDoor.PA Go.Proofs.YthodcgkhianecaaDoorW.PrintWords Go.Proofs.YthodcgkhianecaaDoorW.PrintLast Go.Proofs.YthodcgkhianecaaDoorW.PrintMore
set_option linter.unusedVariables false
set_option linter.unusedSimpArgs false

def sE : List UInt8 := [101, 118, 101, 114, 121]
def sS : List UInt8 := [115, 111, 109, 101]
def sN : List UInt8 := [110, 111]
def sV : List UInt8 := [101, 118, 101, 110]
def sA : List UInt8 := [97, 116, 108, 101, 97, 115, 116]
def sJ : List UInt8 := [106, 117, 115, 116]
def dg (n : Nat) : UInt8 := UInt8.ofNat (48 + n)
/-- A machine that counts. -/
def cntM (st : Nat) (y : List Int) : List Int × List Int × List Int × Bool := ((List.range st).map (fun i : Nat => (i : Int)), (List.range st).map (fun i : Nat => ((min (i + 1) (st - 1) : Nat) : Int)), y, true)
/-- What a name's machine is; `l` is the name. -/
def byDigit (l : List UInt8) : List Nat → List Int × List Int × List Int × Bool
  | [] => ([], [], [], false)
  | n :: r => if l = sA ++ [dg n] ∧ 0 < n then cntM (n + 1) (List.replicate n 0 ++ [1]) else if l = sJ ++ [dg n] then cntM (n + 2) (List.replicate n 0 ++ [1, 0]) else byDigit l r
def namedM (l : List UInt8) : List Int × List Int × List Int × Bool :=
  if l = sE then ([1, 1], [0, 1], [1, 0], true) else if l = sS then cntM 2 [0, 1] else if l = sN then cntM 2 [1, 0] else if l = sV then ([0, 1], [1, 0], [1, 0], true) else byDigit l [0, 1, 2, 3, 4, 5]

theorem nm_data (b : ByteArray) : b.toList = b.data.toList := ByteArray.toList_eq b
theorem lits : ((List.range 6).all fun n : Nat => decide (spec_l1Number.f 1 (n : Int) = some ⟨#[dg n]⟩)) = true := by kernel_rfl
theorem dig (n : Nat) (h : n ≤ 5) : spec_l1Number.f 1 n = some ⟨#[dg n]⟩ := of_decide_eq_true (List.all_eq_true.1 lits n (List.mem_range.2 (by omega)))
theorem lits1 : ((List.range 6).all fun n : Nat => decide (spec_l4Count.f 20 (wrap64 ((n : Int) + 1)) false (List.replicate n 0 ++ [1]) = some ((cntM (n + 1) (List.replicate n 0 ++ [1])).1, (cntM (n + 1) (List.replicate n 0 ++ [1])).2.1, List.replicate n 0 ++ [1]))) = true := by kernel_rfl
theorem count_lit (n : Nat) (h : n ≤ 5) : spec_l4Count.f 20 (wrap64 ((n : Int) + 1)) false (List.replicate n 0 ++ [1]) = some ((cntM (n + 1) (List.replicate n 0 ++ [1])).1, (cntM (n + 1) (List.replicate n 0 ++ [1])).2.1, List.replicate n 0 ++ [1]) := of_decide_eq_true (List.all_eq_true.1 lits1 n (List.mem_range.2 (by omega)))
theorem lits2 : ((List.range 6).all fun n : Nat => decide (spec_l4Count.f 20 (wrap64 ((n : Int) + 2)) false (List.replicate n 0 ++ [1, 0]) = some ((cntM (n + 2) (List.replicate n 0 ++ [1, 0])).1, (cntM (n + 2) (List.replicate n 0 ++ [1, 0])).2.1, List.replicate n 0 ++ [1, 0]))) = true := by kernel_rfl
theorem count_lit2 (n : Nat) (h : n ≤ 5) : spec_l4Count.f 20 (wrap64 ((n : Int) + 2)) false (List.replicate n 0 ++ [1, 0]) = some ((cntM (n + 2) (List.replicate n 0 ++ [1, 0])).1, (cntM (n + 2) (List.replicate n 0 ++ [1, 0])).2.1, List.replicate n 0 ++ [1, 0]) := of_decide_eq_true (List.all_eq_true.1 lits2 n (List.mem_range.2 (by omega)))
theorem ev_one {α : Type} {g : Nat → Option α} (hm : ∀ k, LeO (g k) (g (k + 1))) {x : α} {k : Nat} (h : g k = some x) : Ev g x := ⟨k, fun j hj => by
  induction j with
  | zero => obtain rfl : k = 0 := by omega
            exact h
  | succ j ih =>
    by_cases e : k = j + 1
    · subst e; exact h
    · exact hm j _ (ih (by omega))⟩

theorem spec_round (a0 : ByteArray) (n : Nat) (h : n ≤ 5) (r : List Nat) (ih : Ev (fun k => spec_NamedMachine.l0 k a0 ((n + 1 : Nat) : Int)) (byDigit a0.data.toList r)) :
    Ev (fun k => spec_NamedMachine.l0 k a0 (n : Int)) (byDigit a0.data.toList (n :: r)) := by
  have hw : wrap64 ((n : Int) + 1) = ((n + 1 : Nat) : Int) := by unfold wrap64; omega
  have hA : ((⟨#[97, 116, 108, 101, 97, 115, 116]⟩ : ByteArray) ++ ⟨#[dg n]⟩).toList = sA ++ [dg n] := by rw [nm_data, ByteArray.data_append]; simp [sA]
  have hJ : ((⟨#[106, 117, 115, 116]⟩ : ByteArray) ++ ⟨#[dg n]⟩).toList = sJ ++ [dg n] := by rw [nm_data, ByteArray.data_append]; simp [sJ]
  have hs : (⟨#[dg n]⟩ : ByteArray).size = 1 := rfl
  have down (hno : ¬ (a0.data.toList = sA ++ [dg n] ∧ 0 < n)) : Ev (fun k => spec_NamedMachine.j1 k a0 (n : Int) (List.replicate n 0) false) (byDigit a0.data.toList (n :: r)) := by
    unfold byDigit
    rw [if_neg hno]
    refine Ev.step (f := fun k => (spec_l1Number.f k (n : Int)).bind fun t170 => (if 4 + t170.size ≤ 9223372036854775807 then (if a0.toList = ((⟨#[106, 117, 115, 116]⟩ : ByteArray) ++ t170).toList then ((some (([1, 0] : List Int) : List Int)).bind fun y171 => (if (List.replicate n (0 : Int)).length + y171.length < 17592186044416 then ((spec_l4Count.f k (wrap64 ((n : Int) + 2)) false (List.replicate n 0 ++ y171)).bind fun bt177 => (some (bt177.1, bt177.2.1, bt177.2.2, true))) else (none))) else (spec_NamedMachine.l0 k a0 (wrap64 ((n : Int) + 1)))) else (none))) (fun k => by simp only [spec_NamedMachine.j1, Bool.false_eq_true, if_false]) ?_
    refine Ev.bind (ev_one (fun k => spec_l1Number.mono _ k) (dig n h)) ?_
    simp only [hs, Nat.reduceAdd, if_pos (show 5 ≤ 9223372036854775807 by omega), hJ, nm_data a0]
    by_cases c : a0.data.toList = sJ ++ [dg n]
    · simp only [if_pos c, Option.bind_some, List.length_replicate, List.length_cons, List.length_nil]
      simp only [if_pos (show n + (0 + 1 + 1) < 17592186044416 by omega)]
      exact Ev.bind (ev_one (fun k => spec_l4Count.mono _ _ _ k) (count_lit2 n h)) (Ev.now _)
    · simp only [if_neg c, hw]
      exact ih
  refine Ev.step (f := fun k => (spec_l1Number.f k (n : Int)).bind fun t157 => (if 7 + t157.size ≤ 9223372036854775807 then (if a0.toList = ((⟨#[97, 116, 108, 101, 97, 115, 116]⟩ : ByteArray) ++ t157).toList then (spec_NamedMachine.j1 k a0 (n : Int) (List.replicate n 0) (decide ((n : Int) > 0))) else (spec_NamedMachine.j1 k a0 (n : Int) (List.replicate n 0) false)) else (none))) (fun k => by
    simp only [spec_NamedMachine.l0, Option.bind_some, Int.toNat_natCast]
    rw [if_pos (by omega), if_pos (by omega), if_pos (by omega)]) ?_
  refine Ev.bind (ev_one (fun k => spec_l1Number.mono _ k) (dig n h)) ?_
  simp only [hs, Nat.reduceAdd, if_pos (show 8 ≤ 9223372036854775807 by omega), hA, nm_data a0]
  by_cases c : a0.data.toList = sA ++ [dg n]
  · simp only [if_pos c]
    by_cases h0 : 0 < n
    · rw [decide_eq_true (show (n : Int) > 0 by omega)]
      unfold byDigit
      rw [if_pos ⟨c, h0⟩]
      refine Ev.step (f := fun k => (spec_l4Count.f k (wrap64 ((n : Int) + 1)) false (List.replicate n 0 ++ [1])).bind fun bt161 => (some (bt161.1, bt161.2.1, bt161.2.2, true))) (fun k => by
        simp only [spec_NamedMachine.j1, if_true, List.length_replicate]
        rw [if_pos (by omega)]) ?_
      exact Ev.bind (ev_one (fun k => spec_l4Count.mono _ _ _ k) (count_lit n h)) (Ev.now _)
    · rw [decide_eq_false (show ¬ (n : Int) > 0 by omega)]
      exact down (fun x => h0 x.2)
  · simp only [if_neg c]
    exact down (fun x => c x.1)

theorem spec_NamedMachine_eq (a0 : ByteArray) : Ev (fun k => spec_NamedMachine.f k a0) (namedM a0.data.toList) := by
  unfold spec_NamedMachine.f namedM
  simp only [nm_data a0]
  rw [show ([101, 118, 101, 114, 121] : List UInt8) = sE from rfl, show ([115, 111, 109, 101] : List UInt8) = sS from rfl, show ([110, 111] : List UInt8) = sN from rfl, show ([101, 118, 101, 110] : List UInt8) = sV from rfl]
  by_cases h1 : a0.data.toList = sE
  · simp only [if_pos h1]; exact Ev.now _
  · simp only [if_neg h1]
    by_cases h2 : a0.data.toList = sS
    · simp only [if_pos h2]; exact Ev.bind (ev_one (fun k => spec_l4Count.mono _ _ _ k) (k := 20) (x := ([0, 1], [1, 1], [0, 1])) (by kernel_rfl)) (Ev.now _)
    · simp only [if_neg h2]
      by_cases h3 : a0.data.toList = sN
      · simp only [if_pos h3]; exact Ev.bind (ev_one (fun k => spec_l4Count.mono _ _ _ k) (k := 20) (x := ([0, 1], [1, 1], [1, 0])) (by kernel_rfl)) (Ev.now _)
      · simp only [if_neg h3]
        by_cases h4 : a0.data.toList = sV
        · simp only [if_pos h4]; exact Ev.bind (ev_one (fun k => spec_l4Count.mono _ _ _ k) (k := 20) (x := ([0, 1], [1, 0], [1, 0])) (by kernel_rfl)) (Ev.now _)
        · simp only [if_neg h4]
          refine spec_round a0 0 (by omega) _ (spec_round a0 1 (by omega) _ (spec_round a0 2 (by omega) _ (spec_round a0 3 (by omega) _ (spec_round a0 4 (by omega) _ (spec_round a0 5 (by omega) _ ?_)))))
          exact ev1 (fun k => by simp only [spec_NamedMachine.l0]; rw [if_neg (by omega)]; rfl)

def lenOk (m : List Int × List Int × List Int × Bool) : Prop := m.1.length ≤ 12 ∧ m.2.1.length ≤ 12 ∧ m.2.2.1.length ≤ 12
theorem byDigit_len (l : List UInt8) : ∀ r : List Nat, (∀ n ∈ r, n ≤ 5) → lenOk (byDigit l r)
  | [], _ => by unfold byDigit lenOk; simp
  | n :: r, h => by
    have hn := h n List.mem_cons_self
    unfold byDigit
    split
    · unfold lenOk cntM; simp; omega
    · split
      · unfold lenOk cntM; simp; omega
      · exact byDigit_len l r (fun m hm => h m (List.mem_cons_of_mem _ hm))
theorem namedM_len (l : List UInt8) : lenOk (namedM l) := by
  unfold namedM
  split
  · unfold lenOk; simp
  · split
    · unfold lenOk cntM; simp
    · split
      · unfold lenOk cntM; simp
      · split
        · unfold lenOk; simp
        · exact byDigit_len l _ (by decide)
end Go.Proofs.YthodcgkhianecaaDoor.Sem

end
section
/- Two machines at once, in plain words: both programs' answers; no condition but a row's length. -/
namespace Go.Proofs.YthodcgkhianecaaDoor.Sem
open Go.RowKit Go.Proofs.YthodcgkhianecaaDoor.PA Go.Proofs.YthodcgkhianecaaDoorW.PrintWords Go.Proofs.YthodcgkhianecaaDoorW.PrintLast Go.Proofs.YthodcgkhianecaaDoorW.PrintMore
set_option linter.unusedVariables false
set_option linter.unusedSimpArgs false

/-- Places of two, from one on. -/
def seg (f : Nat → Nat → Int) (i j d : Nat) : List Int := (List.range' j d).map (f i)
def segs (f : Nat → Nat → Int) (m i d : Nat) : List Int := (List.range' i d).flatMap fun i => seg f i 0 m
theorem seg_succ (f : Nat → Nat → Int) (i j d : Nat) : seg f i j (d + 1) = f i j :: seg f i (j + 1) d := by unfold seg; rw [List.range'_succ, List.map_cons]
theorem segs_succ (f : Nat → Nat → Int) (m i d : Nat) : segs f m i (d + 1) = seg f i 0 m ++ segs f m (i + 1) d := by unfold segs; rw [List.range'_succ, List.flatMap_cons]
theorem put_seg (o : List Int) (f : Nat → Nat → Int) (i j d : Nat) : o ++ seg f i j (d + 1) = (o ++ [f i j]) ++ seg f i (j + 1) d := by rw [seg_succ, List.append_assoc]; rfl
theorem seg_length (f : Nat → Nat → Int) (i j d : Nat) : (seg f i j d).length = d := by unfold seg; rw [List.length_map, List.length_range']
theorem segs_length (f : Nat → Nat → Int) (m d : Nat) : ∀ i, (segs f m i d).length = d * m := by
  induction d with
  | zero => intro i; simp [segs]
  | succ d ih => intro i; rw [segs_succ, List.length_append, seg_length, ih, Nat.add_mul]; omega
def fz (a b : List Int) (i j : Nat) : Int := wrap64 (wrap64 (rd a i * (b.length : Int)) + rd b j)
def fy (a b : List Int) (i j : Nat) : Int := wrap64 (rd a i * rd b j)

/-- What MachineBoth answers. -/
def bothM (a0 a1 a2 b0 b1 b2 : List Int) : List Int × List Int × List Int × Bool :=
  if MachOk a0 a1 a2 ∧ MachOk b0 b1 b2 ∧ a0.length * b0.length ≤ 12 then (segs (fz a0 b0) b0.length 0 a0.length, segs (fz a1 b1) b0.length 0 a0.length, segs (fy a2 b2) b0.length 0 a0.length, true) else ([], [], [], false)

theorem wr (i : Nat) (h : i < 1000000) : wrap64 ((i : Int) + 1) = ((i + 1 : Nat) : Int) := by unfold wrap64; omega

section
variable {a0 a1 a2 b0 b1 b2 : List Int} (A : MachOk a0 a1 a2) (B : MachOk b0 b1 b2)
include A B
theorem spec_both_in (i : Nat) (hi : i < a0.length) (r : List Int × List Int × List Int × Bool) (d : Nat) : ∀ (j : Nat) (o0 o1 o2 : List Int), o0.length + d ≤ 1000 → o1.length + d ≤ 1000 → o2.length + d ≤ 1000 → j + d = b0.length →
    Ev (fun k => spec_MachineBoth.l0 k (b0.length : Int) ((i + 1 : Nat) : Int) a0 a1 a2 b0 b1 b2 (o0 ++ seg (fz a0 b0) i j d) (o1 ++ seg (fz a1 b1) i j d) (o2 ++ seg (fy a2 b2) i j d)) r →
    Ev (fun k => spec_MachineBoth.l1 k (b0.length : Int) (i : Int) (j : Int) a0 a1 a2 b0 b1 b2 o0 o1 o2) r := by
  obtain ⟨⟨p1, p2, p3, p4⟩, _⟩ := A
  obtain ⟨⟨q1, q2, q3, q4⟩, _⟩ := B
  have hi6 : i < 1000000 := by omega
  induction d with
  | zero =>
    intro j o0 o1 o2 _ _ _ hj h
    simp only [seg, List.range'_zero, List.map_nil, List.append_nil] at h
    refine Ev.step (fun k => ?_) h
    simp only [spec_MachineBoth.l1]
    rw [if_neg (by omega), wr i hi6]
  | succ d ih =>
    intro j o0 o1 o2 h0 h1 h2 hj h
    have hj6 : j < 1000000 := by omega
    have x1 : (j : Int) < (b0.length : Int) := by omega
    have y1 : (j : Int) < (b2.length : Int) := by omega
    have x2 : (0 : Int) ≤ (i : Int) := by omega
    have x3 : (i : Int) < (a0.length : Int) := by omega
    have x4 : (0 : Int) ≤ (j : Int) := by omega
    have x5 : (j : Int) < (b0.length : Int) := x1
    have x6 : o0.length < 17592186044416 := by omega
    have x7 : (i : Int) < (a1.length : Int) := by omega
    have x8 : (j : Int) < (b1.length : Int) := by omega
    have x9 : o1.length < 17592186044416 := by omega
    have x10 : (i : Int) < (a2.length : Int) := by omega
    have x11 : (j : Int) < (b2.length : Int) := y1
    have x12 : o2.length < 17592186044416 := by omega
    rw [put_seg, put_seg, put_seg] at h
    have ih := ih (j + 1) (o0 ++ [fz a0 b0 i j]) (o1 ++ [fz a1 b1 i j]) (o2 ++ [fy a2 b2 i j]) (by rw [List.length_append, List.length_singleton]; omega) (by rw [List.length_append, List.length_singleton]; omega) (by rw [List.length_append, List.length_singleton]; omega) (by omega) h
    refine Ev.step (fun k => ?_) ih
    simp only [spec_MachineBoth.l1]
    rw [if_pos x1, if_pos x2, if_pos x3, if_pos x4, if_pos x5, if_pos x6, if_pos x7, if_pos x8, if_pos x9, if_pos x10, if_pos x11, if_pos x12, wr j hj6]
    unfold fz fy
    rw [q3]
theorem spec_both_from (hm : a0.length * b0.length ≤ 12) (d : Nat) : ∀ (i : Nat) (o0 o1 o2 : List Int), o0.length + d * b0.length ≤ 500 → o1.length + d * b0.length ≤ 500 → o2.length + d * b0.length ≤ 500 → i + d = a0.length →
    Ev (fun k => spec_MachineBoth.l0 k (b0.length : Int) (i : Int) a0 a1 a2 b0 b1 b2 o0 o1 o2) (o0 ++ segs (fz a0 b0) b0.length i d, o1 ++ segs (fz a1 b1) b0.length i d, o2 ++ segs (fy a2 b2) b0.length i d, true) := by
  have q := B.1
  induction d with
  | zero =>
    intro i o0 o1 o2 _ _ _ hi
    simp only [segs, List.range'_zero, List.flatMap_nil, List.append_nil]
    refine Ev.step (f := fun _ => some (o0, o1, o2, true)) (fun k => ?_) (Ev.now _)
    simp only [spec_MachineBoth.l0]
    rw [if_neg (by omega)]
  | succ d ih =>
    intro i o0 o1 o2 h0 h1 h2 hi
    rw [Nat.add_mul] at h0 h1 h2
    have ih := ih (i + 1) (o0 ++ seg (fz a0 b0) i 0 b0.length) (o1 ++ seg (fz a1 b1) i 0 b0.length) (o2 ++ seg (fy a2 b2) i 0 b0.length) (by rw [List.length_append, seg_length]; omega) (by rw [List.length_append, seg_length]; omega) (by rw [List.length_append, seg_length]; omega) (by omega)
    rw [segs_succ, segs_succ, segs_succ, ← List.append_assoc, ← List.append_assoc, ← List.append_assoc]
    refine Ev.step (f := fun k => spec_MachineBoth.l1 k (b0.length : Int) (i : Int) ((0 : Nat) : Int) a0 a1 a2 b0 b1 b2 o0 o1 o2) (fun k => ?_) (spec_both_in A B i (by omega) _ b0.length 0 o0 o1 o2 (by omega) (by omega) (by omega) (by omega) ih)
    simp only [spec_MachineBoth.l0]
    rw [if_pos (by omega)]
    rfl
end

theorem mul_small {n m : Nat} (hn : n ≤ 12) (hm : m ≤ 12) : wrap64 ((n : Int) * (m : Int)) = ((n * m : Nat) : Int) := by
  have h : n * m ≤ 144 := Nat.mul_le_mul hn hm
  rw [← Int.natCast_mul]
  unfold wrap64
  omega

theorem spec_MachineBoth_eq (a0 a1 a2 b0 b1 b2 : List Int) (ha : a0.length ≤ 1048577) (hb : b0.length ≤ 1048577) : Ev (fun k => spec_MachineBoth.f k a0 a1 a2 b0 b1 b2) (bothM a0 a1 a2 b0 b1 b2) := by
  unfold spec_MachineBoth.f bothM
  have no : Ev (fun k => spec_MachineBoth.j0 k true a0 a1 a2 b0 b1 b2) (([], [], [], false) : List Int × List Int × List Int × Bool) := ev1 (fun k => by simp only [spec_MachineBoth.j0, if_true])
  refine Ev.bind (spec_MachineOk_eq a0 a1 a2 ha) ?_
  by_cases A : MachOk a0 a1 a2
  · simp only [decide_eq_true A, if_true]
    refine Ev.bind (spec_MachineOk_eq b0 b1 b2 hb) ?_
    by_cases B : MachOk b0 b1 b2
    · simp only [decide_eq_true B, if_true, mul_small A.1.2.1 B.1.2.1]
      by_cases hm : a0.length * b0.length ≤ 12
      · rw [if_pos ⟨A, B, hm⟩, decide_eq_false (show ¬ ((a0.length * b0.length : Nat) : Int) > 12 by omega)]
        have h := spec_both_from A B hm a0.length 0 [] [] [] (by simp; omega) (by simp; omega) (by simp; omega) (by omega)
        simp only [List.nil_append] at h
        refine Ev.step (fun k => ?_) h
        simp only [spec_MachineBoth.j0, Bool.false_eq_true, if_false]
        rfl
      · rw [if_neg (fun h => hm h.2.2), decide_eq_true (show ((a0.length * b0.length : Nat) : Int) > 12 by omega)]
        exact no
    · simp only [decide_eq_false B, Bool.false_eq_true, if_false]
      rw [if_neg (fun h => B h.2.1)]
      exact no
  · simp only [decide_eq_false A, Bool.false_eq_true, if_false]
    rw [if_neg (fun h => A h.1)]
    exact no
theorem bothM_len (a0 a1 a2 b0 b1 b2 : List Int) : (bothM a0 a1 a2 b0 b1 b2).1.length ≤ 12 ∧ (bothM a0 a1 a2 b0 b1 b2).2.1.length ≤ 12 ∧ (bothM a0 a1 a2 b0 b1 b2).2.2.1.length ≤ 12 := by
  unfold bothM
  split
  · rename_i h
    simp only [segs_length]
    exact ⟨h.2.2, h.2.2, h.2.2⟩
  · simp
end Go.Proofs.YthodcgkhianecaaDoor.Sem

end
section
/- The draw of a machine: it comes to an end, with short rows, and the reader goes on; no condition but the reader's own shape. -/
namespace Go.Proofs.YthodcgkhianecaaDoor.Sem
open Go.RowKit Go.Proofs.YthodcgkhianecaaDoor.PA Go.Proofs.YthodcgkhianecaaDoorW.PrintWords Go.Proofs.YthodcgkhianecaaDoorW.PrintLast Go.Proofs.YthodcgkhianecaaDoorW.PrintMore
set_option linter.unusedVariables false
set_option linter.unusedSimpArgs false

theorem ev_succ {α : Type} {g : Nat → Option α} {x : α} (h : Ev (fun k => g (k + 1)) x) : Ev g x := Ev.step (f := fun k => g (k + 1)) (fun _ => rfl) h
def SmallM (b : List Int) (Q : Int) (r : List Int × List Int × List Int × Int) : Prop := r.1.length ≤ 13 ∧ r.2.1.length ≤ 13 ∧ r.2.2.1.length ≤ 13 ∧ Rd b r.2.2.2 Q

theorem j2_ok {b : List Int} {p m Q : Int} (h : Rd b p m) (hM : Q ≤ 1000000) (hm : m + 2 ≤ Q) (n : Int) (hn : n ≤ 1000000) (z o y : List Int) (hz : 1 ≤ z.length) (hz' : z.length ≤ 12) (ho : o.length ≤ 12) (hy : y.length ≤ 12) :
    ∃ r, Ev (fun k => spec_l20Machine.j2 k n b p z o y) r ∧ SmallM b Q r := by
  obtain ⟨q, p', hq, hR⟩ := odd_ok h (by omega) n hn
  cases q with
  | false =>
    refine ⟨(z, o, y, p'), ?_, ⟨by show z.length ≤ 13; omega, by show o.length ≤ 13; omega, by show y.length ≤ 13; omega, hR.more (by omega) hM⟩⟩
    refine ev_succ ?_
    simp only [spec_l20Machine.j2]
    refine Ev.bind (ev1 hq) ?_
    simp only [Bool.false_eq_true, if_false]
    exact Ev.now _
  | true =>
    obtain ⟨r, hr, h1, h2, _, hR2⟩ := pick_ok hR (by omega) 3 (by omega)
    have h2 := h2 (by omega)
    by_cases e0 : r = 0
    · refine ⟨([], [], [], p' + 1), ?_, ⟨by simp, by simp, by simp, hR2.more (by omega) hM⟩⟩
      refine ev_succ ?_
      simp only [spec_l20Machine.j2]
      refine Ev.bind (ev1 hq) ?_
      simp only [if_true]
      refine Ev.bind (ev1 hr) ?_
      simp only [if_pos e0]
      exact Ev.now _
    · by_cases e1 : r = 1
      · refine ⟨(z, o ++ [0], y, p' + 1), ?_, ⟨by show z.length ≤ 13; omega, by show (o ++ [0]).length ≤ 13; rw [List.length_append, List.length_singleton]; omega, by show y.length ≤ 13; omega, hR2.more (by omega) hM⟩⟩
        refine ev_succ ?_
        simp only [spec_l20Machine.j2]
        refine Ev.bind (ev1 hq) ?_
        simp only [if_true]
        refine Ev.bind (ev1 hr) ?_
        simp only [if_neg e0, if_pos e1, Option.bind_some, List.nil_append, List.length_nil, if_pos (show 0 + o.length < 17592186044416 by omega), if_pos (show o.length < 17592186044416 by omega)]
        exact Ev.now _
      · refine ⟨(z.set (0 : Int).toNat (z.length : Int), o, y, p' + 1), ?_, ⟨by show (z.set _ _).length ≤ 13; rw [List.length_set]; omega, by show o.length ≤ 13; omega, by show y.length ≤ 13; omega, hR2.more (by omega) hM⟩⟩
        refine ev_succ ?_
        simp only [spec_l20Machine.j2]
        refine Ev.bind (ev1 hq) ?_
        simp only [if_true]
        refine Ev.bind (ev1 hr) ?_
        simp only [if_neg e0, if_neg e1, Option.bind_some, List.nil_append, List.length_nil, if_pos (show 0 + z.length < 17592186044416 by omega), if_pos (show (0 : Int) < (z.length : Int) by omega)]
        exact Ev.now _

theorem l0_ok {b : List Int} {Q : Int} (hM : Q ≤ 1000000) (n : Int) (hn : n ≤ 1000000) (st : Nat) (hs : 1 ≤ st) (hs' : st ≤ 12) (d : Nat) : ∀ (i : Nat) (z o y : List Int) (p m : Int), i + d = st → z.length = i → o.length = i → y.length = i → Rd b p m → m + 3 * d + 2 ≤ Q →
    ∃ r, Ev (fun k => spec_l20Machine.l0 k n (st : Int) (i : Int) b p z o y) r ∧ SmallM b Q r := by
  induction d with
  | zero =>
    intro i z o y p m hi hz ho hy h hm
    obtain ⟨r, hr, hS⟩ := j2_ok h hM (by omega) n hn z o y (by omega) (by omega) (by omega) (by omega)
    refine ⟨r, ev_succ ?_, hS⟩
    simp only [spec_l20Machine.l0]
    simp only [if_neg (show ¬ (i : Int) < (st : Int) by omega)]
    exact hr
  | succ d ih =>
    intro i z o y p m hi hz ho hy h hm
    obtain ⟨x1, e1, _, _, _, hR1⟩ := pick_ok h (by omega) (st : Int) (by omega)
    obtain ⟨x2, e2, _, _, _, hR2⟩ := pick_ok hR1 (by omega) (st : Int) (by omega)
    obtain ⟨x3, e3, _, _, _, hR3⟩ := pick_ok hR2 (by omega) 2 (by omega)
    obtain ⟨r, hr, hS⟩ := ih (i + 1) (z ++ [x1]) (o ++ [x2]) (y ++ [x3]) _ _ (by omega) (by rw [List.length_append, List.length_singleton]; omega) (by rw [List.length_append, List.length_singleton]; omega) (by rw [List.length_append, List.length_singleton]; omega) hR3 (by omega)
    have gz : z.length < 17592186044416 := by omega
    have go : o.length < 17592186044416 := by omega
    have gy : y.length < 17592186044416 := by omega
    have gi : (i : Int) < (st : Int) := by omega
    have hw : wrap64 ((i : Int) + 1) = ((i + 1 : Nat) : Int) := by unfold wrap64; omega
    refine ⟨r, ev_succ ?_, hS⟩
    simp only [spec_l20Machine.l0]
    simp only [if_pos gi, hw]
    refine Ev.bind (ev1 e1) ?_
    simp only [if_pos gz]
    refine Ev.bind (ev1 e2) ?_
    simp only [if_pos go]
    refine Ev.bind (ev1 e3) ?_
    simp only [if_pos gy]
    exact hr

theorem count_lits : ((List.range 6).all fun st : Nat => [true, false].all fun ring => match Man.count0 20 (st : Int) ring 0 [] [] with | some p => p.1.length == st && p.2.length == st | none => false) = true := by kernel_rfl
theorem count_ok (st : Nat) (h : st ≤ 5) (ring : Bool) (l : List Int) : ∃ z o, Ev (fun k => spec_l4Count.f k (st : Int) ring l) (z, o, l) ∧ z.length = st ∧ o.length = st := by
  have hx := List.all_eq_true.1 (List.all_eq_true.1 count_lits st (List.mem_range.2 (by omega))) ring (by cases ring <;> simp)
  revert hx
  cases e : Man.count0 20 (st : Int) ring 0 [] [] with
  | none => intro hx; exact absurd hx (by simp)
  | some q =>
    intro hx
    simp only [Bool.and_eq_true, beq_iff_eq] at hx
    refine ⟨q.1, q.2, ev_one (k := 20) (fun k => spec_l4Count.mono _ _ _ k) ?_, hx.1, hx.2⟩
    show Man.countF 20 (st : Int) ring l = _
    unfold Man.countF
    rw [e]
    rfl

theorem l1_ok {b : List Int} {Q : Int} (hM : Q ≤ 1000000) (n : Int) (hn : n ≤ 1000000) (st : Nat) (hs : 1 ≤ st) (hs' : st ≤ 5) (d : Nat) : ∀ (i : Nat) (y : List Int) (p m : Int), i + d = st → y.length = i → Rd b p m → m + d + 3 ≤ Q →
    ∃ r, Ev (fun k => spec_l20Machine.l1 k n (st : Int) y (i : Int) b p) r ∧ SmallM b Q r := by
  induction d with
  | zero =>
    intro i y p m hi hy h hm
    obtain ⟨x1, e1, _, _, _, hR1⟩ := pick_ok h (by omega) 2 (by omega)
    obtain ⟨z, o, hc, hz, ho⟩ := count_ok st hs' (x1 == 0) y
    obtain ⟨r, hr, hS⟩ := j2_ok hR1 hM (by omega) n hn z o y (by omega) (by omega) (by omega) (by omega)
    refine ⟨r, ev_succ ?_, hS⟩
    simp only [spec_l20Machine.l1]
    simp only [if_neg (show ¬ (i : Int) < (st : Int) by omega)]
    refine Ev.bind (ev1 e1) ?_
    refine Ev.bind hc ?_
    exact hr
  | succ d ih =>
    intro i y p m hi hy h hm
    obtain ⟨x1, e1, _, _, _, hR1⟩ := pick_ok h (by omega) 2 (by omega)
    obtain ⟨r, hr, hS⟩ := ih (i + 1) (y ++ [x1]) _ _ (by omega) (by rw [List.length_append, List.length_singleton]; omega) hR1 (by omega)
    have gy : y.length < 17592186044416 := by omega
    have gi : (i : Int) < (st : Int) := by omega
    have hw : wrap64 ((i : Int) + 1) = ((i + 1 : Nat) : Int) := by unfold wrap64; omega
    refine ⟨r, ev_succ ?_, hS⟩
    simp only [spec_l20Machine.l1]
    simp only [if_pos gi, hw]
    refine Ev.bind (ev1 e1) ?_
    simp only [if_pos gy]
    exact hr

def L8 : List ByteArray := [(⟨#[101, 118, 101, 114, 121]⟩ : ByteArray), (⟨#[115, 111, 109, 101]⟩ : ByteArray), (⟨#[110, 111]⟩ : ByteArray), (⟨#[101, 118, 101, 110]⟩ : ByteArray), (⟨#[97, 116, 108, 101, 97, 115, 116, 50]⟩ : ByteArray), (⟨#[97, 116, 108, 101, 97, 115, 116, 51]⟩ : ByteArray), (⟨#[106, 117, 115, 116, 49]⟩ : ByteArray), (⟨#[106, 117, 115, 116, 50]⟩ : ByteArray)]
def L4s : List ByteArray := [(⟨#[101, 118, 101, 114, 121]⟩ : ByteArray), (⟨#[115, 111, 109, 101]⟩ : ByteArray), (⟨#[101, 118, 101, 110]⟩ : ByteArray), (⟨#[106, 117, 115, 116, 49]⟩ : ByteArray)]
theorem names8 : ((List.range 8).all fun i : Nat => decide (1 ≤ (namedM (rdOf ByteArray.empty L8 (i : Int)).data.toList).1.length)) = true := by kernel_rfl
theorem named8 (i : Int) (h0 : 0 ≤ i) (h8 : i < 8) : 1 ≤ (namedM (rdOf ByteArray.empty L8 i).data.toList).1.length := by
  have h := List.all_eq_true.1 names8 i.toNat (List.mem_range.2 (by omega))
  rw [show ((i.toNat : Nat) : Int) = i by omega] at h
  exact of_decide_eq_true h
theorem bothM_pos (a0 a1 a2 b0 b1 b2 : List Int) (h : (bothM a0 a1 a2 b0 b1 b2).2.2.2 = true) : 1 ≤ (bothM a0 a1 a2 b0 b1 b2).1.length := by
  revert h
  unfold bothM
  split
  · rename_i h
    intro _
    show 1 ≤ (segs _ _ _ _).length
    rw [segs_length]
    exact Nat.mul_pos h.1.1.1 h.2.1.1.1
  · intro h; exact absurd h (by simp)

theorem l20Machine_ok {b : List Int} {p m Q : Int} (h : Rd b p m) (hM : Q ≤ 1000000) (hm : m + 100 ≤ Q) (n : Int) (hn : n ≤ 1000000) : ∃ r, Ev (fun k => spec_l20Machine.f k b p n) r ∧ SmallM b Q r := by
  unfold spec_l20Machine.f
  obtain ⟨c, hc, c0, c1, _, hR⟩ := pick_ok h (by omega) 4 (by omega)
  have c1 := c1 (by omega)
  by_cases e0 : c = 0
  · obtain ⟨s, hs, s0, s1, _, hR2⟩ := pick_ok hR (by omega) 4 (by omega)
    have s1 := s1 (by omega)
    have hw : wrap64 (1 + s) = ((1 + s.toNat : Nat) : Int) := by unfold wrap64; omega
    obtain ⟨r, hr, hS⟩ := l0_ok (b := b) hM n hn (1 + s.toNat) (by omega) (by omega) (1 + s.toNat) 0 [] [] [] _ _ (by omega) rfl rfl rfl hR2 (by omega)
    refine ⟨r, Ev.bind (ev1 hc) ?_, hS⟩
    simp only [if_pos e0]
    refine Ev.bind (ev1 hs) ?_
    simp only [hw]
    exact hr
  · by_cases e1 : c = 1
    · obtain ⟨s, hs, s0, s1, _, hR2⟩ := pick_ok hR (by omega) 5 (by omega)
      have s1 := s1 (by omega)
      have hw : wrap64 (1 + s) = ((1 + s.toNat : Nat) : Int) := by unfold wrap64; omega
      obtain ⟨r, hr, hS⟩ := l1_ok (b := b) hM n hn (1 + s.toNat) (by omega) (by omega) (1 + s.toNat) 0 [] _ _ (by omega) rfl hR2 (by omega)
      refine ⟨r, Ev.bind (ev1 hc) ?_, hS⟩
      simp only [if_neg e0, if_pos e1]
      refine Ev.bind (ev1 hs) ?_
      simp only [hw]
      exact hr
    · obtain ⟨s, hs, s0, s1, _, hR2⟩ := pick_ok hR (by omega) 8 (by omega)
      have s1 := s1 (by omega)
      obtain ⟨t, ht, t0, t1, _, hR3⟩ := pick_ok hR2 (by omega) 3 (by omega)
      have hN := spec_NamedMachine_eq (rdOf ByteArray.empty L8 s)
      have hP := named8 s s0 s1
      have hL := namedM_len (rdOf ByteArray.empty L8 s).data.toList
      revert hN hP hL
      generalize namedM (rdOf ByteArray.empty L8 s).data.toList = M
      intro hN hP hL
      by_cases et : t = 0
      · obtain ⟨u, hu, u0, u1, _, hR4⟩ := pick_ok hR3 (by omega) 4 (by omega)
        have u1 := u1 (by omega)
        have hN2 := spec_NamedMachine_eq (rdOf ByteArray.empty L4s u)
        have hL2 := namedM_len (rdOf ByteArray.empty L4s u).data.toList
        revert hN2 hL2
        generalize namedM (rdOf ByteArray.empty L4s u).data.toList = M2
        intro hN2 hL2
        have hB := spec_MachineBoth_eq M.1 M.2.1 M.2.2.1 M2.1 M2.2.1 M2.2.2.1 (by have := hL.1; omega) (by have := hL2.1; omega)
        have hBl := bothM_len M.1 M.2.1 M.2.2.1 M2.1 M2.2.1 M2.2.2.1
        have hBp := bothM_pos M.1 M.2.1 M.2.2.1 M2.1 M2.2.1 M2.2.2.1
        revert hB hBl hBp
        generalize bothM M.1 M.2.1 M.2.2.1 M2.1 M2.2.1 M2.2.2.1 = B
        intro hB hBl hBp
        have fin : ∃ r, Ev (fun k => if B.2.2.2 = true then spec_l20Machine.j2 k n b (p + 1 + 1 + 1 + 1) B.1 B.2.1 B.2.2.1 else spec_l20Machine.j2 k n b (p + 1 + 1 + 1 + 1) M.1 M.2.1 M.2.2.1) r ∧ SmallM b Q r := by
          by_cases eb : B.2.2.2 = true
          · simp only [if_pos eb]
            exact j2_ok hR4 hM (by omega) n hn _ _ _ (hBp eb) hBl.1 hBl.2.1 hBl.2.2
          · simp only [if_neg eb]
            exact j2_ok hR4 hM (by omega) n hn _ _ _ hP hL.1 hL.2.1 hL.2.2
        obtain ⟨r, hr, hS⟩ := fin
        refine ⟨r, Ev.bind (ev1 hc) ?_, hS⟩
        simp only [if_neg e0, if_neg e1, Option.bind_some]
        refine Ev.bind (ev1 hs) ?_
        simp only [if_pos s0]
        rw [show (([(⟨#[101, 118, 101, 114, 121]⟩ : ByteArray), (⟨#[115, 111, 109, 101]⟩ : ByteArray), (⟨#[110, 111]⟩ : ByteArray), (⟨#[101, 118, 101, 110]⟩ : ByteArray), (⟨#[97, 116, 108, 101, 97, 115, 116, 50]⟩ : ByteArray), (⟨#[97, 116, 108, 101, 97, 115, 116, 51]⟩ : ByteArray), (⟨#[106, 117, 115, 116, 49]⟩ : ByteArray), (⟨#[106, 117, 115, 116, 50]⟩ : ByteArray)] : List ByteArray)) = L8 from rfl, show (([(⟨#[101, 118, 101, 114, 121]⟩ : ByteArray), (⟨#[115, 111, 109, 101]⟩ : ByteArray), (⟨#[101, 118, 101, 110]⟩ : ByteArray), (⟨#[106, 117, 115, 116, 49]⟩ : ByteArray)] : List ByteArray)) = L4s from rfl]
        simp only [if_pos (show s < ((L8.length : Nat) : Int) from s1)]
        refine Ev.bind hN ?_
        refine Ev.bind (ev1 ht) ?_
        simp only [if_pos et]
        refine Ev.bind (ev1 hu) ?_
        simp only [if_pos u0, if_pos (show u < ((L4s.length : Nat) : Int) from u1)]
        refine Ev.bind hN2 ?_
        exact Ev.bind hB hr
      · obtain ⟨r, hr, hS⟩ := j2_ok hR3 hM (by omega) n hn M.1 M.2.1 M.2.2.1 hP hL.1 hL.2.1 hL.2.2
        refine ⟨r, Ev.bind (ev1 hc) ?_, hS⟩
        simp only [if_neg e0, if_neg e1, Option.bind_some]
        refine Ev.bind (ev1 hs) ?_
        simp only [if_pos s0]
        rw [show (([(⟨#[101, 118, 101, 114, 121]⟩ : ByteArray), (⟨#[115, 111, 109, 101]⟩ : ByteArray), (⟨#[110, 111]⟩ : ByteArray), (⟨#[101, 118, 101, 110]⟩ : ByteArray), (⟨#[97, 116, 108, 101, 97, 115, 116, 50]⟩ : ByteArray), (⟨#[97, 116, 108, 101, 97, 115, 116, 51]⟩ : ByteArray), (⟨#[106, 117, 115, 116, 49]⟩ : ByteArray), (⟨#[106, 117, 115, 116, 50]⟩ : ByteArray)] : List ByteArray)) = L8 from rfl]
        simp only [if_pos (show s < ((L8.length : Nat) : Int) from s1)]
        refine Ev.bind hN ?_
        refine Ev.bind (ev1 ht) ?_
        simp only [if_neg et]
        exact hr
end Go.Proofs.YthodcgkhianecaaDoor.Sem

end
section
/- The draw of a text of letters, of a machine and a text, of two machines: each comes to an end, with short rows and texts; no condition but the reader's own shape. -/
namespace Go.Proofs.YthodcgkhianecaaDoor.Sem
open Go.RowKit Go.Proofs.YthodcgkhianecaaDoor.PA Go.Proofs.YthodcgkhianecaaDoorW.PrintWords Go.Proofs.YthodcgkhianecaaDoorW.PrintLast Go.Proofs.YthodcgkhianecaaDoorW.PrintMore
set_option linter.unusedVariables false
set_option linter.unusedSimpArgs false

def two : List ByteArray := [(⟨#[48]⟩ : ByteArray), (⟨#[49]⟩ : ByteArray)]
theorem two_size (r : Int) (h0 : 0 ≤ r) (h : r < 2) : (rdOf ByteArray.empty two r).size = 1 := by
  have e : r = 0 ∨ r = 1 := by omega
  rcases e with rfl | rfl <;> rfl
theorem letters_from (n : Int) (hn : n ≤ 1000) (b : List Int) (j : Nat) : ∀ (s : ByteArray) (p m : Int), Rd b p m → m + j + 2 ≤ 1000000 → s.size + j ≤ 100 →
    ∃ s' p', Ev (fun k => spec_l20Letters.l0 k n s (j : Int) b p) (s', p') ∧ s'.size ≤ s.size + j + 1 := by
  induction j with
  | zero =>
    intro s p m h hm hs
    obtain ⟨r, p', e, _⟩ := odd_ok h (by omega) n (by omega)
    have st : ∀ {x : ByteArray × Int}, Ev (fun k => (spec_l20Rd_odd.f k b p n).bind fun bt339 => (if bt339.1 = true then (if s.size + 1 ≤ 9223372036854775807 then (some (s ++ (⟨#[120]⟩ : ByteArray), bt339.2)) else (none)) else (some (s, bt339.2)))) x → Ev (fun k => spec_l20Letters.l0 k n s ((0 : Nat) : Int) b p) x := fun h => Ev.step (fun k => by
      simp only [spec_l20Letters.l0]
      rw [if_neg (by omega)]) h
    cases r with
    | false => exact ⟨s, p', st (Ev.bind (ev1 e) (by simp only [Bool.false_eq_true, if_false]; exact Ev.now _)), by omega⟩
    | true =>
      refine ⟨s ++ (⟨#[120]⟩ : ByteArray), p', st (Ev.bind (ev1 e) ?_), ?_⟩
      · simp only [if_true, if_pos (show s.size + 1 ≤ 9223372036854775807 by omega)]
        exact Ev.now _
      · rw [ByteArray.size_append]
        show s.size + 1 ≤ _
        omega
  | succ j ih =>
    intro s p m h hm hs
    have hj : wrap64 (((j + 1 : Nat) : Int) - 1) = (j : Int) := by rw [w64 (by omega) (by omega)]; omega
    obtain ⟨r, e, l2, u2, _, h2⟩ := pick_ok h (by omega) 2 (by omega)
    have u2 := u2 (by omega)
    have hz := two_size r l2 u2
    obtain ⟨s', p', e', hs'⟩ := ih (s ++ rdOf ByteArray.empty two r) (p + 1) (m + 1) h2 (by omega) (by rw [ByteArray.size_append, hz]; omega)
    refine ⟨s', p', ?_, by rw [ByteArray.size_append, hz] at hs'; omega⟩
    refine Ev.step (f := fun k => (spec_l20Rd_pick.f k b p 2).bind fun bt336 => (if 0 ≤ bt336.1 then (if bt336.1 < (two.length : Int) then (if s.size + (rdOf ByteArray.empty two bt336.1).size ≤ 9223372036854775807 then (spec_l20Letters.l0 k n (s ++ (rdOf ByteArray.empty two bt336.1)) (j : Int) b bt336.2) else (none)) else (none)) else (none))) (fun k => ?_) (Ev.bind (ev1 e) ?_)
    · simp only [spec_l20Letters.l0, Option.bind_some]
      rw [if_pos (by omega), hj]
      rfl
    · simp only [if_pos l2, if_pos (show r < (two.length : Int) from u2), if_pos (show s.size + (rdOf ByteArray.empty two r).size ≤ 9223372036854775807 by omega)]
      exact e'
theorem letters_ok {b : List Int} {p m : Int} (h : Rd b p m) (hm : m + 20 ≤ 1000000) : ∃ s p', Ev (fun k => spec_l20Letters.f k b p 8 12) (s, p') ∧ s.size ≤ 9 := by
  have hw : wrap64 (8 + 1) = 9 := by unfold wrap64; omega
  obtain ⟨r, er, l2, u2, _, h2⟩ := pick_ok h (by omega) 9 (by omega)
  have u2 := u2 (by omega)
  obtain ⟨j, rfl⟩ := Int.eq_ofNat_of_zero_le l2
  have h0 : (⟨#[]⟩ : ByteArray).size = 0 := rfl
  obtain ⟨s, p', e, hs⟩ := letters_from 12 (by omega) b j (⟨#[]⟩ : ByteArray) (p + 1) (m + 1) h2 (by omega) (by omega)
  unfold spec_l20Letters.f
  rw [hw]
  exact ⟨s, p', Ev.bind (ev1 er) e, by omega⟩
theorem drawSays_ok {l : List Int} (w : ∀ x ∈ l, (Lit.int .u8 x).wf = true) : ∃ a b c s, Ev (fun k => spec_DrawSaysYes.f k l) (a, b, c, s) ∧ (a.length ≤ 13 ∧ b.length ≤ 13 ∧ c.length ≤ 13) ∧ s.size ≤ 9 := by
  obtain ⟨B, hb, hR⟩ := open_ok w
  obtain ⟨⟨a, b, c, p⟩, e1, h1, h2, h3, hR2⟩ := l20Machine_ok (Q := 1000) hR (by omega) (by omega) 12 (by omega)
  obtain ⟨s, p', e2, hs⟩ := letters_ok hR2 (by omega)
  refine ⟨a, b, c, s, ?_, ⟨h1, h2, h3⟩, hs⟩
  unfold spec_DrawSaysYes.f
  simp only [hb, Option.bind_some]
  exact Ev.bind e1 (Ev.bind e2 (Ev.now _))
theorem drawBoth_ok {l : List Int} (w : ∀ x ∈ l, (Lit.int .u8 x).wf = true) : ∃ a b c d e f, Ev (fun k => spec_DrawMachineBoth.f k l) (a, b, c, d, e, f) ∧ (a.length ≤ 13 ∧ b.length ≤ 13 ∧ c.length ≤ 13) ∧ (d.length ≤ 13 ∧ e.length ≤ 13 ∧ f.length ≤ 13) := by
  obtain ⟨B, hb, hR⟩ := open_ok w
  obtain ⟨⟨a, b, c, p⟩, e1, h1, h2, h3, hR2⟩ := l20Machine_ok (Q := 1000) hR (by omega) (by omega) 14 (by omega)
  obtain ⟨⟨d, e, f, p2⟩, e2, h4, h5, h6, _⟩ := l20Machine_ok (Q := 2000) hR2 (by omega) (by omega) 14 (by omega)
  refine ⟨a, b, c, d, e, f, ?_, ⟨h1, h2, h3⟩, ⟨h4, h5, h6⟩⟩
  unfold spec_DrawMachineBoth.f
  simp only [hb, Option.bind_some]
  exact Ev.bind e1 (Ev.bind e2 (Ev.now _))
end Go.Proofs.YthodcgkhianecaaDoor.Sem

end
section
/- Two machines at once, in plain words: the program's own answer; no condition but a row's length. -/
namespace Go.Proofs.YthodcgkhianecaaDoor.Sem
open Go.RowKit Go.Proofs.YthodcgkhianecaaDoor.PA Go.Proofs.YthodcgkhianecaaDoorW.PrintWords Go.Proofs.YthodcgkhianecaaDoorW.PrintLast Go.Proofs.YthodcgkhianecaaDoorW.PrintMore
set_option linter.unusedVariables false
set_option linter.unusedSimpArgs false

section
variable {a0 a1 a2 b0 b1 b2 : List Int} (A : MachOk a0 a1 a2) (B : MachOk b0 b1 b2)
include A B
theorem impl_both_in (i : Nat) (hi : i < a0.length) (r : List Int × List Int × List Int × Bool) (d : Nat) : ∀ (j : Nat) (o0 o1 o2 : List Int), o0.length + d ≤ 1000 → o1.length + d ≤ 1000 → o2.length + d ≤ 1000 → j + d = b0.length →
    Ev (fun k => impl_MachineBoth.l0 k (b2.length : Int) (a2.length : Int) ((i + 1 : Nat) : Int) a0 a1 a2 b0 b1 b2 (o0 ++ seg (fz a0 b0) i j d) (o1 ++ seg (fz a1 b1) i j d) (o2 ++ seg (fy a2 b2) i j d)) r →
    Ev (fun k => impl_MachineBoth.l1 k (b2.length : Int) (i : Int) (a2.length : Int) (i : Int) (b2.length : Int) (j : Int) a0 a1 a2 b0 b1 b2 o0 o1 o2) r := by
  obtain ⟨⟨p1, p2, p3, p4⟩, _⟩ := A
  obtain ⟨⟨q1, q2, q3, q4⟩, _⟩ := B
  have hi6 : i < 1000000 := by omega
  induction d with
  | zero =>
    intro j o0 o1 o2 _ _ _ hj h
    simp only [seg, List.range'_zero, List.map_nil, List.append_nil] at h
    refine Ev.step (fun k => ?_) h
    simp only [impl_MachineBoth.l1]
    rw [if_neg (by omega), wr i hi6]
  | succ d ih =>
    intro j o0 o1 o2 h0 h1 h2 hj h
    have hj6 : j < 1000000 := by omega
    have x1 : (j : Int) < (b0.length : Int) := by omega
    have y1 : (j : Int) < (b2.length : Int) := by omega
    have x2 : (0 : Int) ≤ (i : Int) := by omega
    have x3 : (i : Int) < (a0.length : Int) := by omega
    have x4 : (0 : Int) ≤ (j : Int) := by omega
    have x5 : (j : Int) < (b0.length : Int) := x1
    have x6 : o0.length < 17592186044416 := by omega
    have x7 : (i : Int) < (a1.length : Int) := by omega
    have x8 : (j : Int) < (b1.length : Int) := by omega
    have x9 : o1.length < 17592186044416 := by omega
    have x10 : (i : Int) < (a2.length : Int) := by omega
    have x11 : (j : Int) < (b2.length : Int) := y1
    have x12 : o2.length < 17592186044416 := by omega
    rw [put_seg, put_seg, put_seg] at h
    have ih := ih (j + 1) (o0 ++ [fz a0 b0 i j]) (o1 ++ [fz a1 b1 i j]) (o2 ++ [fy a2 b2 i j]) (by rw [List.length_append, List.length_singleton]; omega) (by rw [List.length_append, List.length_singleton]; omega) (by rw [List.length_append, List.length_singleton]; omega) (by omega) h
    refine Ev.step (fun k => ?_) ih
    simp only [impl_MachineBoth.l1]
    rw [if_pos y1, if_pos x2, if_pos x3, if_pos x4, if_pos x5, if_pos x6, if_pos x7, if_pos x8, if_pos x9, if_pos x10, if_pos x11, if_pos x12, wr j hj6]
    unfold fz fy
    rw [q3, q4]
theorem impl_both_from (hm : a0.length * b0.length ≤ 12) (d : Nat) : ∀ (i : Nat) (o0 o1 o2 : List Int), o0.length + d * b0.length ≤ 500 → o1.length + d * b0.length ≤ 500 → o2.length + d * b0.length ≤ 500 → i + d = a0.length →
    Ev (fun k => impl_MachineBoth.l0 k (b2.length : Int) (a2.length : Int) (i : Int) a0 a1 a2 b0 b1 b2 o0 o1 o2) (o0 ++ segs (fz a0 b0) b0.length i d, o1 ++ segs (fz a1 b1) b0.length i d, o2 ++ segs (fy a2 b2) b0.length i d, true) := by
  have q := B.1
  have p := A.1
  induction d with
  | zero =>
    intro i o0 o1 o2 _ _ _ hi
    simp only [segs, List.range'_zero, List.flatMap_nil, List.append_nil]
    refine Ev.step (f := fun _ => some (o0, o1, o2, true)) (fun k => ?_) (Ev.now _)
    simp only [impl_MachineBoth.l0]
    rw [if_neg (by omega)]
  | succ d ih =>
    intro i o0 o1 o2 h0 h1 h2 hi
    rw [Nat.add_mul] at h0 h1 h2
    have ih := ih (i + 1) (o0 ++ seg (fz a0 b0) i 0 b0.length) (o1 ++ seg (fz a1 b1) i 0 b0.length) (o2 ++ seg (fy a2 b2) i 0 b0.length) (by rw [List.length_append, seg_length]; omega) (by rw [List.length_append, seg_length]; omega) (by rw [List.length_append, seg_length]; omega) (by omega)
    rw [segs_succ, segs_succ, segs_succ, ← List.append_assoc, ← List.append_assoc, ← List.append_assoc]
    refine Ev.step (f := fun k => impl_MachineBoth.l1 k (b2.length : Int) (i : Int) (a2.length : Int) (i : Int) (b2.length : Int) ((0 : Nat) : Int) a0 a1 a2 b0 b1 b2 o0 o1 o2) (fun k => ?_) (impl_both_in A B i (by omega) _ b0.length 0 o0 o1 o2 (by omega) (by omega) (by omega) (by omega) ih)
    simp only [impl_MachineBoth.l0]
    rw [if_pos (by omega)]
    rfl
end

theorem impl_MachineBoth_eq (a0 a1 a2 b0 b1 b2 : List Int) : Ev (fun k => impl_MachineBoth.f k a0 a1 a2 b0 b1 b2) (bothM a0 a1 a2 b0 b1 b2) := by
  unfold impl_MachineBoth.f bothM
  have no : Ev (fun k => impl_MachineBoth.j0 k true a0 a1 a2 b0 b1 b2) (([], [], [], false) : List Int × List Int × List Int × Bool) := ev1 (fun k => by simp only [impl_MachineBoth.j0, if_true])
  refine Ev.bind (impl_isMachine_eq a0 a1 a2) ?_
  by_cases A : MachOk a0 a1 a2
  · simp only [decide_eq_true A, if_true]
    refine Ev.bind (impl_isMachine_eq b0 b1 b2) ?_
    by_cases B : MachOk b0 b1 b2
    · have e1 : a2.length = a0.length := A.1.2.2.2
      have e2 : b2.length = b0.length := B.1.2.2.2
      have hmul : wrap64 ((a2.length : Int) * (b2.length : Int)) = ((a0.length * b0.length : Nat) : Int) := by rw [e1, e2]; exact mul_small A.1.2.1 B.1.2.1
      simp only [decide_eq_true B, if_true, hmul]
      by_cases hm : a0.length * b0.length ≤ 12
      · rw [if_pos ⟨A, B, hm⟩, decide_eq_false (show ¬ ((a0.length * b0.length : Nat) : Int) > 12 by omega)]
        have h := impl_both_from A B hm a0.length 0 [] [] [] (by simp; omega) (by simp; omega) (by simp; omega) (by omega)
        simp only [List.nil_append] at h
        refine Ev.step (fun k => ?_) h
        simp only [impl_MachineBoth.j0, Bool.false_eq_true, if_false]
        rfl
      · rw [if_neg (fun h => hm h.2.2), decide_eq_true (show ((a0.length * b0.length : Nat) : Int) > 12 by omega)]
        exact no
    · simp only [decide_eq_false B, Bool.false_eq_true, if_false]
      rw [if_neg (fun h => B h.2.1)]
      exact no
  · simp only [decide_eq_false A, Bool.false_eq_true, if_false]
    rw [if_neg (fun h => A h.1)]
    exact no
end Go.Proofs.YthodcgkhianecaaDoor.Sem

end
section
/- What a machine says after a text, in plain words: the program's answer; no condition but the rows' and the text's lengths. -/
namespace Go.Proofs.YthodcgkhianecaaDoor.Sem
open Go.RowKit Go.Proofs.YthodcgkhianecaaDoor.PA Go.Proofs.YthodcgkhianecaaDoorW.PrintWords Go.Proofs.YthodcgkhianecaaDoorW.PrintLast Go.Proofs.YthodcgkhianecaaDoorW.PrintMore
set_option linter.unusedVariables false
set_option linter.unusedSimpArgs false

def bitsOk (l : List UInt8) : Bool := l.all (fun x => x == 48 || x == 49)
/-- What SaysYes answers. -/
def saysB (a b c : List Int) (l : List UInt8) : Bool := decide (MachOk a b c) && (bitsOk l && rd c (stateOf a b l 0) == 1)

theorem drop_all (p : UInt8 → Bool) : ∀ l : List UInt8, (∀ x ∈ l.dropWhile p, p x = true) → ∀ x ∈ l, p x = true
  | [], _, x, hx => absurd hx (by simp)
  | y :: r, h, x, hx => by
    by_cases hy : p y = true
    · rw [List.dropWhile_cons_of_pos hy] at h
      rcases List.mem_cons.1 hx with rfl | hx
      · exact hy
      · exact drop_all p r h x hx
    · rw [List.dropWhile_cons_of_neg hy] at h
      exact absurd (h y List.mem_cons_self) hy
theorem drop_nil (p : UInt8 → Bool) : ∀ l : List UInt8, (∀ x ∈ l, p x = true) → l.dropWhile p = []
  | [], _ => rfl
  | y :: r, h => by
    rw [List.dropWhile_cons_of_pos (h y List.mem_cons_self)]
    exact drop_nil p r (fun x hx => h x (List.mem_cons_of_mem _ hx))
theorem nil_drop (p : UInt8 → Bool) (l : List UInt8) (h : l.dropWhile p = []) : ∀ x ∈ l, p x = true := drop_all p l (by rw [h]; intro x hx; exact absurd hx (by simp))
theorem trim_nil (l cs : List UInt8) : Go.Lib.trimS l cs = [] ↔ ∀ x ∈ l, cs.contains x = true := by
  unfold Go.Lib.trimS Go.Lib.trimLeftS Go.Lib.trimRightS
  constructor
  · intro h x hx
    have h1 := nil_drop _ _ h
    have h2 := drop_all (fun x => cs.contains x) l.reverse (fun y hy => h1 y (List.mem_reverse.2 hy))
    exact h2 x (List.mem_reverse.2 hx)
  · intro h
    rw [drop_nil (fun x => cs.contains x) l.reverse (fun x hx => h x (List.mem_reverse.1 hx))]
    rfl
theorem two_has (x : UInt8) : ([48, 49] : List UInt8).contains x = (x == 48 || x == 49) := by
  show List.elem x [48, 49] = _
  simp only [List.elem]
  cases (x == 48) <;> cases (x == 49) <;> rfl
theorem trim_bits (l : List UInt8) : Go.Lib.trimS l [48, 49] = [] ↔ bitsOk l = true := by
  rw [trim_nil]
  unfold bitsOk
  rw [List.all_eq_true]
  constructor
  · intro h x hx
    rw [← two_has]
    exact h x hx
  · intro h x hx
    rw [two_has]
    exact h x hx

theorem impl_SaysYes_eq (a b c : List Int) (s : ByteArray) (hs : s.size ≤ 2000000) : Ev (fun k => impl_SaysYes.f k a b c s) (saysB a b c s.data.toList) := by
  unfold impl_SaysYes.f saysB
  refine Ev.bind (impl_isMachine_eq a b c) ?_
  by_cases h : MachOk a b c
  · rw [decide_eq_true h]
    simp only [if_true, Bool.true_and]
    have ht : strings_Trim.f s (⟨#[48, 49]⟩ : ByteArray) = some ⟨(Go.Lib.trimS s.data.toList [48, 49]).toArray⟩ := by
      unfold strings_Trim.f Man.trimF
      exact if_pos ⟨by omega, by decide, by decide⟩
    simp only [ht, Option.bind_some]
    have hl : (⟨(Go.Lib.trimS s.data.toList [48, 49]).toArray⟩ : ByteArray).toList = Go.Lib.trimS s.data.toList [48, 49] := by rw [ByteArray.toList_eq]
    rw [hl]
    cases hb : bitsOk s.data.toList with
    | false =>
      simp only [if_neg (fun e => Bool.false_ne_true (hb.symm.trans ((trim_bits _).1 e))), Bool.false_and]
      exact Ev.now _
    | true =>
      simp only [if_pos ((trim_bits _).2 hb), Bool.true_and]
      have hr := state_range h s.data.toList 0 (by omega) (by have := h.1.1; omega)
      have hc := h.1.2.2.2
      have hst : Ev (fun k => impl_Machine_after.f k a b c s) (stateOf a b s.data.toList 0) := by
        unfold impl_Machine_after.f
        exact impl_state_from h s hs s.data.toList.length 0 0 (by omega) (by omega) (by have := h.1.1; omega)
      refine Ev.bind hst ?_
      simp only [if_pos hr.1, if_pos (show stateOf a b s.data.toList 0 < (c.length : Int) by omega)]
      exact Ev.now _
  · rw [decide_eq_false h]
    simp only [Bool.false_eq_true, if_false, Bool.false_and]
    exact Ev.now _
end Go.Proofs.YthodcgkhianecaaDoor.Sem

end
section
/- Reached states, in plain words: the least set closed under both letters; the row that grows, and the marks; no condition but that each state's letters lead to a state. -/
namespace Go.Proofs.YthodcgkhianecaaDoor.Sem
open Go.RowKit Go.Proofs.YthodcgkhianecaaDoor.PA Go.Proofs.YthodcgkhianecaaDoorW.PrintWords Go.Proofs.YthodcgkhianecaaDoorW.PrintLast Go.Proofs.YthodcgkhianecaaDoorW.PrintMore
set_option linter.unusedVariables false
set_option linter.unusedSimpArgs false

/-- Both letters lead from each state to a state. -/
structure Ste (a b : List Int) (n : Nat) : Prop where
  la : a.length = n
  lb : b.length = n
  n12 : n ≤ 12
  st : ∀ x : Int, 0 ≤ x → x < n → (0 ≤ rd a x ∧ rd a x < n) ∧ (0 ≤ rd b x ∧ rd b x < n)

/-- What is reached from a state. -/
inductive Rch (a b : List Int) (z : Int) : Int → Prop
  | here : Rch a b z z
  | zero {x : Int} : Rch a b z x → Rch a b z (rd a x)
  | one {x : Int} : Rch a b z x → Rch a b z (rd b x)

theorem Rch.range {a b : List Int} {n : Nat} (S : Ste a b n) {z x : Int} (hz : 0 ≤ z ∧ z < n) (h : Rch a b z x) : 0 ≤ x ∧ x < n := by
  induction h with
  | here => exact hz
  | zero _ ih => exact (S.st _ ih.1 ih.2).1
  | one _ ih => exact (S.st _ ih.1 ih.2).2
theorem Rch.trans {a b : List Int} {x y z : Int} (h1 : Rch a b x y) (h2 : Rch a b y z) : Rch a b x z := by
  induction h2 with
  | here => exact h1
  | zero _ ih => exact ih.zero
  | one _ ih => exact ih.one

theorem nodup_le {α : Type} [DecidableEq α] : ∀ (K A : List α), K.Nodup → (∀ x ∈ K, x ∈ A) → K.length ≤ A.length
  | [], A, _, _ => Nat.zero_le _
  | x :: K, A, h, hA => by
    have hx : x ∈ A := hA x (List.mem_cons_self)
    rw [List.nodup_cons] at h
    have := nodup_le K (A.erase x) h.2 (fun y hy => (List.mem_erase_of_ne (fun e => h.1 (by rw [← e]; exact hy))).2 (hA y (List.mem_cons_of_mem _ hy)))
    rw [List.length_erase_of_mem hx] at this
    have := List.length_pos_of_mem hx
    simp only [List.length_cons]
    omega

/-- A new one is put at the end. -/
def addI (l : List Int) (x : Int) : List Int := if x ∈ l then l else l ++ [x]
theorem mem_addI (l : List Int) (x y : Int) : y ∈ addI l x ↔ y ∈ l ∨ y = x := by
  unfold addI
  split
  · rename_i h
    exact ⟨Or.inl, fun h' => h'.elim id (fun e => e ▸ h)⟩
  · simp
theorem addI_pre (l : List Int) (x : Int) : ∃ e, addI l x = l ++ e := by
  unfold addI
  split
  · exact ⟨[], by simp⟩
  · exact ⟨[x], rfl⟩

/-- The row of reached ones, the first of which have been looked at. -/
structure Row (a b : List Int) (z : Int) (out : List Int) (i : Nat) : Prop where
  nd : out.Nodup
  at0 : ∃ e, out = z :: e
  snd : ∀ x ∈ out, Rch a b z x
  done : ∀ x ∈ out.take i, rd a x ∈ out ∧ rd b x ∈ out
  ord : ∀ j (h : j < out.length), 0 < j → ∃ m, ∃ h' : m < out.length, m < j ∧ (out[j] = rd a out[m] ∨ out[j] = rd b out[m])

theorem Row.add {a b : List Int} {z : Int} {out : List Int} {i : Nat} (R : Row a b z out i) (hi : i ≤ out.length) (m : Nat) (hm : m < out.length) {x : Int} (hx : x = rd a out[m] ∨ x = rd b out[m]) : Row a b z (addI out x) i ∧ i ≤ (addI out x).length := by
  unfold addI
  split
  · exact ⟨R, hi⟩
  · rename_i hn
    refine ⟨⟨?_, ?_, ?_, ?_, ?_⟩, by rw [List.length_append]; omega⟩
    · rw [List.nodup_append]
      exact ⟨R.nd, by simp, fun p hp q hq => by rw [List.mem_singleton.1 hq]; exact fun e => hn (e ▸ hp)⟩
    · obtain ⟨e, he⟩ := R.at0
      exact ⟨e ++ [x], by rw [he]; rfl⟩
    · intro y hy
      rcases List.mem_append.1 hy with hy | hy
      · exact R.snd y hy
      · rw [List.mem_singleton.1 hy]
        have hr := R.snd out[m] (List.getElem_mem hm)
        rcases hx with rfl | rfl
        · exact hr.zero
        · exact hr.one
    · intro y hy
      rw [List.take_append_of_le_length hi] at hy
      exact ⟨List.mem_append_left _ (R.done y hy).1, List.mem_append_left _ (R.done y hy).2⟩
    · intro j hj h0
      rw [List.length_append] at hj
      simp only [List.length_singleton] at hj
      by_cases hl : j < out.length
      · obtain ⟨m', hm', h1, h2⟩ := R.ord j hl h0
        refine ⟨m', by rw [List.length_append]; omega, h1, ?_⟩
        rw [List.getElem_append_left hl, List.getElem_append_left hm']
        exact h2
      · refine ⟨m, by rw [List.length_append]; omega, by omega, ?_⟩
        rw [List.getElem_append_right (by omega), List.getElem_append_left hm]
        simpa using hx

theorem Row.full {a b : List Int} {z : Int} {out : List Int} (R : Row a b z out out.length) (x : Int) : x ∈ out ↔ Rch a b z x := by
  refine ⟨R.snd x, fun h => ?_⟩
  have hd := R.done
  rw [List.take_of_length_le (Nat.le_refl _)] at hd
  induction h with
  | here =>
    obtain ⟨e, he⟩ := R.at0
    rw [he]; exact List.mem_cons_self
  | zero _ ih => exact (hd _ ih).1
  | one _ ih => exact (hd _ ih).2

theorem Row.few {a b : List Int} {n : Nat} (S : Ste a b n) {z : Int} (hz : 0 ≤ z ∧ z < n) {out : List Int} {i : Nat} (R : Row a b z out i) : out.length ≤ n := by
  have := nodup_le out ((List.range n).map (fun m : Nat => (m : Int))) R.nd (fun x hx => by
    have := (R.snd x hx).range S hz
    exact List.mem_map.2 ⟨x.toNat, List.mem_range.2 (by omega), by omega⟩)
  rwa [List.length_map, List.length_range] at this

theorem Row.start (a b : List Int) (z : Int) : Row a b z [z] 0 :=
  ⟨by simp, ⟨[], rfl⟩, fun x hx => by rw [List.mem_singleton.1 hx]; exact Rch.here, fun x hx => by simp at hx, fun j hj h0 => by simp at hj; omega⟩

theorem Row.next {a b : List Int} {z : Int} {out out' : List Int} {i : Nat} (R : Row a b z out' i) (hi : i < out.length) (hp : ∃ e, out' = out ++ e) (h1 : rd a out[i] ∈ out') (h2 : rd b out[i] ∈ out') : Row a b z out' (i + 1) := by
  obtain ⟨e, rfl⟩ := hp
  refine ⟨R.nd, R.at0, R.snd, fun x hx => ?_, R.ord⟩
  rw [List.take_succ_eq_append_getElem (by rw [List.length_append]; omega)] at hx
  rcases List.mem_append.1 hx with hx | hx
  · exact R.done x hx
  · rw [List.mem_singleton.1 hx, List.getElem_append_left hi]
    exact ⟨h1, h2⟩

/-! ### marks -/
end Go.Proofs.YthodcgkhianecaaDoor.Sem

end
section
/- Reached states: both programs' loops, in plain words; no condition but that each state's letters lead to a state. -/
namespace Go.Proofs.YthodcgkhianecaaDoor.Sem
open Go.RowKit Go.Proofs.YthodcgkhianecaaDoor.PA Go.Proofs.YthodcgkhianecaaDoorW.PrintWords Go.Proofs.YthodcgkhianecaaDoorW.PrintLast Go.Proofs.YthodcgkhianecaaDoorW.PrintMore
set_option linter.unusedVariables false
set_option linter.unusedSimpArgs false

theorem rdN (l : List Int) (i : Nat) (h : i < l.length) : rd l (i : Int) = l[i] := by
  unfold rd
  rw [List.getD_eq_getElem?_getD, Int.toNat_natCast, List.getElem?_eq_getElem h]
  rfl
theorem w1 (i : Nat) (h : i < 9223372036854775807) : wrap64 ((i : Int) + 1) = ((i + 1 : Nat) : Int) := by unfold wrap64; omega

theorem index_from (l : List Int) (x : Int) (hl : l.length ≤ 1000000) (d : Nat) : ∀ i, i + d = l.length → ∃ r, Ev (fun k => slices_Index_int_int.l0 k l x (l.length : Int) (i : Int)) r ∧ (decide (r ≥ 0) = decide (x ∈ l.drop i)) := by
  induction d with
  | zero =>
    intro i hi
    refine ⟨-1, Ev.step (f := fun _ => some (-1)) (fun k => ?_) (Ev.now _), ?_⟩
    · simp only [slices_Index_int_int.l0]
      rw [if_neg (by omega)]
    · rw [List.drop_of_length_le (by omega)]; simp
  | succ d ih =>
    intro i hi
    have hlt : i < l.length := by omega
    rw [List.drop_eq_getElem_cons hlt]
    by_cases h : x = l[i]
    · refine ⟨(i : Int), Ev.step (f := fun _ => some (i : Int)) (fun k => ?_) (Ev.now _), ?_⟩
      · simp only [slices_Index_int_int.l0]
        rw [if_pos (by omega), if_pos (by omega), if_pos (by omega), rdN l i hlt, if_pos h]
      · rw [decide_eq_true (show (i : Int) ≥ 0 by omega), decide_eq_true (show x ∈ l[i] :: l.drop (i + 1) by rw [h]; exact List.mem_cons_self)]
    · obtain ⟨r, hr, hd⟩ := ih (i + 1) (by omega)
      refine ⟨r, Ev.step (f := fun k => slices_Index_int_int.l0 k l x (l.length : Int) ((i + 1 : Nat) : Int)) (fun k => ?_) hr, ?_⟩
      · simp only [slices_Index_int_int.l0]
        rw [if_pos (by omega), if_pos (by omega), if_pos (by omega), rdN l i hlt, if_neg h, w1 i (by omega)]
      · rw [hd]
        refine decide_eq_decide.2 ⟨fun h' => List.mem_cons_of_mem _ h', fun h' => ?_⟩
        rcases List.mem_cons.1 h' with e | e
        · exact absurd e h
        · exact e

theorem contains_eq (l : List Int) (x : Int) (hl : l.length ≤ 1000000) : Ev (fun k => slices_Contains_int_int.f k l x) (decide (x ∈ l)) := by
  obtain ⟨r, hr, hd⟩ := index_from l x hl l.length 0 (by omega)
  rw [List.drop_zero] at hd
  unfold slices_Contains_int_int.f slices_Index_int_int.f
  refine Ev.bind hr ?_
  rw [hd]
  exact Ev.now _

theorem reached_two (out : List Int) (i : Nat) (u v : Int) (a b c : List Int) (hl : out.length ≤ 100000) (r : List Int) (h : Ev (fun k => impl_Machine_reached.l0 k (addI (addI out u) v) (wrap64 ((i : Int) + 1)) a b c) r) :
    Ev (fun k => impl_Machine_reached.l1 k out (i : Int) [u, v] (([u, v] : List Int).length : Int) 0 a b c) r := by
  have hl1 : (addI out u).length ≤ 100001 := by
    unfold addI
    split
    · omega
    · rw [List.length_append, List.length_singleton]; omega
  have w0 : wrap64 (0 + 1) = 1 := by unfold wrap64; omega
  have w2 : wrap64 (1 + 1) = 2 := by unfold wrap64; omega
  have end_ : ∀ o : List Int, Ev (fun k => impl_Machine_reached.l0 k o (wrap64 ((i : Int) + 1)) a b c) r → Ev (fun k => impl_Machine_reached.l1 k o (i : Int) [u, v] 2 2 a b c) r := fun o ho =>
    Ev.step (f := fun k => impl_Machine_reached.l0 k o (wrap64 ((i : Int) + 1)) a b c) (fun k => by simp only [impl_Machine_reached.l1]; rw [if_neg (by omega)]) ho
  have two : ∀ o : List Int, o.length ≤ 100001 → Ev (fun k => impl_Machine_reached.l0 k (addI o v) (wrap64 ((i : Int) + 1)) a b c) r → Ev (fun k => impl_Machine_reached.l1 k o (i : Int) [u, v] 2 1 a b c) r := fun o hol ho => by
    have hc := contains_eq o v (by omega)
    refine Ev.step (f := fun k => (slices_Contains_int_int.f k o v).bind fun t => if t = true then impl_Machine_reached.l1 k o (i : Int) [u, v] 2 2 a b c else if o.length < 17592186044416 then impl_Machine_reached.l1 k (o ++ [v]) (i : Int) [u, v] 2 2 a b c else none) (fun k => ?_) (Ev.bind hc ?_)
    · simp only [impl_Machine_reached.l1]
      rw [if_pos (by omega), if_pos (by omega), if_pos (by simp), w2]
      rfl
    · by_cases hm : v ∈ o
      · rw [decide_eq_true hm]
        simp only [if_true]
        rw [addI, if_pos hm] at ho
        exact end_ o ho
      · rw [decide_eq_false hm]
        simp only [Bool.false_eq_true, if_false, if_pos (show o.length < 17592186044416 by omega)]
        rw [addI, if_neg hm] at ho
        exact end_ _ ho
  have hc := contains_eq out u (by omega)
  refine Ev.step (f := fun k => (slices_Contains_int_int.f k out u).bind fun t => if t = true then impl_Machine_reached.l1 k out (i : Int) [u, v] 2 1 a b c else if out.length < 17592186044416 then impl_Machine_reached.l1 k (out ++ [u]) (i : Int) [u, v] 2 1 a b c else none) (fun k => ?_) (Ev.bind hc ?_)
  · simp only [impl_Machine_reached.l1]
    rw [if_pos (by simp), if_pos (by omega), if_pos (by simp), w0]
    rfl
  · by_cases hm : u ∈ out
    · rw [decide_eq_true hm]
      simp only [if_true]
      rw [addI, if_pos hm] at hl1
      refine two out hl1 ?_
      rw [show addI out u = out from if_pos hm] at h
      exact h
    · rw [decide_eq_false hm]
      simp only [Bool.false_eq_true, if_false, if_pos (show out.length < 17592186044416 by omega)]
      rw [show addI out u = out ++ [u] from if_neg hm] at h hl1
      exact two _ hl1 h

theorem reached_from {a b : List Int} (c : List Int) {n : Nat} (S : Ste a b n) {z : Int} (hz : 0 ≤ z ∧ z < n) (d : Nat) : ∀ (i : Nat) (out : List Int), Row a b z out i → i ≤ out.length → n ≤ i + d →
    ∃ out', Ev (fun k => impl_Machine_reached.l0 k out (i : Int) a b c) out' ∧ Row a b z out' out'.length := by
  induction d with
  | zero =>
    intro i out R hi hn
    have hf := R.few S hz
    obtain rfl : i = out.length := by omega
    refine ⟨out, Ev.step (f := fun _ => some out) (fun k => ?_) (Ev.now _), R⟩
    simp only [impl_Machine_reached.l0]
    rw [if_neg (by omega)]
  | succ d ih =>
    intro i out R hi hn
    have hf := R.few S hz
    have n12 := S.n12
    by_cases hlt : i < out.length
    · have hx := (R.snd _ (List.getElem_mem hlt)).range S hz
      obtain ⟨R1, hi1⟩ := R.add hi i hlt (x := rd a out[i]) (Or.inl rfl)
      have hm1 : out[i] ∈ addI out (rd a out[i]) := (mem_addI _ _ _).2 (Or.inl (List.getElem_mem hlt))
      obtain ⟨e1, he1⟩ := addI_pre out (rd a out[i])
      have hlt1 : i < (addI out (rd a out[i])).length := by rw [he1, List.length_append]; omega
      have hg1 : (addI out (rd a out[i]))[i] = out[i] := by simp only [he1]; rw [List.getElem_append_left hlt]
      obtain ⟨R2, hi2⟩ := R1.add hi1 i hlt1 (x := rd b out[i]) (Or.inr (by rw [hg1]))
      obtain ⟨e2, he2⟩ := addI_pre (addI out (rd a out[i])) (rd b out[i])
      have R3 := R2.next hlt ⟨e1 ++ e2, by rw [he2, he1, List.append_assoc]⟩ ((mem_addI _ _ _).2 (Or.inl ((mem_addI _ _ _).2 (Or.inr rfl)))) ((mem_addI _ _ _).2 (Or.inr rfl))
      obtain ⟨out', ho, Ro⟩ := ih (i + 1) _ R3 (by rw [he2, List.length_append]; omega) (by omega)
      refine ⟨out', Ev.step (f := fun k => impl_Machine_reached.l1 k out (i : Int) [rd a out[i], rd b out[i]] (([rd a out[i], rd b out[i]] : List Int).length : Int) 0 a b c) (fun k => ?_) (reached_two out i _ _ a b c (by omega) out' (by rw [w1 i (by omega)]; exact ho)), Ro⟩
      simp only [impl_Machine_reached.l0]
      rw [if_pos (by omega), if_pos (by omega), rdN out i hlt, if_pos hx.1, if_pos (by rw [S.la]; exact hx.2), if_pos (by rw [S.lb]; exact hx.2)]
      rfl
    · obtain rfl : i = out.length := by omega
      refine ⟨out, Ev.step (f := fun _ => some out) (fun k => ?_) (Ev.now _), R⟩
      simp only [impl_Machine_reached.l0]
      rw [if_neg (by omega)]

theorem impl_reached {a b : List Int} (c : List Int) {n : Nat} (S : Ste a b n) {z : Int} (hz : 0 ≤ z ∧ z < n) : ∃ out, Ev (fun k => impl_Machine_reached.f k a b c z) out ∧ Row a b z out out.length := by
  unfold impl_Machine_reached.f
  exact reached_from c S hz n 0 [z] (Row.start a b z) (by simp) (by omega)

/-! ### the reference's marks -/
end Go.Proofs.YthodcgkhianecaaDoor.Sem

end
section
/- Whether order matters, in plain words: both programs' answers; no condition but a row's length. -/
namespace Go.Proofs.YthodcgkhianecaaDoor.Sem
open Go.RowKit Go.Proofs.YthodcgkhianecaaDoor.PA Go.Proofs.YthodcgkhianecaaDoorW.PrintWords Go.Proofs.YthodcgkhianecaaDoorW.PrintLast Go.Proofs.YthodcgkhianecaaDoorW.PrintMore
set_option linter.unusedVariables false
set_option linter.unusedSimpArgs false

theorem MachOk.steps {a b c : List Int} (h : MachOk a b c) : Ste a b a.length ∧ 0 < a.length := by
  obtain ⟨⟨h1, h2, h3, h4⟩, hs⟩ := h
  refine ⟨⟨rfl, h3, h2, fun x h0 hx => ?_⟩, h1⟩
  have := hs x.toNat (by omega)
  unfold StOk at this
  rw [Int.toNat_of_nonneg h0] at this
  exact ⟨this.1, this.2.1⟩

/-- What AnyOrder answers. -/
def AnyO (a b c : List Int) : Prop := MachOk a b c ∧ ∀ x, Rch a b 0 x → rd b (rd a x) = rd a (rd b x)

theorem impl_anyOrder_eq {a b : List Int} (c : List Int) (S : Ste a b a.length) (hn : 0 < a.length) : ∃ res, Ev (fun k => impl_anyOrder.f k a b c) res ∧ (res = true ↔ ∀ x, Rch a b 0 x → rd b (rd a x) = rd a (rd b x)) := by
  have hz : (0 : Int) ≤ 0 ∧ (0 : Int) < a.length := ⟨by omega, by omega⟩
  obtain ⟨out, ho, R⟩ := impl_reached c S hz
  refine ⟨!out.any (Man.diff a b), ?_, ?_⟩
  · unfold impl_anyOrder.f Man.anyOrderF
    refine Ev.bind ho ?_
    have hin : ∀ x ∈ out, Man.InR a b x := fun x hx => by
      have h := (R.snd x hx).range S hz
      have st := S.st x h.1 h.2
      have lb := S.lb
      unfold Man.InR
      exact ⟨⟨h.1, h.2, by omega⟩, ⟨st.1.1, by omega⟩, st.2⟩
    simp only [if_pos hin]
    exact Ev.now _
  · rw [Bool.not_eq_true', List.any_eq_false]
    unfold Man.diff
    constructor
    · intro h x hx
      have := h x ((R.full x).2 hx)
      simpa using this
    · intro h x hx
      have := h x ((R.full x).1 hx)
      simpa using this

theorem impl_AnyOrder_eq (a b c : List Int) : ∃ res, Ev (fun k => impl_AnyOrder.f k a b c) res ∧ (res = true ↔ AnyO a b c) := by
  unfold impl_AnyOrder.f
  by_cases h : MachOk a b c
  · obtain ⟨S, hn⟩ := h.steps
    obtain ⟨res, hr, e⟩ := impl_anyOrder_eq c S hn
    refine ⟨res, Ev.bind (impl_isMachine_eq a b c) ?_, ?_⟩
    · rw [decide_eq_true h]
      simp only [if_true]
      exact Ev.bind hr (Ev.now _)
    · rw [e]
      exact ⟨fun h' => ⟨h, h'⟩, fun h' => h'.2⟩
  · refine ⟨false, Ev.bind (impl_isMachine_eq a b c) ?_, ?_⟩
    · rw [decide_eq_false h]
      simp only [Bool.false_eq_true, if_false]
      exact Ev.now _
    · exact ⟨fun h' => absurd h' (by simp), fun h' => absurd h'.1 h⟩

end Go.Proofs.YthodcgkhianecaaDoor.Sem

end
section
/- Rows of triangles, in plain words; no condition. -/
namespace Go.Proofs.YthodcgkhianecaaDoor.Sem
open Go.RowKit Go.Proofs.YthodcgkhianecaaDoor.PA Go.Proofs.YthodcgkhianecaaDoorW.PrintWords Go.Proofs.YthodcgkhianecaaDoorW.PrintLast Go.Proofs.YthodcgkhianecaaDoorW.PrintMore
set_option linter.unusedVariables false
set_option linter.unusedSimpArgs false

theorem triRow_congr {p q : Nat → Nat → Bool} (h : ∀ a s, a ≤ 5 → s ≤ a → p a s = q a s) : Man.triRow p = Man.triRow q := by
  have hp : ∀ i, i ≤ 6 → Man.preT p i = Man.preT q i := by
    intro i
    induction i with
    | zero => intro _; rfl
    | succ i ih =>
      intro hi
      rw [Man.preT_succ, Man.preT_succ, ih (by omega)]
      congr 1
      refine List.map_congr_left (fun s hs => ?_)
      have hs := List.mem_range.1 hs
      unfold Man.ent
      rw [h i s (by omega) (by omega)]
  exact hp 6 (by omega)
theorem triRow_len (p : Nat → Nat → Bool) : (Man.triRow p).length = 21 := rfl
theorem triRow_at (p : Nat → Nat → Bool) (a s : Nat) (ha : a ≤ 5) (hs : s ≤ a) : rd (Man.triRow p) (Man.pl a s) = Man.ent p a s := by
  have h1 : a = 0 ∨ a = 1 ∨ a = 2 ∨ a = 3 ∨ a = 4 ∨ a = 5 := by omega
  have h2 : s = 0 ∨ s = 1 ∨ s = 2 ∨ s = 3 ∨ s = 4 ∨ s = 5 := by omega
  rcases h1 with rfl | rfl | rfl | rfl | rfl | rfl <;> rcases h2 with rfl | rfl | rfl | rfl | rfl | rfl <;> first | rfl | (exfalso; omega)
theorem triRow_bits (p : Nat → Nat → Bool) : ∀ x ∈ Man.triRow p, x = 0 ∨ x = 1 := by
  intro x hx
  unfold Man.triRow Man.preT at hx
  obtain ⟨a, _, hx⟩ := List.mem_flatMap.1 hx
  obtain ⟨s, _, rfl⟩ := List.mem_map.1 hx
  unfold Man.ent
  split
  · exact Or.inr rfl
  · exact Or.inl rfl
theorem ent_one (p : Nat → Nat → Bool) (a s : Nat) : (Man.ent p a s == 1) = p a s := by
  unfold Man.ent
  cases p a s <;> rfl
theorem isTri_from (t : List Int) (hl : t.length = 21) (hb : ∀ x ∈ t, x = 0 ∨ x = 1) (d : Nat) : ∀ i, i + d = t.length → Ev (fun k => impl_isTriangle.l0 k t t (t.length : Int) (i : Int)) true := by
  induction d with
  | zero =>
    intro i hi
    refine Ev.step (f := fun _ => some true) (fun k => ?_) (Ev.now _)
    simp only [impl_isTriangle.l0]
    rw [if_neg (by omega), hl]
    rfl
  | succ d ih =>
    intro i hi
    have hlt : i < t.length := by omega
    have hw : wrap64 ((i : Int) + 1) = ((i + 1 : Nat) : Int) := by unfold wrap64; omega
    refine Ev.step (f := fun k => impl_isTriangle.l0 k t t (t.length : Int) ((i + 1 : Nat) : Int)) (fun k => ?_) (ih (i + 1) (by omega))
    simp only [impl_isTriangle.l0]
    rw [if_pos (by omega), if_pos (by omega), if_pos (by omega), rd_at t i hlt, hw]
    rcases hb t[i] (List.getElem_mem hlt) with e | e
    · rw [if_pos e]
    · rw [if_neg (by omega), if_pos e]
theorem isTri_eq (p : Nat → Nat → Bool) : Ev (fun k => impl_isTriangle.f k (Man.triRow p)) true := by
  unfold impl_isTriangle.f
  exact isTri_from _ (triRow_len p) (triRow_bits p) (Man.triRow p).length 0 (by omega)
theorem sameInts_from (l : List Int) (hl : l.length ≤ 1000) (d : Nat) : ∀ i, i + d = l.length → Ev (fun k => laws_sameInts.l0 k l l (i : Int)) true := by
  induction d with
  | zero =>
    intro i hi
    refine Ev.step (f := fun _ => some true) (fun k => ?_) (Ev.now _)
    simp only [laws_sameInts.l0]
    rw [if_neg (by omega)]
  | succ d ih =>
    intro i hi
    have hw : wrap64 ((i : Int) + 1) = ((i + 1 : Nat) : Int) := by unfold wrap64; omega
    refine Ev.step (f := fun k => laws_sameInts.l0 k l l ((i + 1 : Nat) : Int)) (fun k => ?_) (ih (i + 1) (by omega))
    simp only [laws_sameInts.l0]
    rw [if_pos (by omega), if_pos (by omega), if_pos (by omega), if_true, hw]
theorem sameInts_self (l : List Int) (hl : l.length ≤ 1000) : Ev (fun k => laws_sameInts.f k l l) true := by
  unfold laws_sameInts.f
  simp only [if_true]
  exact sameInts_from l hl l.length 0 (by omega)
end Go.Proofs.YthodcgkhianecaaDoor.Sem

end
section
/- Two machines at once: the states, the texts, the order, in plain words; no condition but that the machine of both is told. -/
namespace Go.Proofs.YthodcgkhianecaaDoor.Sem
open Go.RowKit Go.Proofs.YthodcgkhianecaaDoor.PA Go.Proofs.YthodcgkhianecaaDoorW.PrintWords Go.Proofs.YthodcgkhianecaaDoorW.PrintLast Go.Proofs.YthodcgkhianecaaDoorW.PrintMore
set_option linter.unusedVariables false
set_option linter.unusedSimpArgs false
set_option linter.unusedSectionVars false

theorem seg_at (f : Nat → Nat → Int) (i n j : Nat) (h : j < n) : (seg f i 0 n)[j]? = some (f i j) := by
  unfold seg
  rw [List.getElem?_map, List.getElem?_range' h]
  simp
theorem segs_at (f : Nat → Nat → Int) (m : Nat) (j : Nat) (hj : j < m) (d : Nat) : ∀ (i k : Nat), k < d → (segs f m i d)[k * m + j]? = some (f (i + k) j) := by
  induction d with
  | zero => intro i k hk; omega
  | succ d ih =>
    intro i k hk
    rw [segs_succ]
    cases k with
    | zero =>
      rw [Nat.zero_mul, Nat.zero_add, List.getElem?_append_left (by rw [seg_length]; exact hj)]
      exact seg_at f i m j hj
    | succ k =>
      have e : (k + 1) * m + j = m + (k * m + j) := by rw [Nat.add_mul]; omega
      rw [e, List.getElem?_append_right (by rw [seg_length]; omega), seg_length, Nat.add_sub_cancel_left, ih (i + 1) k (by omega)]
      congr 2
      omega
theorem rd_segs (f : Nat → Nat → Int) (m n : Nat) (x j : Nat) (hx : x < n) (hj : j < m) : rd (segs f m 0 n) ((x * m + j : Nat) : Int) = f x j := by
  unfold rd
  rw [List.getD_eq_getElem?_getD, Int.toNat_natCast, segs_at f m j hj n 0 x hx, Nat.zero_add]
  rfl
section
variable {a0 a1 a2 b0 b1 b2 : List Int} (A : MachOk a0 a1 a2) (B : MachOk b0 b1 b2) (hm : a0.length * b0.length ≤ 12)
/-- A state of both. -/
def pr (b0 : List Int) (x y : Int) : Int := x * (b0.length : Int) + y
include A B hm
theorem pr_nat {x y : Int} (hx : 0 ≤ x ∧ x < a0.length) (hy : 0 ≤ y ∧ y < b0.length) : ∃ i j : Nat, x = i ∧ y = j ∧ i < a0.length ∧ j < b0.length ∧ pr b0 x y = ((i * b0.length + j : Nat) : Int) ∧ i * b0.length + j < a0.length * b0.length := by
  refine ⟨x.toNat, y.toNat, by omega, by omega, by omega, by omega, ?_, ?_⟩
  · unfold pr
    rw [Int.natCast_add, Int.natCast_mul, Int.toNat_of_nonneg hx.1, Int.toNat_of_nonneg hy.1]
  · have h1 : x.toNat + 1 ≤ a0.length := by omega
    have h2 := Nat.mul_le_mul_right b0.length h1
    rw [Nat.add_mul] at h2
    omega
theorem fz_pr (u v : List Int) {i j : Nat} (hu : 0 ≤ rd u i ∧ rd u i < a0.length) (hv : 0 ≤ rd v j ∧ rd v j < b0.length) (hl : v.length = b0.length) : fz u v i j = pr b0 (rd u i) (rd v j) := by
  obtain ⟨p, q, e1, e2, hp, hq, e, hlt⟩ := pr_nat A B hm hu hv
  unfold fz
  rw [hl]
  have h1 : rd u i * (b0.length : Int) = ((p * b0.length : Nat) : Int) := by rw [e1, Int.natCast_mul]
  have h2 : wrap64 (rd u i * (b0.length : Int)) = ((p * b0.length : Nat) : Int) := by rw [h1]; unfold wrap64; omega
  rw [h2, e, e2]
  unfold wrap64
  omega
theorem prod0 {x y : Int} (hx : 0 ≤ x ∧ x < a0.length) (hy : 0 ≤ y ∧ y < b0.length) : rd (segs (fz a0 b0) b0.length 0 a0.length) (pr b0 x y) = pr b0 (rd a0 x) (rd b0 y) := by
  obtain ⟨i, j, rfl, rfl, hi, hj, e, _⟩ := pr_nat A B hm hx hy
  have sa := A.2 i hi
  have sb := B.2 j hj
  rw [e, rd_segs _ _ _ _ _ hi hj]
  exact fz_pr A B hm a0 b0 sa.1 sb.1 rfl
theorem prod1 {x y : Int} (hx : 0 ≤ x ∧ x < a0.length) (hy : 0 ≤ y ∧ y < b0.length) : rd (segs (fz a1 b1) b0.length 0 a0.length) (pr b0 x y) = pr b0 (rd a1 x) (rd b1 y) := by
  obtain ⟨i, j, rfl, rfl, hi, hj, e, _⟩ := pr_nat A B hm hx hy
  have sa := A.2 i hi
  have sb := B.2 j hj
  rw [e, rd_segs _ _ _ _ _ hi hj]
  exact fz_pr A B hm a1 b1 sa.2.1 sb.2.1 B.1.2.2.1
theorem prod2 {x y : Int} (hx : 0 ≤ x ∧ x < a0.length) (hy : 0 ≤ y ∧ y < b0.length) : rd (segs (fy a2 b2) b0.length 0 a0.length) (pr b0 x y) = if rd a2 x = 1 ∧ rd b2 y = 1 then 1 else 0 := by
  obtain ⟨i, j, rfl, rfl, hi, hj, e, _⟩ := pr_nat A B hm hx hy
  have sa := (A.2 i hi).2.2
  have sb := (B.2 j hj).2.2
  rw [e, rd_segs _ _ _ _ _ hi hj]
  unfold fy
  have h1 : rd a2 i = 0 ∨ rd a2 i = 1 := by omega
  have h2 : rd b2 j = 0 ∨ rd b2 j = 1 := by omega
  rcases h1 with h1 | h1 <;> rcases h2 with h2 | h2 <;> rw [h1, h2] <;> first | rfl | simp [wrap64]
theorem pr_range {x y : Int} (hx : 0 ≤ x ∧ x < a0.length) (hy : 0 ≤ y ∧ y < b0.length) : 0 ≤ pr b0 x y ∧ pr b0 x y < ((a0.length * b0.length : Nat) : Int) := by
  obtain ⟨i, j, rfl, rfl, hi, hj, e, h⟩ := pr_nat A B hm hx hy
  rw [e]
  omega
theorem step_a {x : Int} (hx : 0 ≤ x ∧ x < a0.length) : (0 ≤ rd a0 x ∧ rd a0 x < a0.length) ∧ (0 ≤ rd a1 x ∧ rd a1 x < a0.length) := by
  have := A.2 x.toNat (by omega)
  unfold StOk at this
  rw [Int.toNat_of_nonneg hx.1] at this
  exact ⟨this.1, this.2.1⟩
theorem step_b {x : Int} (hx : 0 ≤ x ∧ x < b0.length) : (0 ≤ rd b0 x ∧ rd b0 x < b0.length) ∧ (0 ≤ rd b1 x ∧ rd b1 x < b0.length) := by
  have := B.2 x.toNat (by omega)
  unfold StOk at this
  rw [Int.toNat_of_nonneg hx.1] at this
  exact ⟨this.1, this.2.1⟩
/-- The machine of both is one. -/
theorem prod_ok : MachOk (segs (fz a0 b0) b0.length 0 a0.length) (segs (fz a1 b1) b0.length 0 a0.length) (segs (fy a2 b2) b0.length 0 a0.length) := by
  have ha := A.1
  have hb := B.1
  have h1 : 1 ≤ a0.length * b0.length := Nat.mul_pos ha.1 hb.1
  unfold MachOk
  simp only [segs_length]
  refine ⟨⟨h1, hm, trivial, trivial⟩, fun k hk => ?_⟩
  have hq : k / b0.length < a0.length := (Nat.div_lt_iff_lt_mul hb.1).2 hk
  have hr : k % b0.length < b0.length := Nat.mod_lt _ hb.1
  have hk2 : (k : Int) = pr b0 ((k / b0.length : Nat) : Int) ((k % b0.length : Nat) : Int) := by
    unfold pr
    rw [← Int.natCast_mul, ← Int.natCast_add, Nat.mul_comm, Nat.div_add_mod]
  have hx : (0 : Int) ≤ ((k / b0.length : Nat) : Int) ∧ ((k / b0.length : Nat) : Int) < a0.length := ⟨Int.natCast_nonneg _, Int.ofNat_lt.2 hq⟩
  have hy : (0 : Int) ≤ ((k % b0.length : Nat) : Int) ∧ ((k % b0.length : Nat) : Int) < b0.length := ⟨Int.natCast_nonneg _, Int.ofNat_lt.2 hr⟩
  have sa := step_a A B hm hx
  have sb := step_b A B hm hy
  unfold StOk
  simp only [segs_length]
  rw [hk2, prod0 A B hm hx hy, prod1 A B hm hx hy, prod2 A B hm hx hy]
  refine ⟨pr_range A B hm sa.1 sb.1, pr_range A B hm sa.2 sb.2, ?_⟩
  split <;> omega
theorem prod_state : ∀ (l : List UInt8) (x y : Int), (0 ≤ x ∧ x < a0.length) → (0 ≤ y ∧ y < b0.length) →
    stateOf (segs (fz a0 b0) b0.length 0 a0.length) (segs (fz a1 b1) b0.length 0 a0.length) l (pr b0 x y) = pr b0 (stateOf a0 a1 l x) (stateOf b0 b1 l y)
  | [], _, _, _, _ => rfl
  | z :: l, x, y, hx, hy => by
    have sa := step_a A B hm hx
    have sb := step_b A B hm hy
    show stateOf _ _ l (if z = 48 then _ else _) = pr b0 (stateOf a0 a1 l (if z = 48 then _ else _)) (stateOf b0 b1 l (if z = 48 then _ else _))
    by_cases hz : z = 48
    · rw [if_pos hz, if_pos hz, if_pos hz, prod0 A B hm hx hy]
      exact prod_state l _ _ sa.1 sb.1
    · rw [if_neg hz, if_neg hz, if_neg hz, prod1 A B hm hx hy]
      exact prod_state l _ _ sa.2 sb.2
theorem prod_zero : (0 : Int) = pr b0 0 0 := by unfold pr; omega
/-- What is reached by both is of reached ones. -/
theorem prod_reach {z : Int} (h : Rch (segs (fz a0 b0) b0.length 0 a0.length) (segs (fz a1 b1) b0.length 0 a0.length) 0 z) : ∃ x y, z = pr b0 x y ∧ Rch a0 a1 0 x ∧ Rch b0 b1 0 y ∧ (0 ≤ x ∧ x < a0.length) ∧ (0 ≤ y ∧ y < b0.length) := by
  have ha := A.1
  have hb := B.1
  induction h with
  | here => exact ⟨0, 0, prod_zero A B hm, .here, .here, by omega, by omega⟩
  | zero _ ih =>
    obtain ⟨x, y, rfl, rx, ry, hx, hy⟩ := ih
    exact ⟨_, _, prod0 A B hm hx hy, rx.zero, ry.zero, (step_a A B hm hx).1, (step_b A B hm hy).1⟩
  | one _ ih =>
    obtain ⟨x, y, rfl, rx, ry, hx, hy⟩ := ih
    exact ⟨_, _, prod1 A B hm hx hy, rx.one, ry.one, (step_a A B hm hx).2, (step_b A B hm hy).2⟩
/-- If order does not matter for both, it does not for the machine of both. -/
theorem prod_any (ha : AnyO a0 a1 a2) (hb : AnyO b0 b1 b2) : AnyO (segs (fz a0 b0) b0.length 0 a0.length) (segs (fz a1 b1) b0.length 0 a0.length) (segs (fy a2 b2) b0.length 0 a0.length) := by
  refine ⟨prod_ok A B hm, fun z hz => ?_⟩
  obtain ⟨x, y, rfl, rx, ry, hx, hy⟩ := prod_reach A B hm hz
  have sa := step_a A B hm hx
  have sb := step_b A B hm hy
  rw [prod0 A B hm hx hy, prod1 A B hm hx hy, prod1 A B hm sa.1 sb.1, prod0 A B hm sa.2 sb.2, ha.2 x rx, hb.2 y ry]
/-- Both says yes exactly if both do. -/
theorem prod_yes (l : List UInt8) : (rd (segs (fy a2 b2) b0.length 0 a0.length) (stateOf (segs (fz a0 b0) b0.length 0 a0.length) (segs (fz a1 b1) b0.length 0 a0.length) l 0) == 1) = ((rd a2 (stateOf a0 a1 l 0) == 1) && (rd b2 (stateOf b0 b1 l 0) == 1)) := by
  have ha := A.1
  have hb := B.1
  have e := prod_state A B hm l 0 0 ⟨by omega, by omega⟩ ⟨by omega, by omega⟩
  rw [← prod_zero A B hm] at e
  have sa := state_range A l 0 (by omega) (by omega)
  have sb := state_range B l 0 (by omega) (by omega)
  rw [e, prod2 A B hm sa sb]
  by_cases h1 : rd a2 (stateOf a0 a1 l 0) = 1
  · by_cases h2 : rd b2 (stateOf b0 b1 l 0) = 1
    · rw [if_pos ⟨h1, h2⟩, h1, h2]; rfl
    · rw [if_neg (fun h => h2 h.2), h1]
      simp [h2]
  · rw [if_neg (fun h => h1 h.1)]
    simp [h1]
end
end Go.Proofs.YthodcgkhianecaaDoor.Sem

end
