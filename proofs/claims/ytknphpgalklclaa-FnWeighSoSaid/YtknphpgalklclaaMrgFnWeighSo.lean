/- FnWeighSo: the plain law and what it stands on, in one text. -/
import Derived.Test.YtknphpgalklclaaManCounts
import Derived.KernelRfl
import Derived.OpenShut
import Derived.Laws.BitsLemmas
import Derived.Test.YtknphpgalklclaaPAx2
import Derived.Test.YtknphpgalklclaaPAx27
import Derived.Test.YtknphpgalklclaaPAx28
import Derived.Test.YtknphpgalklclaaPAx30
import Derived.Test.YtknphpgalklclaaPAx9
import Derived.Test.YtknphpgalklclaaPAx32
import Derived.Test.YtknphpgalklclaaPAx22
import Derived.Test.YtknphpgalklclaaPAx8
import Derived.Test.YtknphpgalklclaaPAx4
import Derived.Test.YtknphpgalklclaaPAx5
import Derived.Test.YtknphpgalklclaaPAx34
import Derived.Test.YtknphpgalklclaaPAx10
import Derived.Test.YtknphpgalklclaaPAx11
import Derived.Test.YtknphpgalklclaaPAx12
import Derived.Test.YtknphpgalklclaaPAx23
import Derived.Test.YtknphpgalklclaaPAx39
import Derived.Test.YtknphpgalklclaaPAx40
import Derived.Test.YtknphpgalklclaaPAx47
import Derived.Test.YtknphpgalklclaaPAx41
import Derived.Test.YtknphpgalklclaaPAx49
import Derived.Test.YtknphpgalklclaaPAx50
import Derived.Test.YtknphpgalklclaaPAx45
import Derived.Test.YtknphpgalklclaaPAx51
section
/- Small words on numbers and rounds; no condition but the bounds that they name. -/
namespace Go.Proofs.Ytknphpgalklclaa.Sem
open Go.RowKit Go.Proofs.Ytknphpgalklclaa.PA Go.Proofs.YtknphpgalklclaaW.PrintWords Go.Proofs.YtknphpgalklclaaW.PrintLast Go.Proofs.YtknphpgalklclaaW.PrintMore
set_option linter.unusedVariables false
set_option linter.unusedSimpArgs false

theorem w64 {n : Int} (h : -9223372036854775808 ≤ n) (h' : n ≤ 9223372036854775807) : wrap64 n = n := by unfold wrap64; omega

theorem ev1 {α : Type} {g : Nat → Option α} {x : α} (h : ∀ k, g (k + 1) = some x) : Ev g x := ⟨1, fun k hk => by
  obtain ⟨j, rfl⟩ : ∃ j, k = j + 1 := ⟨k - 1, by omega⟩
  exact h j⟩

theorem l1In_eq (n a b : Int) : spec_l1In.f n a b = some (decide (a ≤ n ∧ n ≤ b)) := by
  unfold spec_l1In.f
  by_cases h : n ≥ a
  · rw [if_pos h]; simp; omega
  · rw [if_neg h]; simp; omega
end Go.Proofs.Ytknphpgalklclaa.Sem

end
section
/- The reader of draws: each draw comes to an end, and answers a number in its range; no condition but the reader's own shape. -/
namespace Go.Proofs.Ytknphpgalklclaa.Sem
open Go.RowKit Go.Proofs.Ytknphpgalklclaa.PA Go.Proofs.YtknphpgalklclaaW.PrintWords Go.Proofs.YtknphpgalklclaaW.PrintLast Go.Proofs.YtknphpgalklclaaW.PrintMore
set_option linter.unusedVariables false
set_option linter.unusedSimpArgs false

theorem xor_nonneg {a b : Int} (ha : 0 ≤ a) (ha' : a < 1099511627776) (hb : 0 ≤ b) (hb' : b < 1099511627776) : 0 ≤ Go.bits .xor .i64 a b ∧ Go.bits .xor .i64 a b < 1099511627776 := by
  obtain ⟨x, rfl⟩ := Int.eq_ofNat_of_zero_le ha
  obtain ⟨y, rfl⟩ := Int.eq_ofNat_of_zero_le hb
  have hx : x < 2 ^ 40 := by omega
  have hy : y < 2 ^ 40 := by omega
  have h := Nat.xor_lt_two_pow hx hy
  have e : Go.bits .xor .i64 (x : Int) (y : Int) = ((x ^^^ y : Nat) : Int) := by
    have h1 : x % 2 ^ 64 = x := Nat.mod_eq_of_lt (by omega)
    have h2 : y % 2 ^ 64 = y := Nat.mod_eq_of_lt (by omega)
    have e0 : (BitVec.ofNat 64 x ^^^ BitVec.ofNat 64 y).toNat = x ^^^ y := by rw [BitVec.toNat_xor, BitVec.toNat_ofNat, BitVec.toNat_ofNat, h1, h2]
    simp only [Go.bits, BitVec.ofInt_natCast]
    show IntKind.i64.wrap (((BitVec.ofNat 64 x ^^^ BitVec.ofNat 64 y).toNat : Nat) : Int) = _
    rw [e0, IntKind.wrap_i64]
    omega
  rw [e]
  omega

/-- A reader of draws: its bytes, its place, a bound on the place. -/
structure Rd (b : List Int) (p : Int) (m : Int) : Prop where
  bytes : ∀ x ∈ b, 0 ≤ x ∧ x ≤ 255
  len : b.length ≤ 2000
  lo : 0 ≤ p
  hi : p ≤ m
  most : m ≤ 1000000

theorem rd_byte {b : List Int} (h : ∀ x ∈ b, 0 ≤ x ∧ x ≤ 255) (i : Int) : 0 ≤ rd b i ∧ rd b i ≤ 255 := by
  unfold rd
  rw [List.getD_eq_getElem?_getD]
  cases e : b[i.toNat]? with
  | none => simp
  | some x => simpa using h x (List.mem_of_getElem? e)

theorem pick_ok {b : List Int} {p m : Int} (h : Rd b p m) (hm : m + 1 ≤ 1000000) (n : Int) (hn : n ≤ 1000000) :
    ∃ r, (∀ k, spec_l20Rd_pick.f (k + 1) b p n = some (r, p + 1)) ∧ 0 ≤ r ∧ (1 ≤ n → r < n) ∧ (n < 1 → r = 0) ∧ Rd b (p + 1) (m + 1) := by
  have hR : Rd b (p + 1) (m + 1) := ⟨h.bytes, h.len, by have := h.lo; omega, by have := h.hi; omega, hm⟩
  have h0 := h.lo
  have h1 := h.hi
  have hl := h.len
  unfold spec_l20Rd_pick.f
  rw [w64 (n := p + 1) (by omega) (by omega)]
  by_cases hn1 : n < 1
  · refine ⟨0, fun k => ?_, by omega, fun h => by omega, fun _ => rfl, hR⟩
    rw [if_pos hn1]
    simp [spec_l20Rd_pick.j0]
  · simp only [if_neg hn1]
    by_cases hb : (b.length : Int) = 0
    · refine ⟨0, fun k => ?_, by omega, fun h => by omega, fun h => rfl, hR⟩
      simp [spec_l20Rd_pick.j0, hb]
    · have hb' : ((b.length : Int) == 0) = false := by simpa using hb
      rw [hb']
      simp only [spec_l20Rd_pick.j0, Bool.false_eq_true, if_false]
      rw [w64 (n := p + 1 - 1) (by omega) (by omega), show p + 1 - 1 = p by omega]
      by_cases hp : p < (b.length : Int)
      · have hx := rd_byte h.bytes p
        have e : wrap64 (rd b p) = rd b p := w64 (by omega) (by omega)
        refine ⟨Int.tmod (rd b p) n, fun k => ?_, Int.tmod_nonneg _ hx.1, fun _ => Int.tmod_lt_of_pos _ (by omega), fun h => by omega, hR⟩
        rw [if_pos hp, if_pos h0, if_neg (by omega), e]
      · simp only [if_neg hp, if_neg hb]
        have hlp : 0 < (b.length : Int) := by omega
        have t1 : 0 ≤ Int.tmod p (b.length : Int) := Int.tmod_nonneg _ h0
        have t2 : Int.tmod p (b.length : Int) < (b.length : Int) := Int.tmod_lt_of_pos _ hlp
        rw [w64 (n := p * 7) (by omega) (by omega), w64 (n := p * 7 + 3) (by omega) (by omega)]
        have t3 : 0 ≤ Int.tmod (p * 7 + 3) (b.length : Int) := Int.tmod_nonneg _ (by omega)
        have t4 : Int.tmod (p * 7 + 3) (b.length : Int) < (b.length : Int) := Int.tmod_lt_of_pos _ hlp
        simp only [if_pos t1, if_pos t2, if_pos t3, if_pos t4, if_neg (show ¬ n = 0 by omega)]
        have hx := rd_byte h.bytes (Int.tmod p (b.length : Int))
        have hy := rd_byte h.bytes (Int.tmod (p * 7 + 3) (b.length : Int))
        have hq : 0 ≤ Int.tdiv p (b.length : Int) ∧ Int.tdiv p (b.length : Int) ≤ p := by
          rw [Int.tdiv_eq_ediv_of_nonneg h0]
          exact ⟨Int.ediv_nonneg h0 (by omega), Int.ediv_le_self _ h0⟩
        generalize rd b (Int.tmod p (b.length : Int)) = x at hx ⊢
        generalize rd b (Int.tmod (p * 7 + 3) (b.length : Int)) = y at hy ⊢
        generalize Int.tdiv p (b.length : Int) = q at hq ⊢
        rw [w64 (n := x) (by omega) (by omega), w64 (n := y) (by omega) (by omega), w64 (n := x * 131) (by omega) (by omega), w64 (n := y * 1117) (by omega) (by omega),
          w64 (n := x * 131 + y * 1117) (by omega) (by omega), w64 (n := p * 29) (by omega) (by omega), w64 (n := x * 131 + y * 1117 + p * 29) (by omega) (by omega),
          w64 (n := q) (by omega) (by omega), w64 (n := q * 53) (by omega) (by omega), w64 (n := x * 131 + y * 1117 + p * 29 + q * 53) (by omega) (by omega)]
        have hX : 0 ≤ x * 131 + y * 1117 + p * 29 + q * 53 ∧ x * 131 + y * 1117 + p * 29 + q * 53 ≤ 1000000000 := by omega
        generalize x * 131 + y * 1117 + p * 29 + q * 53 = X at hX ⊢
        have hd : 0 ≤ Int.tdiv X 64 ∧ Int.tdiv X 64 ≤ X := by
          rw [Int.tdiv_eq_ediv_of_nonneg hX.1]
          omega
        rw [w64 (n := Int.tdiv X 64) (by omega) (by omega)]
        have hz := xor_nonneg (a := X) (b := Int.tdiv X 64) hX.1 (by omega) hd.1 (by omega)
        exact ⟨_, fun k => rfl, Int.tmod_nonneg _ hz.1, fun _ => Int.tmod_lt_of_pos _ (by omega), fun h => by omega, hR⟩

theorem odd_ok {b : List Int} {p m : Int} (h : Rd b p m) (hm : m + 1 ≤ 1000000) (n : Int) (hn : n ≤ 1000000) :
    ∃ r p', (∀ k, spec_l20Rd_odd.f (k + 1) b p n = some (r, p')) ∧ Rd b p' (m + 1) := by
  unfold spec_l20Rd_odd.f
  by_cases h0 : n > 0
  · obtain ⟨r, hr, _, _, _, hR⟩ := pick_ok h hm n hn
    refine ⟨r == n - 1, p + 1, fun k => ?_, hR⟩
    rw [if_pos h0, hr k, Option.bind_some, w64 (n := n - 1) (by omega) (by omega)]
  · exact ⟨false, p, fun k => by rw [if_neg h0], ⟨h.bytes, h.len, h.lo, by have := h.hi; omega, hm⟩⟩

theorem open_ok {l : List Int} (w : ∀ x ∈ l, (Lit.int .u8 x).wf = true) : ∃ b, spec_l20Open.f l = some (b, 0) ∧ Rd b 0 0 := by
  have hb : ∀ x ∈ l, 0 ≤ x ∧ x ≤ 255 := fun x hx => by
    exact bounds_u8 (w x hx)
  unfold spec_l20Open.f
  by_cases h : (l.length : Int) > 2000
  · refine ⟨l.take 2000, by rw [if_pos h, if_pos (by omega)], fun x hx => hb x (List.mem_of_mem_take hx), ?_, by omega, by omega, by omega⟩
    rw [List.length_take]; omega
  · exact ⟨l, by rw [if_neg h], hb, by omega, by omega, by omega, by omega⟩

theorem Rd.more {b : List Int} {p m m' : Int} (h : Rd b p m) (hm : m ≤ m') (hm' : m' ≤ 1000000) : Rd b p m' := ⟨h.bytes, h.len, h.lo, by have := h.hi; omega, hm'⟩

theorem alive_ok : laws_alive.f = some true := by
  kernel_rfl

end Go.Proofs.Ytknphpgalklclaa.Sem

end
section
/- Sentences that compare numbers, and their contraries, in plain words; no condition. -/
namespace Go.Proofs.Ytknphpgalklclaa.Sem
open Go.RowKit Go.Proofs.Ytknphpgalklclaa.PA Go.Proofs.YtknphpgalklclaaW.PrintWords Go.Proofs.YtknphpgalklclaaW.PrintLast Go.Proofs.YtknphpgalklclaaW.PrintMore
set_option linter.unusedVariables false
set_option linter.unusedSimpArgs false

def OkWeigh (f o t : Int) : Prop := 0 ≤ f ∧ f ≤ 5 ∧ 0 ≤ o ∧ o ≤ 3 ∧ 0 ≤ t ∧ t ≤ 3
instance (f o t : Int) : Decidable (OkWeigh f o t) := by unfold OkWeigh; infer_instance

theorem toSay_eq (f o t : Int) : laws_toSay.f f o t = some (f, o, t) := rfl

theorem spec_WeighOk_eq (f o t : Int) : spec_WeighOk.f f o t = some (decide (OkWeigh f o t)) := by
  unfold spec_WeighOk.f OkWeigh
  simp only [l1In_eq, Option.bind_some, decide_eq_true_eq]
  by_cases h1 : 0 ≤ f ∧ f ≤ 5
  · rw [if_pos h1]
    by_cases h2 : 0 ≤ o ∧ o ≤ 3
    · rw [if_pos h2]; exact congrArg some (decide_eq_decide.mpr (by omega))
    · rw [if_neg h2]; exact congrArg some (decide_eq_false (by omega)).symm
  · rw [if_neg h1]; exact congrArg some (decide_eq_false (by omega)).symm

theorem impl_isWeigh_eq (f o t : Int) : impl_isWeigh.f f o t = some (decide (OkWeigh f o t)) := by
  unfold impl_isWeigh.f OkWeigh
  by_cases h1 : f ≥ 0
  · rw [if_pos h1]
    by_cases h2 : f ≤ 5
    · rw [if_pos h2]
      by_cases h3 : o ≥ 0
      · rw [if_pos h3]
        by_cases h4 : o ≤ 3
        · rw [if_pos h4]
          by_cases h5 : t ≥ 0
          · rw [if_pos h5]; exact congrArg some (decide_eq_decide.mpr (by omega))
          · rw [if_neg h5]; exact congrArg some (decide_eq_false (by omega)).symm
        · rw [if_neg h4]; exact congrArg some (decide_eq_false (by omega)).symm
      · rw [if_neg h3]; exact congrArg some (decide_eq_false (by omega)).symm
    · rw [if_neg h2]; exact congrArg some (decide_eq_false (by omega)).symm
  · rw [if_neg h1]; exact congrArg some (decide_eq_false (by omega)).symm

theorem impl_WeighOk_eq (f o t : Int) : impl_WeighOk.f f o t = some (decide (OkWeigh f o t)) := by
  unfold impl_WeighOk.f
  rw [impl_isWeigh_eq]; rfl

theorem weigh_nat {f o t : Int} (h : OkWeigh f o t) : ∃ f' o' t' : Nat, f = f' ∧ o = o' ∧ t = t' ∧ f' < 6 ∧ o' < 4 ∧ t' < 4 := by
  unfold OkWeigh at h
  exact ⟨f.toNat, o.toNat, t.toNat, by omega, by omega, by omega, by omega, by omega, by omega⟩

/-- The contrary of a sentence that is allowed. -/
def conB (f o t : Nat) : Int × Int × Int :=
  if f = 0 then (1, o, (t + 1 - 2 * (t % 2) : Nat)) else if f = 1 then (0, o, (t + 1 - 2 * (t % 2) : Nat)) else if f = 2 then (3, t, o) else if f = 3 then (2, t, o) else if f = 4 then (5, o, t) else (4, o, t)

theorem spec_con_all : ((List.range 6).all fun f => (List.range 4).all fun o => (List.range 4).all fun t => decide (spec_ContraryOf.f 2 f o t = some (conB f o t))) = true := by kernel_rfl
theorem impl_con_all : ((List.range 6).all fun f => (List.range 4).all fun o => (List.range 4).all fun t => decide (impl_contraryOf.f f o t = some (conB f o t))) = true := by kernel_rfl
theorem spec_con (f o t : Nat) (hf : f < 6) (ho : o < 4) (ht : t < 4) : spec_ContraryOf.f 2 f o t = some (conB f o t) :=
  of_decide_eq_true (List.all_eq_true.1 (List.all_eq_true.1 (List.all_eq_true.1 spec_con_all f (List.mem_range.2 hf)) o (List.mem_range.2 ho)) t (List.mem_range.2 ht))
theorem impl_con (f o t : Nat) (hf : f < 6) (ho : o < 4) (ht : t < 4) : impl_contraryOf.f f o t = some (conB f o t) :=
  of_decide_eq_true (List.all_eq_true.1 (List.all_eq_true.1 (List.all_eq_true.1 impl_con_all f (List.mem_range.2 hf)) o (List.mem_range.2 ho)) t (List.mem_range.2 ht))

theorem contrary_both (f o t : Int) : ∃ x : Int × Int × Int, Ev (fun k => spec_ContraryOf.f k f o t) x ∧ impl_ContraryOf.f f o t = some x := by
  by_cases h : OkWeigh f o t
  · obtain ⟨f', o', t', rfl, rfl, rfl, hf, ho, ht⟩ := weigh_nat h
    refine ⟨conB f' o' t', Ev.of (fun k => spec_ContraryOf.mono _ _ _ k) (spec_con f' o' t' hf ho ht), ?_⟩
    unfold impl_ContraryOf.f
    rw [impl_isWeigh_eq, decide_eq_true h]
    simp only [Option.bind_some, if_true]
    rw [impl_con f' o' t' hf ho ht]
    rfl
  · refine ⟨(0, 0, 0), ?_, ?_⟩
    · unfold spec_ContraryOf.f
      rw [spec_WeighOk_eq, decide_eq_false h]
      exact Ev.now _
    · unfold impl_ContraryOf.f
      rw [impl_isWeigh_eq, decide_eq_false h]
      rfl

end Go.Proofs.Ytknphpgalklclaa.Sem

end
section
/- Rows of numbers: copied, compared, allowed; in plain words; no condition but a row's length. -/
namespace Go.Proofs.Ytknphpgalklclaa.Sem
open Go.RowKit Go.Proofs.Ytknphpgalklclaa.PA Go.Proofs.YtknphpgalklclaaW.PrintWords Go.Proofs.YtknphpgalklclaaW.PrintLast Go.Proofs.YtknphpgalklclaaW.PrintMore
set_option linter.unusedVariables false
set_option linter.unusedSimpArgs false

theorem set_mid {α : Type} (p : List α) (z v : α) (r : List α) (i : Nat) (h : p.length = i) : (p ++ z :: r).set i v = p ++ v :: r := by
  subst h
  rw [List.set_append, if_neg (by omega), Nat.sub_self]
  rfl
theorem rd_at (l : List Int) (i : Nat) (h : i < l.length) : rd l (i : Int) = l[i] := by
  unfold rd
  rw [List.getD_eq_getElem?_getD, Int.toNat_natCast, List.getElem?_eq_getElem h]
  rfl

theorem toIntS_from (l : List Int) (hl : l.length ≤ 1048576) (n : Nat) : ∀ i, i + n = l.length →
    Ev (fun k => laws_toIntS.l0 k l (l.take i ++ List.replicate n 0) (i : Int)) l := by
  induction n with
  | zero =>
    intro i hi
    refine Ev.step (f := fun _ => some l) (fun k => ?_) (Ev.now _)
    simp only [laws_toIntS.l0]
    rw [if_neg (by omega), List.take_of_length_le (by omega), List.replicate_zero, List.append_nil]
  | succ n ih =>
    intro i hi
    have ih := ih (i + 1) (by omega)
    have hlt : i < l.length := by omega
    have hw : wrap64 ((i : Int) + 1) = ((i + 1 : Nat) : Int) := by unfold wrap64; omega
    have hlen : (l.take i).length = i := by rw [List.length_take]; omega
    have hnew : (l.take i ++ List.replicate (n + 1) 0).set i l[i] = l.take (i + 1) ++ List.replicate n 0 := by
      rw [List.replicate_succ, set_mid _ _ _ _ _ hlen, List.take_succ_eq_append_getElem hlt, List.append_assoc]
      rfl
    refine Ev.step (f := fun k => laws_toIntS.l0 k l (l.take (i + 1) ++ List.replicate n 0) ((i + 1 : Nat) : Int)) (fun k => ?_) ih
    simp only [laws_toIntS.l0]
    rw [if_pos (by omega), if_pos (by omega), if_pos (by rw [List.length_append, hlen, List.length_replicate]; omega), rd_at l i hlt, hw, Int.toNat_natCast, hnew]

theorem toIntS_eq (l : List Int) (hl : l.length ≤ 1048576) : Ev (fun k => laws_toIntS.f k l) l := by
  unfold laws_toIntS.f
  simp only [if_pos (show (0 : Int) ≤ (l.length : Int) by omega), Int.toNat_natCast, if_pos (show l.length ≤ 35184372088832 by omega)]
  exact toIntS_from l hl l.length 0 (by omega)



theorem countsSpec_from (l : List Int) (hl : l.length ≤ 1048577) (n : Nat) : ∀ i, i + n = l.length →
    Ev (fun k => spec_CountsOk.l0 k l (i : Int)) ((l.drop i).all Man.cntB && decide (l.length = 4)) := by
  induction n with
  | zero =>
    intro i hi
    rw [List.drop_of_length_le (by omega)]
    refine Ev.step (f := fun _ => some (decide (l.length = 4))) (fun k => ?_) ?_
    · simp only [spec_CountsOk.l0]
      rw [if_neg (by omega)]
      congr 1
      rw [Bool.eq_iff_iff]
      simp
      omega
    · simp only [List.all_nil, Bool.true_and]
      exact Ev.now _
  | succ n ih =>
    intro i hi
    have hlt : i < l.length := by omega
    have hw : wrap64 ((i : Int) + 1) = ((i + 1 : Nat) : Int) := by unfold wrap64; omega
    rw [List.drop_eq_getElem_cons hlt, List.all_cons]
    refine Ev.step (f := fun k => if Man.cntB l[i] = true then spec_CountsOk.l0 k l ((i + 1 : Nat) : Int) else some false) (fun k => ?_) ?_
    · simp only [spec_CountsOk.l0]
      rw [if_pos (by omega), if_pos (by omega), rd_at l i hlt, l1In_eq, Option.bind_some, hw]
      rfl
    · cases Man.cntB l[i] with
      | true => simp only [if_true, Bool.true_and]; exact ih (i + 1) (by omega)
      | false => simp only [Bool.false_eq_true, if_false, Bool.false_and]; exact Ev.now _

theorem spec_CountsOk_eq (l : List Int) (hl : l.length ≤ 1048577) : Ev (fun k => spec_CountsOk.f k l) (Man.countsB l) := by
  have h := countsSpec_from l hl l.length 0 (by omega)
  have e : Man.countsB l = ((l.drop 0).all Man.cntB && decide (l.length = 4)) := by
    unfold Man.countsB
    rw [List.drop_zero, Bool.and_comm]
  rw [e]
  exact h

end Go.Proofs.Ytknphpgalklclaa.Sem

end
section
/- Draws of numbers and of sentences that compare them: each comes to an end; no condition but the reader's own shape. -/
namespace Go.Proofs.Ytknphpgalklclaa.Sem
open Go.RowKit Go.Proofs.Ytknphpgalklclaa.PA Go.Proofs.YtknphpgalklclaaW.PrintWords Go.Proofs.YtknphpgalklclaaW.PrintLast Go.Proofs.YtknphpgalklclaaW.PrintMore
set_option linter.unusedVariables false
set_option linter.unusedSimpArgs false

theorem l20Weigh_ok {b : List Int} {p m : Int} (h : Rd b p m) (hm : m + 6 ≤ 1000000) (n : Int) (hn : n ≤ 1000000) :
    ∃ f o t p', Ev (fun k => spec_l20Weigh.f k b p n) (f, o, t, p') ∧ Rd b p' (m + 5) := by
  unfold spec_l20Weigh.f
  obtain ⟨r1, e1, _, _, _, h1⟩ := pick_ok h (by omega) 6 (by omega)
  obtain ⟨r2, e2, _, _, _, h2⟩ := pick_ok h1 (by omega) 4 (by omega)
  obtain ⟨r3, e3, _, _, _, h3⟩ := pick_ok h2 (by omega) 4 (by omega)
  obtain ⟨r4, p4, e4, h4⟩ := odd_ok h3 (by omega) n hn
  obtain ⟨r5, e5, _, _, _, h5⟩ := pick_ok h4 (by omega) 3 (by omega)
  cases r4 with
  | false => exact ⟨r1, r2, r3, p4, ev1 (fun k => by simp only [e1 k, e2 k, e3 k, e4 k, Option.bind_some, Bool.false_eq_true, if_false]), h4.more (by omega) (by omega)⟩
  | true =>
    by_cases c0 : r5 = 0
    · exact ⟨6, r2, r3, p4 + 1, ev1 (fun k => by simp only [e1 k, e2 k, e3 k, e4 k, e5 k, Option.bind_some, if_true, if_pos c0]), h5.more (by omega) (by omega)⟩
    · by_cases c1 : r5 = 1
      · exact ⟨r1, 4, r3, p4 + 1, ev1 (fun k => by simp only [e1 k, e2 k, e3 k, e4 k, e5 k, Option.bind_some, if_true, if_neg c0, if_pos c1]), h5.more (by omega) (by omega)⟩
      · exact ⟨r1, r2, -1, p4 + 1, ev1 (fun k => by simp only [e1 k, e2 k, e3 k, e4 k, e5 k, Option.bind_some, if_true, if_neg c0, if_neg c1]), h5.more (by omega) (by omega)⟩

theorem l20Counts_from (n : Int) (hn : n ≤ 1000) (b : List Int) (j : Nat) : ∀ (l : List Int) (p m : Int), Rd b p m → m + 3 * j + 2 ≤ 1000000 → l.length + j = 4 → (∀ x ∈ l, -1 ≤ x ∧ x ≤ 9) →
    ∃ l' p', Ev (fun q => spec_l20Counts.l0 q n l ((4 - j : Nat) : Int) b p) (l', p') ∧ Rd b p' (m + 3 * j + 2) ∧ l'.length ≤ 5 ∧ (∀ x ∈ l', -1 ≤ x ∧ x ≤ 9) := by
  induction j with
  | zero =>
    intro l p m h hm hl hx
    obtain ⟨r, p', e, h'⟩ := odd_ok h (by omega) n (by omega)
    have start : ∀ y, Ev (fun q => if r = true then ((spec_l20Rd_pick.f q b p' 2).bind fun bt533 => (if bt533.1 = 0 then (if l.length < 17592186044416 then (some ((l ++ [0]), bt533.2)) else (none)) else (if 0 < (l.length : Int) then (some ((l.set (0 : Int).toNat (-1)), bt533.2)) else (none)))) else (some (l, p'))) y → Ev (fun q => spec_l20Counts.l0 q n l ((4 - 0 : Nat) : Int) b p) y := by
      intro y hy
      refine Ev.step (f := fun q => (spec_l20Rd_odd.f q b p n).bind fun bt531 => (if bt531.1 = true then ((spec_l20Rd_pick.f q b bt531.2 2).bind fun bt533 => (if bt533.1 = 0 then (if l.length < 17592186044416 then (some ((l ++ [0]), bt533.2)) else (none)) else (if 0 < (l.length : Int) then (some ((l.set (0 : Int).toNat (-1)), bt533.2)) else (none)))) else (some (l, bt531.2)))) (fun q => ?_) (Ev.bind (ev1 e) hy)
      simp only [spec_l20Counts.l0]
      rw [if_neg (by omega)]
    cases r with
    | false =>
      refine ⟨l, p', start _ ?_, h'.more (by omega) (by omega), by omega, hx⟩
      simp only [Bool.false_eq_true, if_false]
      exact Ev.now _
    | true =>
      obtain ⟨r2, e2, _, _, _, h2⟩ := pick_ok h' (by omega) 2 (by omega)
      by_cases c0 : r2 = 0
      · refine ⟨l ++ [0], p' + 1, start _ ?_, h2.more (by omega) (by omega), by rw [List.length_append]; simp; omega, fun x hx' => ?_⟩
        · simp only [if_true]
          refine Ev.bind (ev1 e2) ?_
          simp only [if_pos c0, if_pos (show l.length < 17592186044416 by omega)]
          exact Ev.now _
        · rcases List.mem_append.1 hx' with hx' | hx'
          · exact hx x hx'
          · obtain rfl := List.mem_singleton.1 hx'
            omega
      · refine ⟨l.set (0 : Int).toNat (-1), p' + 1, start _ ?_, h2.more (by omega) (by omega), by rw [List.length_set]; omega, fun x hx' => ?_⟩
        · simp only [if_true]
          refine Ev.bind (ev1 e2) ?_
          simp only [if_neg c0, if_pos (show (0 : Int) < (l.length : Int) by omega)]
          exact Ev.now _
        · rcases List.mem_or_eq_of_mem_set hx' with hx' | hx'
          · exact hx x hx'
          · omega
  | succ j ih =>
    intro l p m h hm hl hx
    obtain ⟨r1, e1, l1, u1, _, h1⟩ := pick_ok h (by omega) 4 (by omega)
    have u1 := u1 (by omega)
    obtain ⟨r2, e2, l2, u2, _, h2⟩ := pick_ok h1 (by omega) 10 (by omega)
    have u2 := u2 (by omega)
    obtain ⟨r3, e3, l3, u3, _, h3⟩ := pick_ok h2 (by omega) 4 (by omega)
    have u3 := u3 (by omega)
    have hv : -1 ≤ rd [0, 1, r1, r2] r3 ∧ rd [0, 1, r1, r2] r3 ≤ 9 := by
      have : r3 = 0 ∨ r3 = 1 ∨ r3 = 2 ∨ r3 = 3 := by omega
      rcases this with rfl | rfl | rfl | rfl <;> simp [rd] <;> omega
    obtain ⟨l', p', e', h', hl', hx'⟩ := ih (l ++ [rd [0, 1, r1, r2] r3]) (p + 1 + 1 + 1) (m + 1 + 1 + 1) h3 (by omega) (by rw [List.length_append]; simp; omega) (fun x hx' => by
      rcases List.mem_append.1 hx' with hx' | hx'
      · exact hx x hx'
      · obtain rfl := List.mem_singleton.1 hx'
        exact hv)
    have hw : wrap64 (((4 - (j + 1) : Nat) : Int) + 1) = ((4 - j : Nat) : Int) := by rw [w64 (by omega) (by omega)]; omega
    refine ⟨l', p', ?_, h'.more (by omega) (by omega), hl', hx'⟩
    refine Ev.step (f := fun q => (spec_l20Rd_pick.f q b p 4).bind fun bt518 => ((spec_l20Rd_pick.f q b bt518.2 10).bind fun bt520 => ((spec_l20Rd_pick.f q b bt520.2 4).bind fun bt525 => spec_l20Counts.l0 q n (l ++ [rd [0, 1, bt518.1, bt520.1] bt525.1]) ((4 - j : Nat) : Int) b bt525.2))) (fun q => ?_) (Ev.bind (ev1 e1) (Ev.bind (ev1 e2) (Ev.bind (ev1 e3) e')))
    simp only [spec_l20Counts.l0]
    rw [if_pos (by omega)]
    cases q with
    | zero => simp [spec_l20Rd_pick.f, spec_l20Rd_pick.j0]
    | succ q =>
      simp only [e1 q, e2 q, e3 q, Option.bind_some, hw]
      rw [if_pos l3, if_pos (by simpa using u3), if_pos (by omega)]

theorem l20Counts_ok {b : List Int} {p m : Int} (h : Rd b p m) (hm : m + 14 ≤ 1000000) (n : Int) (hn : n ≤ 1000) :
    ∃ l p', Ev (fun q => spec_l20Counts.f q b p n) (l, p') ∧ Rd b p' (m + 14) ∧ l.length ≤ 5 ∧ (∀ x ∈ l, -1 ≤ x ∧ x ≤ 9) := by
  obtain ⟨l', p', e', h', hl', hx'⟩ := l20Counts_from n hn b 4 [] p m h (by omega) (by simp) (fun x hx => by simp at hx)
  exact ⟨l', p', e', h'.more (by omega) (by omega), hl', hx'⟩
end Go.Proofs.Ytknphpgalklclaa.Sem

end
section
/- Things of a sort of a term: both programs' test, in plain words; for eight sorts and six terms. -/
namespace Go.Proofs.Ytknphpgalklclaa.Sem
open Go.RowKit Go.Proofs.Ytknphpgalklclaa.PA Go.Proofs.YtknphpgalklclaaW.PrintWords Go.Proofs.YtknphpgalklclaaW.PrintLast Go.Proofs.YtknphpgalklclaaW.PrintMore
set_option linter.unusedVariables false
set_option linter.unusedSimpArgs false

/-- Are things of a sort of a term? -/
def isB (s t : Nat) : Bool := (s / 2 ^ (t / 2)) % 2 != t % 2
theorem specIs_all : ((List.range 8).all fun s => (List.range 6).all fun t => decide (spec_l5Is.f s t = some (isB s t))) = true := by kernel_rfl
theorem implIs_all : ((List.range 8).all fun s => (List.range 6).all fun t => decide (impl_isOf.f s t = some (isB s t))) = true := by kernel_rfl
theorem specIs (s t : Nat) (hs : s < 8) (ht : t < 6) : spec_l5Is.f s t = some (isB s t) := of_decide_eq_true (List.all_eq_true.1 (List.all_eq_true.1 specIs_all s (List.mem_range.2 hs)) t (List.mem_range.2 ht))
theorem implIs (s t : Nat) (hs : s < 8) (ht : t < 6) : impl_isOf.f s t = some (isB s t) := of_decide_eq_true (List.all_eq_true.1 (List.all_eq_true.1 implIs_all s (List.mem_range.2 hs)) t (List.mem_range.2 ht))

end Go.Proofs.Ytknphpgalklclaa.Sem

end
section
/- WeighSo of both programs, in plain words: a sum of four products, held against 0; for rows of numbers. -/
namespace Go.Proofs.Ytknphpgalklclaa.Sem
open Go.RowKit Go.Proofs.Ytknphpgalklclaa.PA Go.Proofs.YtknphpgalklclaaW.PrintWords Go.Proofs.YtknphpgalklclaaW.PrintLast Go.Proofs.YtknphpgalklclaaW.PrintMore
set_option linter.unusedVariables false
set_option linter.unusedSimpArgs false

def bit (b : Bool) : Int := if b = true then 1 else 0
/-- How much a sort counts for what a sentence compares with 0. -/
def wt (f : Nat) (a b : Int) : Int := if f = 0 then a * (b - 1) else if f = 1 then a * b else if f = 2 then a - b else if f = 3 then a - b else if f = 4 then 2 * a * b - a else a - 2 * a * b
def rowL (f o t : Nat) : List Int := (List.range 4).map fun s => wt f (bit (isB s o)) (bit (isB s t))
def strictB (f : Nat) : Bool := f == 1 || (f == 3 || f == 4)

theorem impl_row_all : ((List.range 6).all fun f => (List.range 4).all fun o => (List.range 4).all fun t => decide (impl_weightsOf.f 40 f o t = some (rowL f o t))) = true := by kernel_rfl
theorem spec_row_all : ((List.range 6).all fun f => (List.range 4).all fun o => (List.range 4).all fun t => decide (spec_l6Row.f 40 f o t = some (rowL f o t, strictB f))) = true := by kernel_rfl
theorem impl_strict_all : ((List.range 6).all fun f => decide (∀ o t : Fin 1, impl_isStrict.f f o t = some (strictB f))) = true := by kernel_rfl
theorem impl_row (f o t : Nat) (hf : f < 6) (ho : o < 4) (ht : t < 4) : Ev (fun k => impl_weightsOf.f k f o t) (rowL f o t) :=
  Ev.of (fun k => impl_weightsOf.mono _ _ _ k) (of_decide_eq_true (List.all_eq_true.1 (List.all_eq_true.1 (List.all_eq_true.1 impl_row_all f (List.mem_range.2 hf)) o (List.mem_range.2 ho)) t (List.mem_range.2 ht)))
theorem spec_row (f o t : Nat) (hf : f < 6) (ho : o < 4) (ht : t < 4) : Ev (fun k => spec_l6Row.f k f o t) (rowL f o t, strictB f) :=
  Ev.of (fun k => spec_l6Row.mono _ _ _ k) (of_decide_eq_true (List.all_eq_true.1 (List.all_eq_true.1 (List.all_eq_true.1 spec_row_all f (List.mem_range.2 hf)) o (List.mem_range.2 ho)) t (List.mem_range.2 ht)))
theorem impl_strict (f o t : Nat) (hf : f < 6) : impl_isStrict.f f o t = some (strictB f) := by
  unfold impl_isStrict.f strictB
  have : f = 0 ∨ f = 1 ∨ f = 2 ∨ f = 3 ∨ f = 4 ∨ f = 5 := by omega
  rcases this with rfl | rfl | rfl | rfl | rfl | rfl <;> rfl

theorem row_len (f o t : Nat) : (rowL f o t).length = 4 := by unfold rowL; simp
theorem wt_bound (f : Nat) (b c : Bool) : -2 ≤ wt f (bit b) (bit c) ∧ wt f (bit b) (bit c) ≤ 2 := by
  unfold wt bit
  cases b <;> cases c <;> simp <;> (repeat' split) <;> omega
theorem row_bound (f o t : Nat) : ∀ x ∈ rowL f o t, -2 ≤ x ∧ x ≤ 2 := by
  intro x hx
  unfold rowL at hx
  obtain ⟨s, _, rfl⟩ := List.mem_map.1 hx
  exact wt_bound f _ _

/-- The sum of products. -/
def dotL : List Int → List Int → Int
  | a :: xs, b :: ys => a * b + dotL xs ys
  | _, _ => 0

theorem mul_bound {a b : Int} (ha : -1000000 ≤ a ∧ a ≤ 1000000) (hb : -2 ≤ b ∧ b ≤ 2) : -2000000 ≤ a * b ∧ a * b ≤ 2000000 := by
  have h1 : b = -2 ∨ b = -1 ∨ b = 0 ∨ b = 1 ∨ b = 2 := by omega
  rcases h1 with rfl | rfl | rfl | rfl | rfl <;> omega

theorem spec_dot_from (r l : List Int) (hlen : r.length = l.length) (hl : l.length ≤ 100) (hr : ∀ x ∈ r, -2 ≤ x ∧ x ≤ 2) (hx : ∀ x ∈ l, -1000000 ≤ x ∧ x ≤ 1000000) (n : Nat) : ∀ (i : Nat) (s : Int), i + n = l.length → -2000000 * (i : Int) ≤ s → s ≤ 2000000 * (i : Int) →
    Ev (fun k => spec_l6Dot.l0 k r l s (i : Int)) (s + dotL (l.drop i) (r.drop i)) := by
  induction n with
  | zero =>
    intro i s hi h1 h2
    rw [List.drop_of_length_le (by omega), show dotL [] (r.drop i) = 0 by unfold dotL; rfl, Int.add_zero]
    refine Ev.step (f := fun _ => some s) (fun k => ?_) (Ev.now _)
    simp only [spec_l6Dot.l0]
    rw [if_neg (by omega)]
  | succ n ih =>
    intro i s hi h1 h2
    have hlt : i < l.length := by omega
    have hlr : i < r.length := by omega
    have b1 := hr r[i] (List.getElem_mem hlr)
    have b2 := hx l[i] (List.getElem_mem hlt)
    have hb := mul_bound b2 b1
    rw [Int.mul_comm] at hb
    have hw : wrap64 ((i : Int) + 1) = ((i + 1 : Nat) : Int) := by unfold wrap64; omega
    rw [List.drop_eq_getElem_cons hlt, List.drop_eq_getElem_cons hlr, dotL]
    have ih := ih (i + 1) (s + r[i] * l[i]) (by omega) (by omega) (by omega)
    rw [show s + (l[i] * r[i] + dotL (l.drop (i + 1)) (r.drop (i + 1))) = s + r[i] * l[i] + dotL (l.drop (i + 1)) (r.drop (i + 1)) by rw [Int.mul_comm l[i] r[i]]; omega]
    refine Ev.step (fun k => ?_) ih
    simp only [spec_l6Dot.l0]
    rw [if_pos (by omega), if_pos (by omega), if_pos (by omega), rd_at r i hlr, rd_at l i hlt, w64 (n := r[i] * l[i]) (by omega) (by omega), w64 (by omega) (by omega), hw]

theorem impl_dot_from (r l : List Int) (hlen : r.length = l.length) (hl : l.length ≤ 100) (hr : ∀ x ∈ r, -2 ≤ x ∧ x ≤ 2) (hx : ∀ x ∈ l, -1000000 ≤ x ∧ x ≤ 1000000) (n : Nat) : ∀ (i : Nat) (s : Int), i + n = l.length → -2000000 * (i : Int) ≤ s → s ≤ 2000000 * (i : Int) →
    Ev (fun k => impl_weighed.l0 k r s l (l.length : Int) (i : Int)) (s + dotL (l.drop i) (r.drop i)) := by
  induction n with
  | zero =>
    intro i s hi h1 h2
    rw [List.drop_of_length_le (by omega), show dotL [] (r.drop i) = 0 by unfold dotL; rfl, Int.add_zero]
    refine Ev.step (f := fun _ => some s) (fun k => ?_) (Ev.now _)
    simp only [impl_weighed.l0]
    rw [if_neg (by omega)]
  | succ n ih =>
    intro i s hi h1 h2
    have hlt : i < l.length := by omega
    have hlr : i < r.length := by omega
    have b1 := hr r[i] (List.getElem_mem hlr)
    have b2 := hx l[i] (List.getElem_mem hlt)
    have hb := mul_bound b2 b1
    have hw : wrap64 ((i : Int) + 1) = ((i + 1 : Nat) : Int) := by unfold wrap64; omega
    rw [List.drop_eq_getElem_cons hlt, List.drop_eq_getElem_cons hlr, dotL]
    have ih := ih (i + 1) (s + l[i] * r[i]) (by omega) (by omega) (by omega)
    rw [show s + (l[i] * r[i] + dotL (l.drop (i + 1)) (r.drop (i + 1))) = s + l[i] * r[i] + dotL (l.drop (i + 1)) (r.drop (i + 1)) by omega]
    refine Ev.step (fun k => ?_) ih
    simp only [impl_weighed.l0]
    rw [if_pos (by omega), if_pos (by omega), if_pos (by omega), if_pos (by omega), rd_at r i hlr, rd_at l i hlt, w64 (n := l[i] * r[i]) (by omega) (by omega), w64 (by omega) (by omega), hw]

/-- Is a sentence so for numbers? -/
def weighV (l : List Int) (f o t : Nat) : Bool := if strictB f = true then decide (0 < dotL l (rowL f o t)) else decide (0 ≤ dotL l (rowL f o t))
def weighSoB (l : List Int) (f o t : Int) : Bool := Man.countsB l && (decide (OkWeigh f o t) && weighV l f.toNat o.toNat t.toNat)

theorem counts_bound {l : List Int} (h : Man.countsB l = true) : l.length = 4 ∧ ∀ x ∈ l, 0 ≤ x ∧ x ≤ 99999 := by
  unfold Man.countsB at h
  simp only [Bool.and_eq_true, decide_eq_true_eq] at h
  refine ⟨h.1, fun x hx => ?_⟩
  have := List.all_eq_true.1 h.2 x hx
  unfold Man.cntB at this
  exact of_decide_eq_true this

theorem impl_weighSo_eq (l : List Int) (hl : l.length = 4) (hx : ∀ x ∈ l, -1000000 ≤ x ∧ x ≤ 1000000) (f o t : Nat) (hf : f < 6) (ho : o < 4) (ht : t < 4) : Ev (fun k => impl_weighSo.f k l f o t) (weighV l f o t) := by
  unfold impl_weighSo.f weighV
  refine Ev.bind (impl_row f o t hf ho ht) ?_
  have hd := impl_dot_from (rowL f o t) l (by rw [row_len, hl]) (by omega) (row_bound f o t) hx l.length 0 0 (by omega) (by omega) (by omega)
  rw [Int.zero_add, List.drop_zero, List.drop_zero] at hd
  refine Ev.bind (g := fun k => impl_weighed.f k l (rowL f o t)) hd ?_
  simp only [impl_strict f o t hf, Option.bind_some]
  cases strictB f <;> simp <;> exact Ev.now _

theorem impl_WeighSo_eq (l : List Int) (f o t : Int) : Ev (fun k => impl_WeighSo.f k l f o t) (weighSoB l f o t) := by
  unfold impl_WeighSo.f weighSoB
  have hc : impl_areCounts.f l = some (Man.countsB l) := rfl
  simp only [hc, Option.bind_some]
  cases h : Man.countsB l with
  | false => simp only [Bool.false_eq_true, if_false, Bool.false_and]; exact Ev.now _
  | true =>
    simp only [if_true, Bool.true_and, impl_isWeigh_eq, Option.bind_some]
    by_cases hw : OkWeigh f o t
    · obtain ⟨f', o', t', rfl, rfl, rfl, hf, ho, ht⟩ := weigh_nat hw
      obtain ⟨h4, hx⟩ := counts_bound h
      simp only [decide_eq_true hw, if_true, Bool.true_and, Int.toNat_natCast]
      exact Ev.bind (impl_weighSo_eq l h4 (fun x hx' => by have := hx x hx'; omega) f' o' t' hf ho ht) (Ev.now _)
    · simp only [decide_eq_false hw, Bool.false_eq_true, if_false, Bool.false_and]
      exact Ev.now _

theorem spec_WeighSo_eq (l : List Int) (hl : l.length ≤ 1048577) (f o t : Int) : Ev (fun k => spec_WeighSo.f k l f o t) (weighSoB l f o t) := by
  unfold spec_WeighSo.f weighSoB
  refine Ev.bind (spec_CountsOk_eq l hl) ?_
  cases h : Man.countsB l with
  | false =>
    simp only [Bool.false_eq_true, if_false, Bool.false_and]
    exact ev1 (fun k => by simp only [spec_WeighSo.j0, if_true])
  | true =>
    simp only [if_true, Bool.true_and, spec_WeighOk_eq, Option.bind_some]
    by_cases hw : OkWeigh f o t
    · obtain ⟨f', o', t', rfl, rfl, rfl, hf, ho, ht⟩ := weigh_nat hw
      obtain ⟨h4, hx⟩ := counts_bound h
      simp only [decide_eq_true hw, Bool.not_true, Bool.true_and, Int.toNat_natCast]
      have hd := spec_dot_from (rowL f' o' t') l (by rw [row_len, h4]) (by omega) (row_bound f' o' t') (fun x hx' => by have := hx x hx'; omega) l.length 0 0 (by omega) (by omega) (by omega)
      rw [Int.zero_add, List.drop_zero, List.drop_zero] at hd
      refine Ev.step (f := fun k => (spec_l6Row.f k f' o' t').bind fun bt172 => ((spec_l6Dot.f k bt172.1 l).bind fun t176 => (if t176 > 0 then (some true) else (if t176 = 0 then (some (!bt172.2)) else (some false))))) (fun k => by simp only [spec_WeighSo.j0, Bool.false_eq_true, if_false]) (Ev.bind (spec_row f' o' t' hf ho ht) (Ev.bind (g := fun k => spec_l6Dot.f k (rowL f' o' t') l) hd ?_))
      unfold weighV
      by_cases h1 : dotL l (rowL f' o' t') > 0
      · simp only [if_pos h1, decide_eq_true (show 0 < dotL l (rowL f' o' t') from h1), decide_eq_true (show 0 ≤ dotL l (rowL f' o' t') by omega)]
        split <;> exact Ev.now _
      · simp only [if_neg h1, decide_eq_false (show ¬ 0 < dotL l (rowL f' o' t') by omega)]
        by_cases h2 : dotL l (rowL f' o' t') = 0
        · simp only [if_pos h2, decide_eq_true (show 0 ≤ dotL l (rowL f' o' t') by omega)]
          cases strictB f' <;> exact Ev.now _
        · simp only [if_neg h2, decide_eq_false (show ¬ 0 ≤ dotL l (rowL f' o' t') by omega)]
          cases strictB f' <;> exact Ev.now _
    · simp only [decide_eq_false hw, Bool.not_false, Bool.false_and]
      exact ev1 (fun k => by simp only [spec_WeighSo.j0, if_true])
end Go.Proofs.Ytknphpgalklclaa.Sem

end
section
/- The law FnContraryOf over plain bytes: it answers true, for every two codes; no condition. -/
namespace Go.Proofs.Ytknphpgalklclaa.Sem
open Go.RowKit Go.Proofs.Ytknphpgalklclaa.PA Go.Proofs.YtknphpgalklclaaW.PrintWords Go.Proofs.YtknphpgalklclaaW.PrintLast Go.Proofs.YtknphpgalklclaaW.PrintMore
set_option linter.unusedVariables false
set_option linter.unusedSimpArgs false

theorem dot_neg (l r : List Int) : dotL l (r.map fun x => -x) = -dotL l r := by
  induction l generalizing r with
  | nil => unfold dotL; rfl
  | cons a l ih =>
    cases r with
    | nil => unfold dotL; rfl
    | cons b r =>
      rw [List.map_cons, dotL, dotL, ih, Int.mul_neg]
      omega

theorem con_all : ((List.range 6).all fun f => (List.range 4).all fun o => (List.range 4).all fun t =>
    decide ((conB f o t).1.toNat < 6 ∧ (conB f o t).2.1.toNat < 4 ∧ (conB f o t).2.2.toNat < 4 ∧ 0 ≤ (conB f o t).1 ∧ 0 ≤ (conB f o t).2.1 ∧ 0 ≤ (conB f o t).2.2 ∧
      rowL (conB f o t).1.toNat (conB f o t).2.1.toNat (conB f o t).2.2.toNat = (rowL f o t).map (fun x => -x) ∧ strictB (conB f o t).1.toNat = !strictB f ∧
      conB (conB f o t).1.toNat (conB f o t).2.1.toNat (conB f o t).2.2.toNat = ((f : Int), (o : Int), (t : Int)))) = true := by kernel_rfl

theorem impl_ContraryOf_eq (f o t : Nat) (hf : f < 6) (ho : o < 4) (ht : t < 4) : impl_ContraryOf.f f o t = some (conB f o t) := by
  unfold impl_ContraryOf.f
  rw [impl_isWeigh_eq, decide_eq_true (show OkWeigh (f : Int) (o : Int) (t : Int) by unfold OkWeigh; omega)]
  simp only [Option.bind_some, if_true]
  rw [impl_con f o t hf ho ht]
  rfl

theorem drawContrary_ok (l0 : List Int) (w0 : ∀ x ∈ l0, (Lit.int .u8 x).wf = true) : ∃ f o t, Ev (fun q => spec_DrawContraryOf.f q l0) (f, o, t) := by
  obtain ⟨b, eo, hb⟩ := open_ok w0
  obtain ⟨f, o, t, p, ew, _⟩ := l20Weigh_ok hb (by omega) 6 (by omega)
  refine ⟨f, o, t, ?_⟩
  unfold spec_DrawContraryOf.f
  simp only [eo, Option.bind_some]
  exact Ev.bind ew (Ev.now _)

theorem drawWeighSo_ok (l0 : List Int) (w0 : ∀ x ∈ l0, (Lit.int .u8 x).wf = true) : ∃ l f o t, Ev (fun q => spec_DrawWeighSo.f q l0) (l, f, o, t) ∧ l.length ≤ 5 ∧ ∀ x ∈ l, -1 ≤ x ∧ x ≤ 9 := by
  obtain ⟨b, eo, hb⟩ := open_ok w0
  obtain ⟨l, p, ec, hc, hl, hx⟩ := l20Counts_ok hb (by omega) 14 (by omega)
  obtain ⟨f, o, t, p', ew, _⟩ := l20Weigh_ok hc (by omega) 14 (by omega)
  refine ⟨l, f, o, t, ?_, hl, hx⟩
  unfold spec_DrawWeighSo.f
  simp only [eo, Option.bind_some]
  exact Ev.bind ec (Ev.bind ew (Ev.now _))
end Go.Proofs.Ytknphpgalklclaa.Sem
namespace Go.Proofs.Ytknphpgalklclaa.Pure
open Go.RowKit Go.Proofs.Ytknphpgalklclaa.PA Go.Proofs.YtknphpgalklclaaW.PrintWords Go.Proofs.YtknphpgalklclaaW.PrintLast Go.Proofs.YtknphpgalklclaaW.PrintMore
set_option linter.unusedVariables false
set_option linter.unusedSimpArgs false
end Go.Proofs.Ytknphpgalklclaa.Pure

end
section
/- Sentences in worlds: what the two programs' loops over sorts answer, in plain words; for one to three kinds, terms of these, and worlds from 0 on. -/
namespace Go.Proofs.Ytknphpgalklclaa.Sem
open Go.RowKit Go.Proofs.Ytknphpgalklclaa.PA Go.Proofs.YtknphpgalklclaaW.PrintWords Go.Proofs.YtknphpgalklclaaW.PrintLast Go.Proofs.YtknphpgalklclaaW.PrintMore
set_option linter.unusedVariables false
set_option linter.unusedSimpArgs false

/-- Is there something of a sort in a world? -/
def wb (world : Int) (s : Nat) : Bool := decide ((world / 2 ^ s) % 2 = 1)

/-- A sentence in a world, sort by sort. -/
def soL (f o t : Nat) (world : Int) : List Nat → Bool
  | [] => f == 0
  | s :: l => if (wb world s && isB s o) = true then (if f = 0 then (if isB s t = true then soL f o t world l else false) else (if isB s t = true then true else soL f o t world l)) else soL f o t world l

def soB (kinds f o t : Nat) (world : Int) : Bool := soL f o t world (List.range (2 ^ kinds))

theorem range_from (s n : Nat) (h : s < n) : List.range' s (n - s) = s :: List.range' (s + 1) (n - (s + 1)) := by
  rw [show n - s = (n - (s + 1)) + 1 by omega, List.range'_succ]

theorem shr_eq (world : Int) (s : Nat) (hs : s < 8) : shr .i64 world (s : Int) = world / 2 ^ s := by
  unfold shr
  rw [Int.toNat_natCast, Nat.min_eq_left (by show s ≤ 64; omega)]

theorem shl1 (k : Nat) (hk : k ≤ 3) : shl .i64 1 (k : Int) = ((2 ^ k : Nat) : Int) := by
  have : ((List.range 4).all fun k => decide (shl .i64 1 (k : Int) = ((2 ^ k : Nat) : Int))) = true := by kernel_rfl
  exact of_decide_eq_true (List.all_eq_true.1 this k (List.mem_range.2 (by omega)))

theorem and1 (x : Int) (h : 0 ≤ x) (h' : x < 9223372036854775808) : Go.bits .and .i64 x 1 = x % 2 := by
  have := bits_mask .i64 63 (by decide) (fun n h0 h1 => by rw [IntKind.wrap_i64]; omega) 1 (by decide) x h (by omega)
  simpa using this

theorem world_small {world : Int} (h0 : 0 ≤ world) (h1 : world < 9223372036854775808) (s : Nat) : 0 ≤ world / 2 ^ s ∧ world / 2 ^ s < 9223372036854775808 := by
  have hp : (0 : Int) < 2 ^ s := Int.pow_pos (by decide)
  exact ⟨Int.ediv_nonneg h0 (by omega), by have := Int.ediv_le_self (2 ^ s) h0; omega⟩

theorem tmod_bit {world : Int} (h0 : 0 ≤ world) (s : Nat) : (Int.tmod (world / 2 ^ s) 2 = 0) ↔ wb world s = false := by
  have hp : (0 : Int) < 2 ^ s := Int.pow_pos (by decide)
  have h := Int.ediv_nonneg h0 (show (0 : Int) ≤ 2 ^ s by omega)
  rw [Int.tmod_eq_emod_of_nonneg h]
  unfold wb
  rw [decide_eq_false_iff_not]
  omega

theorem pow_le (kinds : Nat) (h : kinds ≤ 3) : 2 ^ kinds ≤ 8 := by
  match kinds, h with
  | 0, _ => decide
  | 1, _ => decide
  | 2, _ => decide
  | 3, _ => decide

theorem impl_so_from (kinds f o t : Nat) (hk : kinds ≤ 3) (hf : f < 2) (ho : o < 6) (ht : t < 6) (world : Int) (h0 : 0 ≤ world) (h1 : world < 9223372036854775808) (n : Nat) :
    ∀ s, s + n = 2 ^ kinds → Ev (fun k => impl_soIn.l0 k world ((2 ^ kinds : Nat) : Int) s f o t) (soL f o t world (List.range' s (2 ^ kinds - s))) := by
  have h8 := pow_le kinds hk
  induction n with
  | zero =>
    intro s hs
    refine Ev.step (f := fun _ => some (f == 0)) (fun k => ?_) ?_
    · simp only [impl_soIn.l0]
      rw [if_neg (by omega)]
      congr 1
      rw [Bool.eq_iff_iff]; simp
    · rw [show 2 ^ kinds - s = 0 by omega]
      exact Ev.now _
  | succ n ih =>
    intro s hs
    have ih := ih (s + 1) (by omega)
    rw [range_from s (2 ^ kinds) (by omega), soL]
    have hw : wrap64 ((s : Int) + 1) = ((s + 1 : Nat) : Int) := by rw [w64 (by omega) (by omega)]; omega
    have hs2 := world_small h0 h1 s
    have hb : Go.bits .and .i64 (shr .i64 world (s : Int)) 1 = (world / 2 ^ s) % 2 := by rw [shr_eq world s (by omega), and1 _ hs2.1 hs2.2]
    have q1 := implIs s o (by omega) ho
    have q2 := implIs s t (by omega) ht
    have ff : ∀ b : Bool, ((f : Int) == 1) = (f == 1) := fun _ => by rw [Bool.eq_iff_iff]; simp; omega
    cases hwb : wb world s with
    | false =>
      simp only [Bool.false_and, Bool.false_eq_true, if_false]
      unfold wb at hwb
      rw [decide_eq_false_iff_not] at hwb
      refine Ev.step (f := fun k => impl_soIn.j1 k world s ((2 ^ kinds : Nat) : Int) s true f o t) (fun k => ?_) (Ev.step (f := fun k => impl_soIn.l0 k world ((2 ^ kinds : Nat) : Int) ((s + 1 : Nat) : Int) f o t) (fun k => ?_) ih)
      · simp only [impl_soIn.l0]
        rw [if_pos (by omega), if_pos (by omega), hb, if_pos (by omega)]
      · simp only [impl_soIn.j1, if_true, hw]
    | true =>
      unfold wb at hwb
      rw [decide_eq_true_eq] at hwb
      refine Ev.step (f := fun k => impl_soIn.j1 k world s ((2 ^ kinds : Nat) : Int) s (!isB s o) f o t) (fun k => ?_) ?_
      · simp only [impl_soIn.l0]
        rw [if_pos (by omega), if_pos (by omega), hb, if_neg (by omega), q1]
        rfl
      · cases hq1 : isB s o with
        | false =>
          simp only [Bool.and_false, Bool.false_eq_true, if_false]
          exact Ev.step (f := fun k => impl_soIn.l0 k world ((2 ^ kinds : Nat) : Int) ((s + 1 : Nat) : Int) f o t) (fun k => by simp only [impl_soIn.j1, Bool.not_false, if_true, hw]) ih
        | true =>
          simp only [Bool.and_true, if_true]
          by_cases e0 : f = 0
          · subst e0
            rw [if_pos rfl]
            cases hq2 : isB s t with
            | false =>
              rw [hq2] at q2
              simp only [Bool.false_eq_true, if_false]
              refine Ev.step (f := fun _ => some false) (fun k => ?_) (Ev.now _)
              simp only [impl_soIn.j1, Bool.not_true, Bool.false_eq_true, if_false, q2, Option.bind_some]
              rfl
            | true =>
              rw [hq2] at q2
              simp only [if_true]
              refine Ev.step (f := fun k => impl_soIn.l0 k world ((2 ^ kinds : Nat) : Int) ((s + 1 : Nat) : Int) ((0 : Nat) : Int) o t) (fun k => ?_) ih
              simp only [impl_soIn.j1, Bool.not_true, Bool.false_eq_true, if_false, q2, Option.bind_some, hw]
              rfl
          · obtain rfl : f = 1 := by omega
            rw [if_neg e0]
            cases hq2 : isB s t with
            | false =>
              rw [hq2] at q2
              simp only [Bool.false_eq_true, if_false]
              refine Ev.step (f := fun k => impl_soIn.l0 k world ((2 ^ kinds : Nat) : Int) ((s + 1 : Nat) : Int) ((1 : Nat) : Int) o t) (fun k => ?_) ih
              simp only [impl_soIn.j1, Bool.not_true, Bool.false_eq_true, if_false, q2, Option.bind_some, hw]
              rfl
            | true =>
              rw [hq2] at q2
              simp only [if_true]
              refine Ev.step (f := fun _ => some true) (fun k => ?_) (Ev.now _)
              simp only [impl_soIn.j1, Bool.not_true, Bool.false_eq_true, if_false, q2, Option.bind_some]
              rfl

theorem impl_so (kinds f o t : Nat) (hk : kinds ≤ 3) (hf : f < 2) (ho : o < 6) (ht : t < 6) (world : Int) (h0 : 0 ≤ world) (h1 : world < 9223372036854775808) :
    Ev (fun k => impl_soIn.f k kinds world f o t) (soB kinds f o t world) := by
  have h := impl_so_from kinds f o t hk hf ho ht world h0 h1 (2 ^ kinds) 0 (by omega)
  unfold soB
  rw [List.range_eq_range']
  refine Ev.congr (fun k => ?_) h
  unfold impl_soIn.f
  rw [if_pos (by omega), shl1 kinds hk]
  rfl
end Go.Proofs.Ytknphpgalklclaa.Sem

end
section
/- SoIn of the program for two kinds, in plain words. -/
namespace Go.Proofs.Ytknphpgalklclaa.Sem
open Go.RowKit Go.Proofs.Ytknphpgalklclaa.PA Go.Proofs.YtknphpgalklclaaW.PrintWords Go.Proofs.YtknphpgalklclaaW.PrintLast Go.Proofs.YtknphpgalklclaaW.PrintMore
set_option linter.unusedVariables false
set_option linter.unusedSimpArgs false

theorem isSay2_all : ((List.range 2).all fun f => (List.range 4).all fun o => (List.range 4).all fun t => decide (impl_isSay.f 2 f o t = some true)) = true := by kernel_rfl
theorem shr16 : ((List.range 16).all fun w => decide (shr .i64 (w : Int) (shl .u64 1 2) = 0)) = true := by kernel_rfl

theorem impl_SoIn2 (w f o t : Nat) (hw : w < 16) (hf : f < 2) (ho : o < 4) (ht : t < 4) : Ev (fun n => impl_SoIn.f n 2 w f o t) (soB 2 f o t w) := by
  unfold impl_SoIn.f
  have h1 := of_decide_eq_true (List.all_eq_true.1 (List.all_eq_true.1 (List.all_eq_true.1 isSay2_all f (List.mem_range.2 hf)) o (List.mem_range.2 ho)) t (List.mem_range.2 ht))
  have h2 := of_decide_eq_true (List.all_eq_true.1 shr16 w (List.mem_range.2 hw))
  simp only [h1, Option.bind_some, if_true, ge_iff_le, if_pos (show (0 : Int) ≤ (w : Int) by omega), if_pos (show (0 : Int) ≤ 2 by omega), h2]
  exact Ev.bind (impl_so 2 f o t (by omega) hf (by omega) (by omega) (w : Int) (by omega) (by omega)) (Ev.now _)
end Go.Proofs.Ytknphpgalklclaa.Sem

end
section
/- The law FnWeighSo over plain bytes: it answers true, for every code; no condition. -/
namespace Go.Proofs.Ytknphpgalklclaa.Sem
open Go.RowKit Go.Proofs.Ytknphpgalklclaa.PA Go.Proofs.YtknphpgalklclaaW.PrintWords Go.Proofs.YtknphpgalklclaaW.PrintLast Go.Proofs.YtknphpgalklclaaW.PrintMore
set_option linter.unusedVariables false
set_option linter.unusedSimpArgs false

theorem dot_twice (l r : List Int) : dotL (l.map fun x => 2 * x) r = 2 * dotL l r := by
  induction l generalizing r with
  | nil => unfold dotL; rfl
  | cons a l ih =>
    cases r with
    | nil => unfold dotL; rfl
    | cons b r =>
      rw [List.map_cons, dotL, dotL, ih, Int.mul_assoc]
      omega

/-- Of all and some: the numbers and the world of what there is say the same, sort by sort. -/
theorem so_dot (f o t : Nat) (hf : f < 2) (w : Int) (ss : List Nat) : ∀ l : List Int, l.length = ss.length → (∀ x ∈ l, 0 ≤ x) → (∀ i (h : i < ss.length) (h' : i < l.length), wb w ss[i] = decide (0 < l[i])) →
    (if f = 1 then decide (0 < dotL l (ss.map fun s => wt f (bit (isB s o)) (bit (isB s t)))) else decide (0 ≤ dotL l (ss.map fun s => wt f (bit (isB s o)) (bit (isB s t))))) = soL f o t w ss ∧
    (f = 1 → 0 ≤ dotL l (ss.map fun s => wt f (bit (isB s o)) (bit (isB s t)))) ∧ (f = 0 → dotL l (ss.map fun s => wt f (bit (isB s o)) (bit (isB s t))) ≤ 0) := by
  induction ss with
  | nil =>
    intro l hl _ _
    obtain rfl := List.length_eq_zero_iff.1 hl
    have : f = 0 ∨ f = 1 := by omega
    rcases this with rfl | rfl <;> simp [dotL, soL]
  | cons s ss ih =>
    intro l hl hx hw
    match l, hl with
    | n :: l, hl =>
      have hn := hx n List.mem_cons_self
      have h0 := hw 0 (by simp) (by simp)
      simp only [List.getElem_cons_zero] at h0
      obtain ⟨i1, i2, i3⟩ := ih l (by simpa using hl) (fun x h => hx x (List.mem_cons_of_mem _ h)) (fun i h h' => by
        have := hw (i + 1) (by simp; omega) (by simp; omega)
        simpa using this)
      simp only [List.map_cons, dotL, soL, h0]
      obtain ⟨D, hD⟩ : ∃ D, dotL l (ss.map fun s => wt f (bit (isB s o)) (bit (isB s t))) = D := ⟨_, rfl⟩
      simp only [hD] at i1 i2 i3 ⊢
      have : f = 0 ∨ f = 1 := by omega
      rcases this with rfl | rfl
      · have i3 := i3 rfl
        simp only [show (0 : Nat) ≠ 1 by decide, if_false, wt, if_true] at i1 ⊢
        rw [← i1]
        cases isB s o <;> cases isB s t <;> by_cases hp : 0 < n <;> simp [bit, hp] <;> omega
      · have i2 := i2 rfl
        simp only [if_true, wt, show (1 : Nat) ≠ 0 by decide, if_false] at i1 ⊢
        rw [← i1]
        cases isB s o <;> cases isB s t <;> by_cases hp : 0 < n <;> simp [bit, hp] <;> omega

/-- The world of the sorts of which there is something. -/
def worldN (l : List Int) : Nat := (if 0 < l.getD 0 0 then 1 else 0) + (if 0 < l.getD 1 0 then 2 else 0) + (if 0 < l.getD 2 0 then 4 else 0) + (if 0 < l.getD 3 0 then 8 else 0)

theorem world_bits : ((List.range 2).all fun a => (List.range 2).all fun b => (List.range 2).all fun c => (List.range 2).all fun d => (List.range 4).all fun s => decide (wb ((a + 2 * b + 4 * c + 8 * d : Nat) : Int) s = decide (([a, b, c, d] : List Nat).getD s 0 = 1))) = true := by kernel_rfl

theorem worldN_wb (a b c d : Int) (i : Nat) (h : i < 4) : wb (worldN [a, b, c, d]) i = decide (0 < [a, b, c, d].getD i 0) := by
  have e : ∀ x : Int, ∃ n : Nat, n < 2 ∧ decide (0 < x) = decide (n = 1) ∧ ∀ m : Nat, (if 0 < x then m else 0) = m * n := fun x => by
    by_cases hx : 0 < x
    · exact ⟨1, by omega, by simp [hx], fun m => by simp [hx]⟩
    · exact ⟨0, by omega, by simp [hx], fun m => by simp [hx]⟩
  obtain ⟨na, ha, ea, ma⟩ := e a
  obtain ⟨nb, hb, eb, mb⟩ := e b
  obtain ⟨nc, hc, ec, mc⟩ := e c
  obtain ⟨nd, hd, ed, md⟩ := e d
  have hw : worldN [a, b, c, d] = na + 2 * nb + 4 * nc + 8 * nd := by
    unfold worldN
    simp only [List.getD_cons_zero, List.getD_cons_succ]
    rw [ma 1, mb 2, mc 4, md 8]
    omega
  rw [hw]
  have := of_decide_eq_true (List.all_eq_true.1 (List.all_eq_true.1 (List.all_eq_true.1 (List.all_eq_true.1 (List.all_eq_true.1 world_bits na (List.mem_range.2 ha)) nb (List.mem_range.2 hb)) nc (List.mem_range.2 hc)) nd (List.mem_range.2 hd)) i (List.mem_range.2 h))
  rw [this]
  have hi : i = 0 ∨ i = 1 ∨ i = 2 ∨ i = 3 := by omega
  rcases hi with rfl | rfl | rfl | rfl
  · simpa using ea.symm
  · simpa using eb.symm
  · simpa using ec.symm
  · simpa using ed.symm
end Go.Proofs.Ytknphpgalklclaa.Sem
namespace Go.Proofs.Ytknphpgalklclaa.Pure
open Go.RowKit Go.Proofs.Ytknphpgalklclaa.PA Go.Proofs.YtknphpgalklclaaW.PrintWords Go.Proofs.YtknphpgalklclaaW.PrintLast Go.Proofs.YtknphpgalklclaaW.PrintMore
set_option linter.unusedVariables false
set_option linter.unusedSimpArgs false
theorem FnWeighSo (l0 : List Int) (b0 : l0.length ≤ 9223372036854775807) (w0 : ∀ x ∈ l0, (Lit.int .u8 x).wf = true) : ∃ k, laws_FnWeighSo.f k l0 = some true := by
  refine Ev.rounds (g := fun k => laws_FnWeighSo.f k l0) ?_
  unfold laws_FnWeighSo.f
  by_cases hl : (l0.length : Int) > 1048576
  · simp only [if_pos hl]
    exact Ev.now _
  · simp only [if_neg hl]
    obtain ⟨l, f, o, t, hd, hl5, hx9⟩ := Sem.drawWeighSo_ok l0 w0
    refine Ev.bind hd (Ev.bind (Sem.impl_WeighSo_eq l f o t) (Ev.bind (Sem.spec_WeighSo_eq l (by omega) f o t) ?_))
    simp only [bne_self_eq_false, Bool.false_eq_true, if_false]
    refine Ev.bind (Sem.spec_CountsOk_eq l (by omega)) ?_
    have no : ∀ b : Bool, b = false → Ev (fun n => laws_FnWeighSo.j0 n l b true f o t) true := fun b hb => by
      refine Sem.ev1 (fun n => ?_)
      simp only [laws_FnWeighSo.j0, if_true, hb, Bool.false_eq_true, if_false, Sem.alive_ok, Option.bind_some]
    cases hc : Man.countsB l with
    | false =>
      simp only [Bool.false_eq_true, if_false]
      exact no _ (by unfold Sem.weighSoB; rw [hc]; rfl)
    | true =>
      simp only [if_true, Sem.spec_WeighOk_eq, Option.bind_some]
      by_cases hw : Sem.OkWeigh f o t
      · obtain ⟨h4, hx⟩ := Sem.counts_bound hc
        obtain ⟨a, b, c, d, rfl⟩ : ∃ a b c d, l = [a, b, c, d] := by
          match l, h4 with
          | [a, b, c, d], _ => exact ⟨a, b, c, d, rfl⟩
        have ha := hx a (by simp)
        have hb := hx b (by simp)
        have hcc := hx c (by simp)
        have hdd := hx d (by simp)
        have ha9 := (hx9 a (by simp)).2
        have hb9 := (hx9 b (by simp)).2
        have hc9 := (hx9 c (by simp)).2
        have hd9 := (hx9 d (by simp)).2
        obtain ⟨f', o', t', rfl, rfl, rfl, hf, ho, ht⟩ := Sem.weigh_nat hw
        simp only [decide_eq_true hw, Bool.not_true]
        have hcw : Man.countsB [2 * a, 2 * b, 2 * c, 2 * d] = true := by
          unfold Man.countsB Man.cntB
          simp
          omega
        have hv2 : Sem.weighSoB [2 * a, 2 * b, 2 * c, 2 * d] f' o' t' = Sem.weighSoB [a, b, c, d] f' o' t' := by
          unfold Sem.weighSoB
          simp only [hcw, hc, decide_eq_true hw, Bool.true_and, Int.toNat_natCast]
          unfold Sem.weighV
          have := Sem.dot_twice [a, b, c, d] (Sem.rowL f' o' t')
          simp only [List.map_cons, List.map_nil] at this
          rw [this]
          split <;> exact decide_eq_decide.mpr (by omega)
        have h2 := Sem.impl_WeighSo_eq [2 * a, 2 * b, 2 * c, 2 * d] f' o' t'
        rw [hv2] at h2
        have hlt : Sem.worldN [a, b, c, d] < 16 := by
          unfold Sem.worldN
          simp only [List.getD_cons_zero, List.getD_cons_succ]
          split <;> split <;> split <;> split <;> omega
        -- the end of the loop
        have fin : Ev (fun k => laws_FnWeighSo.l0 k [a, b, c, d] (Sem.weighSoB [a, b, c, d] f' o' t') [2 * a, 2 * b, 2 * c, 2 * d] ((Sem.worldN [a, b, c, d] : Nat) : Int) 4 f' o' t') true := by
          refine Ev.step (f := fun k => (impl_WeighSo.f k [2 * a, 2 * b, 2 * c, 2 * d] f' o' t').bind fun t723 => (if (t723 == Sem.weighSoB [a, b, c, d] f' o' t') = true then (if (f' : Int) > 1 then (some true) else ((impl_SoIn.f k 2 ((Sem.worldN [a, b, c, d] : Nat) : Int) f' o' t').bind fun t724 => (some (t724 == Sem.weighSoB [a, b, c, d] f' o' t')))) else (some false))) (fun k => ?_) (Ev.bind h2 ?_)
          · simp only [laws_FnWeighSo.l0]
            rw [if_neg (by omega)]
          · simp only [beq_self_eq_true, if_true]
            by_cases h1 : (f' : Int) > 1
            · simp only [if_pos h1]; exact Ev.now _
            · simp only [if_neg h1]
              refine Ev.bind (Sem.impl_SoIn2 (Sem.worldN [a, b, c, d]) f' o' t' hlt (by omega) ho ht) ?_
              have hs := (Sem.so_dot f' o' t' (by omega) ((Sem.worldN [a, b, c, d] : Nat) : Int) [0, 1, 2, 3] [a, b, c, d] rfl (fun x hx' => (hx x hx').1) (fun i h h' => by
                have h := Sem.worldN_wb a b c d i (by simpa using h)
                have hi : i = 0 ∨ i = 1 ∨ i = 2 ∨ i = 3 := by simp at h'; omega
                rcases hi with rfl | rfl | rfl | rfl <;> simpa using h)).1
              have hq : Sem.soB 2 f' o' t' ((Sem.worldN [a, b, c, d] : Nat) : Int) = Sem.weighSoB [a, b, c, d] f' o' t' := by
                unfold Sem.weighSoB Sem.soB
                simp only [hc, decide_eq_true hw, Bool.true_and, Int.toNat_natCast]
                unfold Sem.weighV
                have hr : Sem.rowL f' o' t' = ([0, 1, 2, 3] : List Nat).map fun s => Sem.wt f' (Sem.bit (Sem.isB s o')) (Sem.bit (Sem.isB s t')) := rfl
                rw [hr]
                have hrg : List.range (2 ^ 2) = [0, 1, 2, 3] := by decide
                rw [hrg, ← hs]
                have : f' = 0 ∨ f' = 1 := by omega
                rcases this with rfl | rfl <;> rfl
              rw [hq]
              simp only [beq_self_eq_true]
              exact Ev.now _
        have stp : ∀ (x : Int) (i : Nat) (xs : List Int) (q : Nat), i < 4 → xs.length = i → rd [a, b, c, d] (i : Int) = x → 0 ≤ x → x ≤ 9 → q < 16 →
            Ev (fun k => laws_FnWeighSo.l0 k [a, b, c, d] (Sem.weighSoB [a, b, c, d] f' o' t') (xs ++ [2 * x]) ((q + (if 0 < x then 2 ^ i else 0) : Nat) : Int) ((i + 1 : Nat) : Int) f' o' t') true →
            Ev (fun k => laws_FnWeighSo.l0 k [a, b, c, d] (Sem.weighSoB [a, b, c, d] f' o' t') xs (q : Int) (i : Int) f' o' t') true := by
          intro x i xs q hi hxs hrd h0 h9 hq hnext
          have hshl : shl .i64 1 (i : Int) = ((2 ^ i : Nat) : Int) := Sem.shl1 i (by omega)
          have hp : 2 ^ i ≤ 8 := Sem.pow_le i (by omega)
          have hp0 : (0 : Int) ≤ ((2 ^ i : Nat) : Int) := Int.natCast_nonneg _
          refine Ev.step (fun k => ?_) hnext
          simp only [laws_FnWeighSo.l0]
          rw [if_pos (by omega), if_pos (by omega), if_pos (by simp; omega), if_pos (by omega), hrd, Sem.w64 (n := 2 * x) (by omega) (by omega), Option.bind_some, hshl, Sem.w64 (n := (q : Int) + ((2 ^ i : Nat) : Int)) (by omega) (by omega), Sem.w64 (n := (i : Int) + 1) (by omega) (by omega)]
          by_cases hpos : 0 < x
          · rw [if_pos hpos, if_pos hpos]
            rfl
          · rw [if_neg hpos, if_neg hpos]
            rfl
        refine Ev.step (f := fun k => laws_FnWeighSo.l0 k [a, b, c, d] (Sem.weighSoB [a, b, c, d] f' o' t') [] 0 0 f' o' t') (fun k => by simp only [laws_FnWeighSo.j0, Bool.false_eq_true, if_false]) ?_
        refine stp a 0 [] 0 (by omega) rfl rfl ha.1 ha9 (by omega) ?_
        refine stp b 1 [2 * a] _ (by omega) rfl rfl hb.1 hb9 (by split <;> omega) ?_
        refine stp c 2 [2 * a, 2 * b] _ (by omega) rfl rfl hcc.1 hc9 (by split <;> split <;> omega) ?_
        refine stp d 3 [2 * a, 2 * b, 2 * c] _ (by omega) rfl rfl hdd.1 hd9 (by split <;> split <;> split <;> omega) ?_
        have e : 0 + (if 0 < a then 2 ^ 0 else 0) + (if 0 < b then 2 ^ 1 else 0) + (if 0 < c then 2 ^ 2 else 0) + (if 0 < d then 2 ^ 3 else 0) = Sem.worldN [a, b, c, d] := by
          unfold Sem.worldN
          simp only [List.getD_cons_zero, List.getD_cons_succ]
          rw [Nat.zero_add]
        rw [e]
        exact fin
      · simp only [decide_eq_false hw, Bool.not_false]
        exact no _ (by unfold Sem.weighSoB; rw [decide_eq_false hw]; simp)
end Go.Proofs.Ytknphpgalklclaa.Pure

end
