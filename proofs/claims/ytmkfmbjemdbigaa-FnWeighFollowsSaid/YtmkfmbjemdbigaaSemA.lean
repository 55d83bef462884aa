/- Words printed by the print tool, the unused ones left out, merged into one text by mergew.py. -/
import Derived.Test.YtmkfmbjemdbigaaSemRow
import Derived.Test.YtmkfmbjemdbigaaSemOk
import Derived.Test.YtmkfmbjemdbigaaManA
import Derived.Test.YtmkfmbjemdbigaaPAx11
import Derived.Test.YtmkfmbjemdbigaaPAx12
import Derived.Test.YtmkfmbjemdbigaaPAx9
import Derived.Test.YtmkfmbjemdbigaaPAx8
import Derived.Test.YtmkfmbjemdbigaaPAx10
import Derived.Test.YtmkfmbjemdbigaaPAx7
import Derived.Test.YtmkfmbjemdbigaaPAx6
import Derived.Test.YtmkfmbjemdbigaaKeyB
import Derived.OpenShut
import Derived.Test.YtmkfmbjemdbigaaSemBase
import Derived.Test.YtmkfmbjemdbigaaPAx2
import Derived.Test.YtmkfmbjemdbigaaPAx1
import Derived.Test.YtmkfmbjemdbigaaPAx32
import Derived.Test.YtmkfmbjemdbigaaPAx3
import Derived.Test.YtmkfmbjemdbigaaPAx27
import Derived.Test.YtmkfmbjemdbigaaPAx28
import Derived.Test.YtmkfmbjemdbigaaManL6F
import Derived.Test.YtmkfmbjemdbigaaPAx20
import Derived.Test.YtmkfmbjemdbigaaPAx19
import Derived.Test.YtmkfmbjemdbigaaManCorA
import Derived.Test.YtmkfmbjemdbigaaPAx22
import Derived.Test.YtmkfmbjemdbigaaPAx21
import Derived.Test.YtmkfmbjemdbigaaManCnt
import Derived.Test.YtmkfmbjemdbigaaPAx23
import Derived.Laws.BitsLemmas
import Derived.Test.YtmkfmbjemdbigaaSemIs
section
/- WeighSo of both programs, in plain words: a sum of four products, held against 0; for rows of numbers. -/
namespace Go.Proofs.Ytmkfmbjemdbigaa.Sem
open Go.RowKit Go.Proofs.Ytmkfmbjemdbigaa.PA Go.Proofs.YtmkfmbjemdbigaaW.PrintWords Go.Proofs.YtmkfmbjemdbigaaW.PrintLast Go.Proofs.YtmkfmbjemdbigaaW.PrintMore
set_option linter.unusedVariables false
set_option linter.unusedSimpArgs false

theorem countsSpec_from (l : List Int) (hl : l.length ≤ 1048577) (n : Nat) : ∀ i, i + n = l.length →
    Ev (fun k => spec_CountsOk.l0 k l (i : Int)) ((l.drop i).all Man.cntB && decide (l.length = 4)) := by
  induction n with
  | zero =>
    intro i hi
    rw [List.drop_of_length_le (by omega)]
    refine Ev.step (f := fun _ => some (decide (l.length = 4))) (fun k => ?_) ?_
    · simp only [spec_CountsOk.l0]
      rw [if_neg (by omega)]
      congr 1
      rw [Bool.eq_iff_iff]
      simp
      omega
    · simp only [List.all_nil, Bool.true_and]
      exact Ev.now _
  | succ n ih =>
    intro i hi
    have hlt : i < l.length := by omega
    have hw : wrap64 ((i : Int) + 1) = ((i + 1 : Nat) : Int) := by unfold wrap64; omega
    rw [List.drop_eq_getElem_cons hlt, List.all_cons]
    refine Ev.step (f := fun k => if Man.cntB l[i] = true then spec_CountsOk.l0 k l ((i + 1 : Nat) : Int) else some false) (fun k => ?_) ?_
    · simp only [spec_CountsOk.l0]
      rw [if_pos (by omega), if_pos (by omega), rd_at l i hlt, l1In_eq, Option.bind_some, hw]
      rfl
    · cases Man.cntB l[i] with
      | true => simp only [if_true, Bool.true_and]; exact ih (i + 1) (by omega)
      | false => simp only [Bool.false_eq_true, if_false, Bool.false_and]; exact Ev.now _

theorem spec_CountsOk_eq (l : List Int) (hl : l.length ≤ 1048577) : Ev (fun k => spec_CountsOk.f k l) (Man.countsB l) := by
  have h := countsSpec_from l hl l.length 0 (by omega)
  have e : Man.countsB l = ((l.drop 0).all Man.cntB && decide (l.length = 4)) := by
    unfold Man.countsB
    rw [List.drop_zero, Bool.and_comm]
  rw [e]
  exact h

theorem spec_row_all : ((List.range 6).all fun f => (List.range 4).all fun o => (List.range 4).all fun t => decide (spec_l6Row.f 40 f o t = some (rowL f o t, strictB f))) = true := by kernel_rfl
theorem impl_row (f o t : Nat) (hf : f < 6) (ho : o < 4) (ht : t < 4) : Ev (fun k => impl_weightsOf.f k f o t) (rowL f o t) :=
  Ev.of (fun k => impl_weightsOf.mono _ _ _ k) (of_decide_eq_true (List.all_eq_true.1 (List.all_eq_true.1 (List.all_eq_true.1 impl_row_all f (List.mem_range.2 hf)) o (List.mem_range.2 ho)) t (List.mem_range.2 ht)))
theorem spec_row (f o t : Nat) (hf : f < 6) (ho : o < 4) (ht : t < 4) : Ev (fun k => spec_l6Row.f k f o t) (rowL f o t, strictB f) :=
  Ev.of (fun k => spec_l6Row.mono _ _ _ k) (of_decide_eq_true (List.all_eq_true.1 (List.all_eq_true.1 (List.all_eq_true.1 spec_row_all f (List.mem_range.2 hf)) o (List.mem_range.2 ho)) t (List.mem_range.2 ht)))
theorem impl_strict (f o t : Nat) (hf : f < 6) : impl_isStrict.f f o t = some (strictB f) := by
  unfold impl_isStrict.f strictB
  have : f = 0 ∨ f = 1 ∨ f = 2 ∨ f = 3 ∨ f = 4 ∨ f = 5 := by omega
  rcases this with rfl | rfl | rfl | rfl | rfl | rfl <;> rfl

theorem wt_bound (f : Nat) (b c : Bool) : -2 ≤ wt f (bit b) (bit c) ∧ wt f (bit b) (bit c) ≤ 2 := by
  unfold wt bit
  cases b <;> cases c <;> simp <;> (repeat' split) <;> omega
theorem row_bound (f o t : Nat) : ∀ x ∈ rowL f o t, -2 ≤ x ∧ x ≤ 2 := by
  intro x hx
  unfold rowL at hx
  obtain ⟨s, _, rfl⟩ := List.mem_map.1 hx
  exact wt_bound f _ _

theorem spec_dot_from (r l : List Int) (hlen : r.length = l.length) (hl : l.length ≤ 100) (hr : ∀ x ∈ r, -2 ≤ x ∧ x ≤ 2) (hx : ∀ x ∈ l, -1000000 ≤ x ∧ x ≤ 1000000) (n : Nat) : ∀ (i : Nat) (s : Int), i + n = l.length → -2000000 * (i : Int) ≤ s → s ≤ 2000000 * (i : Int) →
    Ev (fun k => spec_l6Dot.l0 k r l s (i : Int)) (s + dotL (l.drop i) (r.drop i)) := by
  induction n with
  | zero =>
    intro i s hi h1 h2
    rw [List.drop_of_length_le (by omega), show dotL [] (r.drop i) = 0 by unfold dotL; rfl, Int.add_zero]
    refine Ev.step (f := fun _ => some s) (fun k => ?_) (Ev.now _)
    simp only [spec_l6Dot.l0]
    rw [if_neg (by omega)]
  | succ n ih =>
    intro i s hi h1 h2
    have hlt : i < l.length := by omega
    have hlr : i < r.length := by omega
    have b1 := hr r[i] (List.getElem_mem hlr)
    have b2 := hx l[i] (List.getElem_mem hlt)
    have hb := mul_bound b2 b1
    rw [Int.mul_comm] at hb
    have hw : wrap64 ((i : Int) + 1) = ((i + 1 : Nat) : Int) := by unfold wrap64; omega
    rw [List.drop_eq_getElem_cons hlt, List.drop_eq_getElem_cons hlr, dotL]
    have ih := ih (i + 1) (s + r[i] * l[i]) (by omega) (by omega) (by omega)
    rw [show s + (l[i] * r[i] + dotL (l.drop (i + 1)) (r.drop (i + 1))) = s + r[i] * l[i] + dotL (l.drop (i + 1)) (r.drop (i + 1)) by rw [Int.mul_comm l[i] r[i]]; omega]
    refine Ev.step (fun k => ?_) ih
    simp only [spec_l6Dot.l0]
    rw [if_pos (by omega), if_pos (by omega), if_pos (by omega), rd_at r i hlr, rd_at l i hlt, w64 (n := r[i] * l[i]) (by omega) (by omega), w64 (by omega) (by omega), hw]

theorem impl_dot_from (r l : List Int) (hlen : r.length = l.length) (hl : l.length ≤ 100) (hr : ∀ x ∈ r, -2 ≤ x ∧ x ≤ 2) (hx : ∀ x ∈ l, -1000000 ≤ x ∧ x ≤ 1000000) (n : Nat) : ∀ (i : Nat) (s : Int), i + n = l.length → -2000000 * (i : Int) ≤ s → s ≤ 2000000 * (i : Int) →
    Ev (fun k => impl_weighed.l0 k r s l (l.length : Int) (i : Int)) (s + dotL (l.drop i) (r.drop i)) := by
  induction n with
  | zero =>
    intro i s hi h1 h2
    rw [List.drop_of_length_le (by omega), show dotL [] (r.drop i) = 0 by unfold dotL; rfl, Int.add_zero]
    refine Ev.step (f := fun _ => some s) (fun k => ?_) (Ev.now _)
    simp only [impl_weighed.l0]
    rw [if_neg (by omega)]
  | succ n ih =>
    intro i s hi h1 h2
    have hlt : i < l.length := by omega
    have hlr : i < r.length := by omega
    have b1 := hr r[i] (List.getElem_mem hlr)
    have b2 := hx l[i] (List.getElem_mem hlt)
    have hb := mul_bound b2 b1
    have hw : wrap64 ((i : Int) + 1) = ((i + 1 : Nat) : Int) := by unfold wrap64; omega
    rw [List.drop_eq_getElem_cons hlt, List.drop_eq_getElem_cons hlr, dotL]
    have ih := ih (i + 1) (s + l[i] * r[i]) (by omega) (by omega) (by omega)
    rw [show s + (l[i] * r[i] + dotL (l.drop (i + 1)) (r.drop (i + 1))) = s + l[i] * r[i] + dotL (l.drop (i + 1)) (r.drop (i + 1)) by omega]
    refine Ev.step (fun k => ?_) ih
    simp only [impl_weighed.l0]
    rw [if_pos (by omega), if_pos (by omega), if_pos (by omega), if_pos (by omega), rd_at r i hlr, rd_at l i hlt, w64 (n := l[i] * r[i]) (by omega) (by omega), w64 (by omega) (by omega), hw]

/-- Is a sentence so for numbers? -/
def weighV (l : List Int) (f o t : Nat) : Bool := if strictB f = true then decide (0 < dotL l (rowL f o t)) else decide (0 ≤ dotL l (rowL f o t))
def weighSoB (l : List Int) (f o t : Int) : Bool := Man.countsB l && (decide (OkWeigh f o t) && weighV l f.toNat o.toNat t.toNat)

theorem counts_bound {l : List Int} (h : Man.countsB l = true) : l.length = 4 ∧ ∀ x ∈ l, 0 ≤ x ∧ x ≤ 99999 := by
  unfold Man.countsB at h
  simp only [Bool.and_eq_true, decide_eq_true_eq] at h
  refine ⟨h.1, fun x hx => ?_⟩
  have := List.all_eq_true.1 h.2 x hx
  unfold Man.cntB at this
  exact of_decide_eq_true this

theorem impl_weighSo_eq (l : List Int) (hl : l.length = 4) (hx : ∀ x ∈ l, -1000000 ≤ x ∧ x ≤ 1000000) (f o t : Nat) (hf : f < 6) (ho : o < 4) (ht : t < 4) : Ev (fun k => impl_weighSo.f k l f o t) (weighV l f o t) := by
  unfold impl_weighSo.f weighV
  refine Ev.bind (impl_row f o t hf ho ht) ?_
  have hd := impl_dot_from (rowL f o t) l (by rw [row_len, hl]) (by omega) (row_bound f o t) hx l.length 0 0 (by omega) (by omega) (by omega)
  rw [Int.zero_add, List.drop_zero, List.drop_zero] at hd
  refine Ev.bind (g := fun k => impl_weighed.f k l (rowL f o t)) hd ?_
  simp only [impl_strict f o t hf, Option.bind_some]
  cases strictB f <;> simp <;> exact Ev.now _

theorem impl_WeighSo_eq (l : List Int) (f o t : Int) : Ev (fun k => impl_WeighSo.f k l f o t) (weighSoB l f o t) := by
  unfold impl_WeighSo.f weighSoB
  have hc : impl_areCounts.f l = some (Man.countsB l) := rfl
  simp only [hc, Option.bind_some]
  cases h : Man.countsB l with
  | false => simp only [Bool.false_eq_true, if_false, Bool.false_and]; exact Ev.now _
  | true =>
    simp only [if_true, Bool.true_and, impl_isWeigh_eq, Option.bind_some]
    by_cases hw : OkWeigh f o t
    · obtain ⟨f', o', t', rfl, rfl, rfl, hf, ho, ht⟩ := weigh_nat hw
      obtain ⟨h4, hx⟩ := counts_bound h
      simp only [decide_eq_true hw, if_true, Bool.true_and, Int.toNat_natCast]
      exact Ev.bind (impl_weighSo_eq l h4 (fun x hx' => by have := hx x hx'; omega) f' o' t' hf ho ht) (Ev.now _)
    · simp only [decide_eq_false hw, Bool.false_eq_true, if_false, Bool.false_and]
      exact Ev.now _

theorem spec_WeighSo_eq (l : List Int) (hl : l.length ≤ 1048577) (f o t : Int) : Ev (fun k => spec_WeighSo.f k l f o t) (weighSoB l f o t) := by
  unfold spec_WeighSo.f weighSoB
  refine Ev.bind (spec_CountsOk_eq l hl) ?_
  cases h : Man.countsB l with
  | false =>
    simp only [Bool.false_eq_true, if_false, Bool.false_and]
    exact ev1 (fun k => by simp only [spec_WeighSo.j0, if_true])
  | true =>
    simp only [if_true, Bool.true_and, spec_WeighOk_eq, Option.bind_some]
    by_cases hw : OkWeigh f o t
    · obtain ⟨f', o', t', rfl, rfl, rfl, hf, ho, ht⟩ := weigh_nat hw
      obtain ⟨h4, hx⟩ := counts_bound h
      simp only [decide_eq_true hw, Bool.not_true, Bool.true_and, Int.toNat_natCast]
      have hd := spec_dot_from (rowL f' o' t') l (by rw [row_len, h4]) (by omega) (row_bound f' o' t') (fun x hx' => by have := hx x hx'; omega) l.length 0 0 (by omega) (by omega) (by omega)
      rw [Int.zero_add, List.drop_zero, List.drop_zero] at hd
      refine Ev.step (f := fun k => (spec_l6Row.f k f' o' t').bind fun bt172 => ((spec_l6Dot.f k bt172.1 l).bind fun t176 => (if t176 > 0 then (some true) else (if t176 = 0 then (some (!bt172.2)) else (some false))))) (fun k => by simp only [spec_WeighSo.j0, Bool.false_eq_true, if_false]) (Ev.bind (spec_row f' o' t' hf ho ht) (Ev.bind (g := fun k => spec_l6Dot.f k (rowL f' o' t') l) hd ?_))
      unfold weighV
      by_cases h1 : dotL l (rowL f' o' t') > 0
      · simp only [if_pos h1, decide_eq_true (show 0 < dotL l (rowL f' o' t') from h1), decide_eq_true (show 0 ≤ dotL l (rowL f' o' t') by omega)]
        split <;> exact Ev.now _
      · simp only [if_neg h1, decide_eq_false (show ¬ 0 < dotL l (rowL f' o' t') by omega)]
        by_cases h2 : dotL l (rowL f' o' t') = 0
        · simp only [if_pos h2, decide_eq_true (show 0 ≤ dotL l (rowL f' o' t') by omega)]
          cases strictB f' <;> exact Ev.now _
        · simp only [if_neg h2, decide_eq_false (show ¬ 0 ≤ dotL l (rowL f' o' t') by omega)]
          cases strictB f' <;> exact Ev.now _
    · simp only [decide_eq_false hw, Bool.not_false, Bool.false_and]
      exact ev1 (fun k => by simp only [spec_WeighSo.j0, if_true])
end Go.Proofs.Ytmkfmbjemdbigaa.Sem

end
section
/- Rows of sentences: copied, compared, allowed; in plain words; no condition but a row's length. -/
namespace Go.Proofs.Ytmkfmbjemdbigaa.Sem
open Go.RowKit Go.Proofs.Ytmkfmbjemdbigaa.PA Go.Proofs.YtmkfmbjemdbigaaW.PrintWords Go.Proofs.YtmkfmbjemdbigaaW.PrintLast Go.Proofs.YtmkfmbjemdbigaaW.PrintMore
set_option linter.unusedVariables false
set_option linter.unusedSimpArgs false

theorem okB_ok (k : Int) (x : S25) : Man.okB k x = decide (OkSay k x.f0 x.f1 x.f2) := by
  unfold Man.okB
  rw [impl_isSay_eq]; rfl

end Go.Proofs.Ytmkfmbjemdbigaa.Sem

end
section
/- The reader of draws: each draw comes to an end, and answers a number in its range; no condition but the reader's own shape. -/
namespace Go.Proofs.Ytmkfmbjemdbigaa.Sem
open Go.RowKit Go.Proofs.Ytmkfmbjemdbigaa.PA Go.Proofs.YtmkfmbjemdbigaaW.PrintWords Go.Proofs.YtmkfmbjemdbigaaW.PrintLast Go.Proofs.YtmkfmbjemdbigaaW.PrintMore
set_option linter.unusedVariables false
set_option linter.unusedSimpArgs false

theorem xor_nonneg {a b : Int} (ha : 0 ≤ a) (ha' : a < 1099511627776) (hb : 0 ≤ b) (hb' : b < 1099511627776) : 0 ≤ Go.bits .xor .i64 a b ∧ Go.bits .xor .i64 a b < 1099511627776 := by
  obtain ⟨x, rfl⟩ := Int.eq_ofNat_of_zero_le ha
  obtain ⟨y, rfl⟩ := Int.eq_ofNat_of_zero_le hb
  have hx : x < 2 ^ 40 := by omega
  have hy : y < 2 ^ 40 := by omega
  have h := Nat.xor_lt_two_pow hx hy
  have e : Go.bits .xor .i64 (x : Int) (y : Int) = ((x ^^^ y : Nat) : Int) := by
    have h1 : x % 2 ^ 64 = x := Nat.mod_eq_of_lt (by omega)
    have h2 : y % 2 ^ 64 = y := Nat.mod_eq_of_lt (by omega)
    have e0 : (BitVec.ofNat 64 x ^^^ BitVec.ofNat 64 y).toNat = x ^^^ y := by rw [BitVec.toNat_xor, BitVec.toNat_ofNat, BitVec.toNat_ofNat, h1, h2]
    simp only [Go.bits, BitVec.ofInt_natCast]
    show IntKind.i64.wrap (((BitVec.ofNat 64 x ^^^ BitVec.ofNat 64 y).toNat : Nat) : Int) = _
    rw [e0, IntKind.wrap_i64]
    omega
  rw [e]
  omega

/-- A reader of draws: its bytes, its place, a bound on the place. -/
structure Rd (b : List Int) (p : Int) (m : Int) : Prop where
  bytes : ∀ x ∈ b, 0 ≤ x ∧ x ≤ 255
  len : b.length ≤ 2000
  lo : 0 ≤ p
  hi : p ≤ m
  most : m ≤ 1000000

theorem rd_byte {b : List Int} (h : ∀ x ∈ b, 0 ≤ x ∧ x ≤ 255) (i : Int) : 0 ≤ rd b i ∧ rd b i ≤ 255 := by
  unfold rd
  rw [List.getD_eq_getElem?_getD]
  cases e : b[i.toNat]? with
  | none => simp
  | some x => simpa using h x (List.mem_of_getElem? e)

theorem pick_ok {b : List Int} {p m : Int} (h : Rd b p m) (hm : m + 1 ≤ 1000000) (n : Int) (hn : n ≤ 1000000) :
    ∃ r, (∀ k, spec_l20Rd_pick.f (k + 1) b p n = some (r, p + 1)) ∧ 0 ≤ r ∧ (1 ≤ n → r < n) ∧ (n < 1 → r = 0) ∧ Rd b (p + 1) (m + 1) := by
  have hR : Rd b (p + 1) (m + 1) := ⟨h.bytes, h.len, by have := h.lo; omega, by have := h.hi; omega, hm⟩
  have h0 := h.lo
  have h1 := h.hi
  have hl := h.len
  unfold spec_l20Rd_pick.f
  rw [w64 (n := p + 1) (by omega) (by omega)]
  by_cases hn1 : n < 1
  · refine ⟨0, fun k => ?_, by omega, fun h => by omega, fun _ => rfl, hR⟩
    rw [if_pos hn1]
    simp [spec_l20Rd_pick.j0]
  · simp only [if_neg hn1]
    by_cases hb : (b.length : Int) = 0
    · refine ⟨0, fun k => ?_, by omega, fun h => by omega, fun h => rfl, hR⟩
      simp [spec_l20Rd_pick.j0, hb]
    · have hb' : ((b.length : Int) == 0) = false := by simpa using hb
      rw [hb']
      simp only [spec_l20Rd_pick.j0, Bool.false_eq_true, if_false]
      rw [w64 (n := p + 1 - 1) (by omega) (by omega), show p + 1 - 1 = p by omega]
      by_cases hp : p < (b.length : Int)
      · have hx := rd_byte h.bytes p
        have e : wrap64 (rd b p) = rd b p := w64 (by omega) (by omega)
        refine ⟨Int.tmod (rd b p) n, fun k => ?_, Int.tmod_nonneg _ hx.1, fun _ => Int.tmod_lt_of_pos _ (by omega), fun h => by omega, hR⟩
        rw [if_pos hp, if_pos h0, if_neg (by omega), e]
      · simp only [if_neg hp, if_neg hb]
        have hlp : 0 < (b.length : Int) := by omega
        have t1 : 0 ≤ Int.tmod p (b.length : Int) := Int.tmod_nonneg _ h0
        have t2 : Int.tmod p (b.length : Int) < (b.length : Int) := Int.tmod_lt_of_pos _ hlp
        rw [w64 (n := p * 7) (by omega) (by omega), w64 (n := p * 7 + 3) (by omega) (by omega)]
        have t3 : 0 ≤ Int.tmod (p * 7 + 3) (b.length : Int) := Int.tmod_nonneg _ (by omega)
        have t4 : Int.tmod (p * 7 + 3) (b.length : Int) < (b.length : Int) := Int.tmod_lt_of_pos _ hlp
        simp only [if_pos t1, if_pos t2, if_pos t3, if_pos t4, if_neg (show ¬ n = 0 by omega)]
        have hx := rd_byte h.bytes (Int.tmod p (b.length : Int))
        have hy := rd_byte h.bytes (Int.tmod (p * 7 + 3) (b.length : Int))
        have hq : 0 ≤ Int.tdiv p (b.length : Int) ∧ Int.tdiv p (b.length : Int) ≤ p := by
          rw [Int.tdiv_eq_ediv_of_nonneg h0]
          exact ⟨Int.ediv_nonneg h0 (by omega), Int.ediv_le_self _ h0⟩
        generalize rd b (Int.tmod p (b.length : Int)) = x at hx ⊢
        generalize rd b (Int.tmod (p * 7 + 3) (b.length : Int)) = y at hy ⊢
        generalize Int.tdiv p (b.length : Int) = q at hq ⊢
        rw [w64 (n := x) (by omega) (by omega), w64 (n := y) (by omega) (by omega), w64 (n := x * 131) (by omega) (by omega), w64 (n := y * 1117) (by omega) (by omega),
          w64 (n := x * 131 + y * 1117) (by omega) (by omega), w64 (n := p * 29) (by omega) (by omega), w64 (n := x * 131 + y * 1117 + p * 29) (by omega) (by omega),
          w64 (n := q) (by omega) (by omega), w64 (n := q * 53) (by omega) (by omega), w64 (n := x * 131 + y * 1117 + p * 29 + q * 53) (by omega) (by omega)]
        have hX : 0 ≤ x * 131 + y * 1117 + p * 29 + q * 53 ∧ x * 131 + y * 1117 + p * 29 + q * 53 ≤ 1000000000 := by omega
        generalize x * 131 + y * 1117 + p * 29 + q * 53 = X at hX ⊢
        have hd : 0 ≤ Int.tdiv X 64 ∧ Int.tdiv X 64 ≤ X := by
          rw [Int.tdiv_eq_ediv_of_nonneg hX.1]
          omega
        rw [w64 (n := Int.tdiv X 64) (by omega) (by omega)]
        have hz := xor_nonneg (a := X) (b := Int.tdiv X 64) hX.1 (by omega) hd.1 (by omega)
        exact ⟨_, fun k => rfl, Int.tmod_nonneg _ hz.1, fun _ => Int.tmod_lt_of_pos _ (by omega), fun h => by omega, hR⟩

theorem odd_ok {b : List Int} {p m : Int} (h : Rd b p m) (hm : m + 1 ≤ 1000000) (n : Int) (hn : n ≤ 1000000) :
    ∃ r p', (∀ k, spec_l20Rd_odd.f (k + 1) b p n = some (r, p')) ∧ Rd b p' (m + 1) := by
  unfold spec_l20Rd_odd.f
  by_cases h0 : n > 0
  · obtain ⟨r, hr, _, _, _, hR⟩ := pick_ok h hm n hn
    refine ⟨r == n - 1, p + 1, fun k => ?_, hR⟩
    rw [if_pos h0, hr k, Option.bind_some, w64 (n := n - 1) (by omega) (by omega)]
  · exact ⟨false, p, fun k => by rw [if_neg h0], ⟨h.bytes, h.len, h.lo, by have := h.hi; omega, hm⟩⟩

theorem open_ok {l : List Int} (w : ∀ x ∈ l, (Lit.int .u8 x).wf = true) : ∃ b, spec_l20Open.f l = some (b, 0) ∧ Rd b 0 0 := by
  have hb : ∀ x ∈ l, 0 ≤ x ∧ x ≤ 255 := fun x hx => by
    exact bounds_u8 (w x hx)
  unfold spec_l20Open.f
  by_cases h : (l.length : Int) > 2000
  · refine ⟨l.take 2000, by rw [if_pos h, if_pos (by omega)], fun x hx => hb x (List.mem_of_mem_take hx), ?_, by omega, by omega, by omega⟩
    rw [List.length_take]; omega
  · exact ⟨l, by rw [if_neg h], hb, by omega, by omega, by omega, by omega⟩

theorem Rd.more {b : List Int} {p m m' : Int} (h : Rd b p m) (hm : m ≤ m') (hm' : m' ≤ 1000000) : Rd b p m' := ⟨h.bytes, h.len, h.lo, by have := h.hi; omega, hm'⟩

theorem alive_ok : laws_alive.f = some true := by
  kernel_rfl

end Go.Proofs.Ytmkfmbjemdbigaa.Sem

end
section
/- Draws of rows of sentences that compare numbers: each comes to an end, with at most seven; no condition but the reader's own shape. -/
namespace Go.Proofs.Ytmkfmbjemdbigaa.Sem
open Go.RowKit Go.Proofs.Ytmkfmbjemdbigaa.PA Go.Proofs.YtmkfmbjemdbigaaW.PrintWords Go.Proofs.YtmkfmbjemdbigaaW.PrintLast Go.Proofs.YtmkfmbjemdbigaaW.PrintMore
set_option linter.unusedVariables false
set_option linter.unusedSimpArgs false

theorem l20Weigh_ok {b : List Int} {p m : Int} (h : Rd b p m) (hm : m + 6 ≤ 1000000) (n : Int) (hn : n ≤ 1000000) :
    ∃ f o t p', Ev (fun k => spec_l20Weigh.f k b p n) (f, o, t, p') ∧ Rd b p' (m + 5) := by
  unfold spec_l20Weigh.f
  obtain ⟨r1, e1, _, _, _, h1⟩ := pick_ok h (by omega) 6 (by omega)
  obtain ⟨r2, e2, _, _, _, h2⟩ := pick_ok h1 (by omega) 4 (by omega)
  obtain ⟨r3, e3, _, _, _, h3⟩ := pick_ok h2 (by omega) 4 (by omega)
  obtain ⟨r4, p4, e4, h4⟩ := odd_ok h3 (by omega) n hn
  obtain ⟨r5, e5, _, _, _, h5⟩ := pick_ok h4 (by omega) 3 (by omega)
  cases r4 with
  | false => exact ⟨r1, r2, r3, p4, ev1 (fun k => by simp only [e1 k, e2 k, e3 k, e4 k, Option.bind_some, Bool.false_eq_true, if_false]), h4.more (by omega) (by omega)⟩
  | true =>
    by_cases c0 : r5 = 0
    · exact ⟨6, r2, r3, p4 + 1, ev1 (fun k => by simp only [e1 k, e2 k, e3 k, e4 k, e5 k, Option.bind_some, if_true, if_pos c0]), h5.more (by omega) (by omega)⟩
    · by_cases c1 : r5 = 1
      · exact ⟨r1, 4, r3, p4 + 1, ev1 (fun k => by simp only [e1 k, e2 k, e3 k, e4 k, e5 k, Option.bind_some, if_true, if_neg c0, if_pos c1]), h5.more (by omega) (by omega)⟩
      · exact ⟨r1, r2, -1, p4 + 1, ev1 (fun k => by simp only [e1 k, e2 k, e3 k, e4 k, e5 k, Option.bind_some, if_true, if_neg c0, if_neg c1]), h5.more (by omega) (by omega)⟩
theorem l20Weighed_from (n : Int) (hn : n ≤ 1000) (b : List Int) (j : Nat) : ∀ (l : List S25) (p m : Int), Rd b p m → m + 5 * j + 6 ≤ 1000000 → l.length + j ≤ 7 →
    ∃ l' p', Ev (fun q => spec_l20Weighed.l0 q n l (j : Int) b p) (l', p') ∧ Rd b p' (m + 5 * j) ∧ l'.length = l.length + j := by
  induction j with
  | zero =>
    intro l p m h hm hl
    refine ⟨l, p, ev1 (fun q => ?_), h.more (by omega) (by omega), by omega⟩
    simp only [spec_l20Weighed.l0]
    rw [if_neg (by omega)]
  | succ j ih =>
    intro l p m h hm hl
    have hj : wrap64 (((j + 1 : Nat) : Int) - 1) = (j : Int) := by rw [w64 (by omega) (by omega)]; omega
    obtain ⟨f, o, t, p', es, h'⟩ := l20Weigh_ok h (by omega) n (by omega)
    obtain ⟨l', p'', e', h'', hl'⟩ := ih (l ++ [(⟨f, o, t⟩ : S25)]) p' (m + 5) h' (by omega) (by rw [List.length_append]; simp; omega)
    refine ⟨l', p'', ?_, h''.more (by omega) (by omega), by rw [hl', List.length_append]; simp; omega⟩
    refine Ev.step (f := fun q => (spec_l20Weigh.f q b p n).bind fun bt => (if l.length < 5864062014805 then (spec_l20Weighed.l0 q n (l ++ [(⟨bt.1, bt.2.1, bt.2.2.1⟩ : S25)]) (j : Int) b bt.2.2.2) else (none))) (fun q => ?_) (Ev.bind es ?_)
    · simp only [spec_l20Weighed.l0]
      rw [if_pos (by omega), hj]
    · simp only [if_pos (show l.length < 5864062014805 by omega)]
      exact e'
theorem l20Weighed_len {b : List Int} {p m : Int} (h : Rd b p m) (hm : m + 50 ≤ 1000000) (most n : Int) (h0 : 0 ≤ most) (h5 : most ≤ 5) (hn : n ≤ 1000) :
    ∃ l p', Ev (fun q => spec_l20Weighed.f q b p most n) (l, p') ∧ Rd b p' (m + 40) ∧ (l.length : Int) ≤ most := by
  unfold spec_l20Weighed.f
  have hw : wrap64 (most + 1) = most + 1 := w64 (by omega) (by omega)
  rw [hw]
  obtain ⟨r, er, l2, u2, _, h2⟩ := pick_ok h (by omega) (most + 1) (by omega)
  have u2 := u2 (by omega)
  obtain ⟨j, rfl⟩ := Int.eq_ofNat_of_zero_le l2
  obtain ⟨l', p', e', h', hl'⟩ := l20Weighed_from n hn b j [] (p + 1) (m + 1) h2 (by omega) (by simp; omega)
  exact ⟨l', p', Ev.bind (ev1 er) e', h'.more (by omega) (by omega), by rw [hl']; simp; omega⟩
end Go.Proofs.Ytmkfmbjemdbigaa.Sem

end
section
/- Draws of four numbers and a sentence, and of rows of sentences: each comes to an end; no condition but the reader's own shape. -/
namespace Go.Proofs.Ytmkfmbjemdbigaa.Sem
open Go.RowKit Go.Proofs.Ytmkfmbjemdbigaa.PA Go.Proofs.YtmkfmbjemdbigaaW.PrintWords Go.Proofs.YtmkfmbjemdbigaaW.PrintLast Go.Proofs.YtmkfmbjemdbigaaW.PrintMore
set_option linter.unusedVariables false
set_option linter.unusedSimpArgs false

theorem l20Counts_from (n : Int) (hn : n ≤ 1000) (b : List Int) (j : Nat) : ∀ (l : List Int) (p m : Int), Rd b p m → m + 3 * j + 2 ≤ 1000000 → l.length + j = 4 → (∀ x ∈ l, -1 ≤ x ∧ x ≤ 9) →
    ∃ l' p', Ev (fun q => spec_l20Counts.l0 q n l ((4 - j : Nat) : Int) b p) (l', p') ∧ Rd b p' (m + 3 * j + 2) ∧ l'.length ≤ 5 ∧ (∀ x ∈ l', -1 ≤ x ∧ x ≤ 9) := by
  induction j with
  | zero =>
    intro l p m h hm hl hx
    obtain ⟨r, p', e, h'⟩ := odd_ok h (by omega) n (by omega)
    have start : ∀ y, Ev (fun q => if r = true then ((spec_l20Rd_pick.f q b p' 2).bind fun bt533 => (if bt533.1 = 0 then (if l.length < 17592186044416 then (some ((l ++ [0]), bt533.2)) else (none)) else (if 0 < (l.length : Int) then (some ((l.set (0 : Int).toNat (-1)), bt533.2)) else (none)))) else (some (l, p'))) y → Ev (fun q => spec_l20Counts.l0 q n l ((4 - 0 : Nat) : Int) b p) y := by
      intro y hy
      refine Ev.step (f := fun q => (spec_l20Rd_odd.f q b p n).bind fun bt531 => (if bt531.1 = true then ((spec_l20Rd_pick.f q b bt531.2 2).bind fun bt533 => (if bt533.1 = 0 then (if l.length < 17592186044416 then (some ((l ++ [0]), bt533.2)) else (none)) else (if 0 < (l.length : Int) then (some ((l.set (0 : Int).toNat (-1)), bt533.2)) else (none)))) else (some (l, bt531.2)))) (fun q => ?_) (Ev.bind (ev1 e) hy)
      simp only [spec_l20Counts.l0]
      rw [if_neg (by omega)]
    cases r with
    | false =>
      refine ⟨l, p', start _ ?_, h'.more (by omega) (by omega), by omega, hx⟩
      simp only [Bool.false_eq_true, if_false]
      exact Ev.now _
    | true =>
      obtain ⟨r2, e2, _, _, _, h2⟩ := pick_ok h' (by omega) 2 (by omega)
      by_cases c0 : r2 = 0
      · refine ⟨l ++ [0], p' + 1, start _ ?_, h2.more (by omega) (by omega), by rw [List.length_append]; simp; omega, fun x hx' => ?_⟩
        · simp only [if_true]
          refine Ev.bind (ev1 e2) ?_
          simp only [if_pos c0, if_pos (show l.length < 17592186044416 by omega)]
          exact Ev.now _
        · rcases List.mem_append.1 hx' with hx' | hx'
          · exact hx x hx'
          · obtain rfl := List.mem_singleton.1 hx'
            omega
      · refine ⟨l.set (0 : Int).toNat (-1), p' + 1, start _ ?_, h2.more (by omega) (by omega), by rw [List.length_set]; omega, fun x hx' => ?_⟩
        · simp only [if_true]
          refine Ev.bind (ev1 e2) ?_
          simp only [if_neg c0, if_pos (show (0 : Int) < (l.length : Int) by omega)]
          exact Ev.now _
        · rcases List.mem_or_eq_of_mem_set hx' with hx' | hx'
          · exact hx x hx'
          · omega
  | succ j ih =>
    intro l p m h hm hl hx
    obtain ⟨r1, e1, l1, u1, _, h1⟩ := pick_ok h (by omega) 4 (by omega)
    have u1 := u1 (by omega)
    obtain ⟨r2, e2, l2, u2, _, h2⟩ := pick_ok h1 (by omega) 10 (by omega)
    have u2 := u2 (by omega)
    obtain ⟨r3, e3, l3, u3, _, h3⟩ := pick_ok h2 (by omega) 4 (by omega)
    have u3 := u3 (by omega)
    have hv : -1 ≤ rd [0, 1, r1, r2] r3 ∧ rd [0, 1, r1, r2] r3 ≤ 9 := by
      have : r3 = 0 ∨ r3 = 1 ∨ r3 = 2 ∨ r3 = 3 := by omega
      rcases this with rfl | rfl | rfl | rfl <;> simp [rd] <;> omega
    obtain ⟨l', p', e', h', hl', hx'⟩ := ih (l ++ [rd [0, 1, r1, r2] r3]) (p + 1 + 1 + 1) (m + 1 + 1 + 1) h3 (by omega) (by rw [List.length_append]; simp; omega) (fun x hx' => by
      rcases List.mem_append.1 hx' with hx' | hx'
      · exact hx x hx'
      · obtain rfl := List.mem_singleton.1 hx'
        exact hv)
    have hw : wrap64 (((4 - (j + 1) : Nat) : Int) + 1) = ((4 - j : Nat) : Int) := by rw [w64 (by omega) (by omega)]; omega
    refine ⟨l', p', ?_, h'.more (by omega) (by omega), hl', hx'⟩
    refine Ev.step (f := fun q => (spec_l20Rd_pick.f q b p 4).bind fun bt518 => ((spec_l20Rd_pick.f q b bt518.2 10).bind fun bt520 => ((spec_l20Rd_pick.f q b bt520.2 4).bind fun bt525 => spec_l20Counts.l0 q n (l ++ [rd [0, 1, bt518.1, bt520.1] bt525.1]) ((4 - j : Nat) : Int) b bt525.2))) (fun q => ?_) (Ev.bind (ev1 e1) (Ev.bind (ev1 e2) (Ev.bind (ev1 e3) e')))
    simp only [spec_l20Counts.l0]
    rw [if_pos (by omega)]
    cases q with
    | zero => simp [spec_l20Rd_pick.f, spec_l20Rd_pick.j0]
    | succ q =>
      simp only [e1 q, e2 q, e3 q, Option.bind_some, hw]
      rw [if_pos l3, if_pos (by simpa using u3), if_pos (by omega)]

theorem l20Counts_ok {b : List Int} {p m : Int} (h : Rd b p m) (hm : m + 14 ≤ 1000000) (n : Int) (hn : n ≤ 1000) :
    ∃ l p', Ev (fun q => spec_l20Counts.f q b p n) (l, p') ∧ Rd b p' (m + 14) ∧ l.length ≤ 5 ∧ (∀ x ∈ l, -1 ≤ x ∧ x ≤ 9) := by
  obtain ⟨l', p', e', h', hl', hx'⟩ := l20Counts_from n hn b 4 [] p m h (by omega) (by simp) (fun x hx => by simp at hx)
  exact ⟨l', p', e', h'.more (by omega) (by omega), hl', hx'⟩
theorem drawWeighSo_ok (l0 : List Int) (w0 : ∀ x ∈ l0, (Lit.int .u8 x).wf = true) : ∃ l f o t, Ev (fun q => spec_DrawWeighSo.f q l0) (l, f, o, t) ∧ l.length ≤ 5 ∧ ∀ x ∈ l, -1 ≤ x ∧ x ≤ 9 := by
  obtain ⟨b, eo, hb⟩ := open_ok w0
  obtain ⟨l, p, ec, hc, hl, hx⟩ := l20Counts_ok hb (by omega) 14 (by omega)
  obtain ⟨f, o, t, p', ew, _⟩ := l20Weigh_ok hc (by omega) 14 (by omega)
  refine ⟨l, f, o, t, ?_, hl, hx⟩
  unfold spec_DrawWeighSo.f
  simp only [eo, Option.bind_some]
  exact Ev.bind ec (Ev.bind ew (Ev.now _))
end Go.Proofs.Ytmkfmbjemdbigaa.Sem

end
section
/- Cones of rows in four dimensions: a strict row that is > 0 somewhere in the cone is > 0 at a corner. Plain maths, no program. -/
set_option linter.unusedVariables false
namespace Go.Proofs.Ytmkfmbjemdbigaa.Cone
structure V where
  a : Int
  b : Int
  c : Int
  d : Int
theorem V.ext {x y : V} (h0 : x.a = y.a) (h1 : x.b = y.b) (h2 : x.c = y.c) (h3 : x.d = y.d) : x = y := by
  cases x; cases y; cases h0; cases h1; cases h2; cases h3; rfl
def dot (x y : V) : Int := x.a * y.a + x.b * y.b + x.c * y.c + x.d * y.d
def mnr (x y z : V) : V :=
  ⟨x.b * (y.c * z.d - y.d * z.c) - x.c * (y.b * z.d - y.d * z.b) + x.d * (y.b * z.c - y.c * z.b),
   -(x.a * (y.c * z.d - y.d * z.c) - x.c * (y.a * z.d - y.d * z.a) + x.d * (y.a * z.c - y.c * z.a)),
   x.a * (y.b * z.d - y.d * z.b) - x.b * (y.a * z.d - y.d * z.a) + x.d * (y.a * z.b - y.b * z.a),
   -(x.a * (y.b * z.c - y.c * z.b) - x.b * (y.a * z.c - y.c * z.a) + x.c * (y.a * z.b - y.b * z.a))⟩
structure Par (x y : V) : Prop where
  ab : x.a * y.b = x.b * y.a
  ac : x.a * y.c = x.c * y.a
  ad : x.a * y.d = x.d * y.a
  bc : x.b * y.c = x.c * y.b
  bd : x.b * y.d = x.d * y.b
  cd : x.c * y.d = x.d * y.c
def Zero (x : V) : Prop := x.a = 0 ∧ x.b = 0 ∧ x.c = 0 ∧ x.d = 0
def e0 : V := ⟨1, 0, 0, 0⟩
def e1 : V := ⟨0, 1, 0, 0⟩
def e2 : V := ⟨0, 0, 1, 0⟩
def e3 : V := ⟨0, 0, 0, 1⟩
theorem dot_mnr0 (x y z : V) : dot x (mnr x y z) = 0 := by unfold dot mnr; grind
theorem dot_mnr1 (x y z : V) : dot y (mnr x y z) = 0 := by unfold dot mnr; grind
theorem dot_mnr2 (x y z : V) : dot z (mnr x y z) = 0 := by unfold dot mnr; grind
theorem dot_turn (u x y z : V) : dot u (mnr x y z) = - dot z (mnr x y u) := by unfold dot mnr; grind
theorem par_ker {x y z v : V} (h0 : dot x v = 0) (h1 : dot y v = 0) (h2 : dot z v = 0) : Par (mnr x y z) v := by
  unfold dot at h0 h1 h2
  constructor <;> simp only [mnr]
  · have : ∀ p q r : Int, p * (x.a * v.a + x.b * v.b + x.c * v.c + x.d * v.d) = 0 := by intro p q r; rw [h0, Int.mul_zero]
    grind
  · grind
  · grind
  · grind
  · grind
  · grind
end Go.Proofs.Ytmkfmbjemdbigaa.Cone

namespace Go.Proofs.Ytmkfmbjemdbigaa.Cone
theorem zero_of {p q : Int} (hp : p ≠ 0) (h : p * q = 0) : q = 0 := (Int.mul_eq_zero.1 h).resolve_left hp
theorem caseA_core {x y c : V} (h : ¬ Par x y) (hc : ¬ Zero c) (h0 : Par c (mnr x y e0)) (h1 : Par c (mnr x y e1)) (h2 : Par c (mnr x y e2)) (h3 : Par c (mnr x y e3)) : False := by
  apply h
  obtain ⟨a1, a2, a3, a4, a5, a6⟩ := h0
  obtain ⟨b1, b2, b3, b4, b5, b6⟩ := h1
  obtain ⟨c1, c2, c3, c4, c5, c6⟩ := h2
  obtain ⟨d1, d2, d3, d4, d5, d6⟩ := h3
  simp only [mnr, e0, e1, e2, e3] at *
  unfold Zero at hc
  constructor
  all_goals
    apply Decidable.byContradiction
    intro hp
    apply hc
  · have hp' : x.a * y.b - x.b * y.a ≠ 0 := by grind
    exact ⟨zero_of hp' (by grind), zero_of hp' (by grind), zero_of hp' (by grind), zero_of hp' (by grind)⟩
  · have hp' : x.a * y.c - x.c * y.a ≠ 0 := by grind
    exact ⟨zero_of hp' (by grind), zero_of hp' (by grind), zero_of hp' (by grind), zero_of hp' (by grind)⟩
  · have hp' : x.a * y.d - x.d * y.a ≠ 0 := by grind
    exact ⟨zero_of hp' (by grind), zero_of hp' (by grind), zero_of hp' (by grind), zero_of hp' (by grind)⟩
  · have hp' : x.b * y.c - x.c * y.b ≠ 0 := by grind
    exact ⟨zero_of hp' (by grind), zero_of hp' (by grind), zero_of hp' (by grind), zero_of hp' (by grind)⟩
  · have hp' : x.b * y.d - x.d * y.b ≠ 0 := by grind
    exact ⟨zero_of hp' (by grind), zero_of hp' (by grind), zero_of hp' (by grind), zero_of hp' (by grind)⟩
  · have hp' : x.c * y.d - x.d * y.c ≠ 0 := by grind
    exact ⟨zero_of hp' (by grind), zero_of hp' (by grind), zero_of hp' (by grind), zero_of hp' (by grind)⟩

/-- Without three independent bounds that are tight there is a way along them. -/
theorem way (K : V → Prop) (c : V) (hc : ¬ Zero c) (hK : ∀ k, K k → dot k c = 0) :
    (∃ x y z, K x ∧ K y ∧ K z ∧ ¬ Zero (mnr x y z)) ∨ ∃ d, ¬ Par c d ∧ ∀ k, K k → dot k d = 0 := by
  apply Classical.byContradiction
  intro hn
  have h3 : ∀ x y z, K x → K y → K z → Zero (mnr x y z) := fun x y z hx hy hz => Classical.byContradiction fun h => hn (Or.inl ⟨x, y, z, hx, hy, hz, h⟩)
  have hd : ∀ d, (∀ k, K k → dot k d = 0) → Par c d := fun d hk => Classical.byContradiction fun h => hn (Or.inr ⟨d, h, hk⟩)
  by_cases hp : ∃ x y, K x ∧ K y ∧ ¬ Par x y
  · obtain ⟨x, y, hx, hy, hxy⟩ := hp
    have hu : ∀ u, Par c (mnr x y u) := fun u => hd _ fun k hk => by
      rw [dot_turn]
      obtain ⟨z0, z1, z2, z3⟩ := h3 x y k hx hy hk
      unfold dot
      rw [z0, z1, z2, z3]
      simp
    exact caseA_core hxy hc (hu _) (hu _) (hu _) (hu _)
  · have hp2 : ∀ x y, K x → K y → Par x y := fun x y hx hy => Classical.byContradiction fun h => hp ⟨x, y, hx, hy, h⟩
    by_cases hz : ∃ x, K x ∧ ¬ Zero x
    · obtain ⟨x, hx, hz⟩ := hz
      have g0 := hd ⟨x.b, -x.a, 0, 0⟩ fun k hk => by have := (hp2 x k hx hk).ab; unfold dot; grind
      have g1 := hd ⟨x.c, 0, -x.a, 0⟩ fun k hk => by have := (hp2 x k hx hk).ac; unfold dot; grind
      have g2 := hd ⟨x.d, 0, 0, -x.a⟩ fun k hk => by have := (hp2 x k hx hk).ad; unfold dot; grind
      have g3 := hd ⟨0, x.c, -x.b, 0⟩ fun k hk => by have := (hp2 x k hx hk).bc; unfold dot; grind
      have g4 := hd ⟨0, x.d, 0, -x.b⟩ fun k hk => by have := (hp2 x k hx hk).bd; unfold dot; grind
      have g5 := hd ⟨0, 0, x.d, -x.c⟩ fun k hk => by have := (hp2 x k hx hk).cd; unfold dot; grind
      obtain ⟨a1, a2, a3, a4, a5, a6⟩ := g0
      obtain ⟨b1, b2, b3, b4, b5, b6⟩ := g1
      obtain ⟨c1, c2, c3, c4, c5, c6⟩ := g2
      obtain ⟨d1, d2, d3, d4, d5, d6⟩ := g3
      obtain ⟨i1, i2, i3, i4, i5, i6⟩ := g4
      obtain ⟨j1, j2, j3, j4, j5, j6⟩ := g5
      simp only at *
      apply hz
      unfold Zero at hc ⊢
      refine ⟨?_, ?_, ?_, ?_⟩
      all_goals
        apply Decidable.byContradiction
        intro hq
        apply hc
        exact ⟨zero_of hq (by grind), zero_of hq (by grind), zero_of hq (by grind), zero_of hq (by grind)⟩
    · have hz2 : ∀ k, K k → Zero k := fun k hk => Classical.byContradiction fun h => hz ⟨k, hk, h⟩
      have hu : ∀ u, Par c u := fun u => hd u fun k hk => by
        obtain ⟨z0, z1, z2, z3⟩ := hz2 k hk
        unfold dot; rw [z0, z1, z2, z3]; simp
      obtain ⟨a1, a2, a3, a4, a5, a6⟩ := hu e0
      obtain ⟨b1, b2, b3, b4, b5, b6⟩ := hu e1
      simp only [e0, e1] at *
      apply hc
      unfold Zero
      refine ⟨?_, ?_, ?_, ?_⟩ <;> omega

def sm (x : V) : Int := x.a + x.b + x.c + x.d
def comb (p : Int) (x : V) (q : Int) (y : V) : V := ⟨p * x.a + q * y.a, p * x.b + q * y.b, p * x.c + q * y.c, p * x.d + q * y.d⟩
theorem dot_comb (b : V) (p : Int) (x : V) (q : Int) (y : V) : dot b (comb p x q y) = p * dot b x + q * dot b y := by unfold dot comb; grind
theorem sm_comb (p : Int) (x : V) (q : Int) (y : V) : sm (comb p x q y) = p * sm x + q * sm y := by unfold sm comb; grind
theorem cancel_le {p x y : Int} (hp : 0 < p) (h : p * x ≤ p * y) : x ≤ y := Int.le_of_mul_le_mul_left h hp
/-- Of some with a weight below 0 one is reached first. -/
theorem min_ratio (f g : V → Int) : ∀ L : List V, (∃ b, b ∈ L ∧ g b < 0) → ∃ b, b ∈ L ∧ g b < 0 ∧ ∀ x, x ∈ L → g x < 0 → f b * (- g x) ≤ f x * (- g b)
  | [], ⟨b, hb, _⟩ => absurd hb (List.not_mem_nil)
  | t :: L, h => by
    by_cases hL : ∃ b, b ∈ L ∧ g b < 0
    · obtain ⟨b, hb, hg, hm⟩ := min_ratio f g L hL
      by_cases ht : g t < 0 ∧ f t * (- g b) ≤ f b * (- g t)
      · refine ⟨t, List.mem_cons_self, ht.1, ?_⟩
        intro x hx hgx
        rcases List.mem_cons.1 hx with rfl | hx
        · exact Int.le_refl _
        · have h1 := hm x hx hgx
          refine cancel_le (p := - g b) (by omega) ?_
          have h2 : (f t * (- g b)) * (- g x) ≤ (f b * (- g t)) * (- g x) := Int.mul_le_mul_of_nonneg_right ht.2 (by omega)
          have h3 : (f b * (- g x)) * (- g t) ≤ (f x * (- g b)) * (- g t) := Int.mul_le_mul_of_nonneg_right h1 (by omega)
          grind
      · refine ⟨b, List.mem_cons_of_mem _ hb, hg, ?_⟩
        intro x hx hgx
        rcases List.mem_cons.1 hx with rfl | hx
        · have : ¬ (f x * (- g b) ≤ f b * (- g x)) := fun h => ht ⟨hgx, h⟩
          omega
        · exact hm x hx hgx
    · obtain ⟨b, hb, hg⟩ := h
      rcases List.mem_cons.1 hb with rfl | hb
      · refine ⟨b, List.mem_cons_self, hg, ?_⟩
        intro x hx hgx
        rcases List.mem_cons.1 hx with rfl | hx
        · exact Int.le_refl _
        · exact absurd ⟨x, hx, hgx⟩ hL
      · exact absurd ⟨b, hb, hg⟩ hL
theorem countP_lt {p q : V → Bool} : ∀ L : List V, (∀ x, x ∈ L → q x = true → p x = true) → (∃ b, b ∈ L ∧ p b = true ∧ q b = false) → L.countP q < L.countP p
  | [], _, ⟨b, hb, _⟩ => absurd hb (List.not_mem_nil)
  | t :: L, h, ⟨b, hb, hp, hq⟩ => by
    have hle : L.countP q ≤ L.countP p := by
      have : ∀ L : List V, (∀ x, x ∈ L → q x = true → p x = true) → L.countP q ≤ L.countP p := fun L h => List.countP_mono_left h
      exact this L fun x hx => h x (List.mem_cons_of_mem _ hx)
    rcases List.mem_cons.1 hb with rfl | hb
    · rw [List.countP_cons, List.countP_cons, hp, hq]
      simp
      omega
    · have := countP_lt L (fun x hx => h x (List.mem_cons_of_mem _ hx)) ⟨b, hb, hp, hq⟩
      rw [List.countP_cons, List.countP_cons]
      by_cases hqt : q t = true
      · rw [if_pos hqt, if_pos (h t List.mem_cons_self hqt)]; omega
      · rw [if_neg hqt]; omega
def opp (x : V) : V := ⟨-x.a, -x.b, -x.c, -x.d⟩
structure Has (B : List V) : Prop where
  h0 : e0 ∈ B
  h1 : e1 ∈ B
  h2 : e2 ∈ B
  h3 : e3 ∈ B
theorem dot_e0 (x : V) : dot e0 x = x.a := by unfold dot e0; grind
theorem dot_e1 (x : V) : dot e1 x = x.b := by unfold dot e1; grind
theorem dot_e2 (x : V) : dot e2 x = x.c := by unfold dot e2; grind
theorem dot_e3 (x : V) : dot e3 x = x.d := by unfold dot e3; grind
theorem below_of {B : List V} (hB : Has B) {d : V} (hs : sm d = 0) (hz : ¬ Zero d) : ∃ b, b ∈ B ∧ dot b d < 0 := by
  apply Classical.byContradiction
  intro hn
  have h : ∀ b, b ∈ B → 0 ≤ dot b d := fun b hb => by
    apply Decidable.byContradiction
    intro h
    exact hn ⟨b, hb, by omega⟩
  have h0 := h e0 hB.h0
  have h1 := h e1 hB.h1
  have h2 := h e2 hB.h2
  have h3 := h e3 hB.h3
  rw [dot_e0] at h0
  rw [dot_e1] at h1
  rw [dot_e2] at h2
  rw [dot_e3] at h3
  unfold sm at hs
  apply hz
  unfold Zero
  omega
/-- What is more than 0 somewhere in the cone is so at a corner. -/
theorem corner_of {B : List V} (hB : Has B) (r : V) : ∀ n (c : V), B.countP (fun b => decide (dot b c ≠ 0)) ≤ n → (∀ b, b ∈ B → 0 ≤ dot b c) → 0 < dot r c →
    ∃ x y z v, x ∈ B ∧ y ∈ B ∧ z ∈ B ∧ ¬ Zero (mnr x y z) ∧ (∀ b, b ∈ B → 0 ≤ dot b v) ∧ 0 < dot r v ∧ dot x v = 0 ∧ dot y v = 0 ∧ dot z v = 0 := by
  intro n
  induction n with
  | zero =>
    intro c hn hc hr
    exfalso
    have h : ∀ b, b ∈ B → dot b c = 0 := fun b hb => by
      apply Decidable.byContradiction
      intro h
      have := List.countP_pos_iff (p := fun b => decide (dot b c ≠ 0)).2 ⟨b, hb, decide_eq_true h⟩
      omega
    have h0 := h e0 hB.h0
    have h1 := h e1 hB.h1
    have h2 := h e2 hB.h2
    have h3 := h e3 hB.h3
    rw [dot_e0] at h0
    rw [dot_e1] at h1
    rw [dot_e2] at h2
    rw [dot_e3] at h3
    unfold dot at hr
    rw [h0, h1, h2, h3] at hr
    simp at hr
  | succ n ih =>
    intro c hn hc hr
    have hz : ¬ Zero c := by
      rintro ⟨z0, z1, z2, z3⟩
      unfold dot at hr
      rw [z0, z1, z2, z3] at hr
      simp at hr
    have hs : 0 < sm c := by
      have h0 := hc e0 hB.h0
      have h1 := hc e1 hB.h1
      have h2 := hc e2 hB.h2
      have h3 := hc e3 hB.h3
      rw [dot_e0] at h0
      rw [dot_e1] at h1
      rw [dot_e2] at h2
      rw [dot_e3] at h3
      unfold sm
      apply Decidable.byContradiction
      intro hn
      apply hz
      unfold Zero
      omega
    rcases way (fun b => b ∈ B ∧ dot b c = 0) c hz (fun k hk => hk.2) with ⟨x, y, z, hx, hy, hzz, hm⟩ | ⟨d, hp, hd⟩
    · exact ⟨x, y, z, c, hx.1, hy.1, hzz.1, hm, hc, hr, hx.2, hy.2, hzz.2⟩
    · obtain ⟨d1, hd1⟩ : ∃ d1, d1 = comb (sm c) d (-(sm d)) c := ⟨_, rfl⟩
      have hs1 : sm d1 = 0 := by rw [hd1, sm_comb]; grind
      have hz1 : ¬ Zero d1 := by
        rintro ⟨z0, z1, z2, z3⟩
        rw [hd1] at z0 z1 z2 z3
        simp only [comb] at z0 z1 z2 z3
        apply hp
        have hs' : sm c ≠ 0 := by omega
        clear hd1 hs1 ih hc hr hd hn
        generalize sm c = p at *
        generalize sm d = q at *
        have g := fun x y => @zero_of p (x - y) hs'
        constructor
        · have := g (c.a * d.b) (c.b * d.a) (by grind); omega
        · have := g (c.a * d.c) (c.c * d.a) (by grind); omega
        · have := g (c.a * d.d) (c.d * d.a) (by grind); omega
        · have := g (c.b * d.c) (c.c * d.b) (by grind); omega
        · have := g (c.b * d.d) (c.d * d.b) (by grind); omega
        · have := g (c.c * d.d) (c.d * d.c) (by grind); omega
      have hk1 : ∀ k, k ∈ B → dot k c = 0 → dot k d1 = 0 := fun k hk h0 => by rw [hd1, dot_comb, hd k ⟨hk, h0⟩, h0]; simp
      clear hd1 hd hp
      obtain ⟨d2, hs2, hz2, hk2, hr2⟩ : ∃ d2, sm d2 = 0 ∧ ¬ Zero d2 ∧ (∀ k, k ∈ B → dot k c = 0 → dot k d2 = 0) ∧ 0 ≤ dot r d2 := by
        by_cases h : 0 ≤ dot r d1
        · exact ⟨d1, hs1, hz1, hk1, h⟩
        · have hop : ∀ k, dot k (opp d1) = - dot k d1 := fun k => by unfold dot opp; grind
          refine ⟨opp d1, ?_, ?_, fun k hk h0 => ?_, ?_⟩
          · unfold sm opp; unfold sm at hs1; simp only; omega
          · intro hz; apply hz1; unfold Zero opp at hz; unfold Zero; simp only at hz; omega
          · rw [hop, hk1 k hk h0]; rfl
          · rw [hop]; omega
      clear hs1 hz1 hk1 d1
      obtain ⟨b, hb, hg, hmin⟩ : ∃ b, b ∈ B ∧ dot b d2 < 0 ∧ ∀ x, x ∈ B → dot x d2 < 0 → dot b c * (- dot x d2) ≤ dot x c * (- dot b d2) := min_ratio (fun b => dot b c) (fun b => dot b d2) B (below_of hB hs2 hz2)
      have hbc : 0 < dot b c := by
        have h := hc b hb
        by_cases h0 : dot b c = 0
        · have := hk2 b hb h0; omega
        · omega
      obtain ⟨c2, hc2⟩ : ∃ c2, c2 = comb (-(dot b d2)) c (dot b c) d2 := ⟨_, rfl⟩
      have hdc : ∀ k, dot k c2 = (-(dot b d2)) * dot k c + dot b c * dot k d2 := fun k => by rw [hc2, dot_comb]
      refine ih c2 ?_ ?_ ?_
      · have := countP_lt (p := fun k => decide (dot k c ≠ 0)) (q := fun k => decide (dot k c2 ≠ 0)) B (fun x hx hq => by
          refine decide_eq_true fun h0 => ?_
          have := of_decide_eq_true hq
          apply this
          rw [hdc, h0, hk2 x hx h0]
          simp) ⟨b, hb, decide_eq_true (by omega), decide_eq_false (by rw [hdc]; grind)⟩
        omega
      · intro k hk
        rw [hdc]
        have h1 := hc k hk
        by_cases hkd : dot k d2 < 0
        · have := hmin k hk hkd
          grind
        · have h2 : 0 ≤ (-(dot b d2)) * dot k c := Int.mul_nonneg (by omega) h1
          have h3 : 0 ≤ dot b c * dot k d2 := Int.mul_nonneg (by omega) (by omega)
          omega
      · rw [hdc]
        have h2 : 0 < (-(dot b d2)) * dot r c := Int.mul_pos (by omega) hr
        have h3 : 0 ≤ dot b c * dot r d2 := Int.mul_nonneg (by omega) hr2
        omega
end Go.Proofs.Ytmkfmbjemdbigaa.Cone

end
section
/- What lineOf answers, in plain words: the one row of numbers from 0 on, that no number but 1 divides, on the line of a minor. -/
namespace Go.Proofs.Ytmkfmbjemdbigaa.Cor
open Go.RowKit Go.Proofs.Ytmkfmbjemdbigaa.PA Go.Proofs.YtmkfmbjemdbigaaW.PrintWords Go.Proofs.YtmkfmbjemdbigaaW.PrintLast Go.Proofs.YtmkfmbjemdbigaaW.PrintMore
set_option linter.unusedVariables false
set_option linter.unusedSimpArgs false

def gcd4 (a b c d : Nat) : Nat := Nat.gcd (Nat.gcd (Nat.gcd (Nat.gcd 0 a) b) c) d
theorem gcd4_mul (k a b c d : Nat) : gcd4 (k * a) (k * b) (k * c) (k * d) = k * gcd4 a b c d := by
  unfold gcd4
  rw [Nat.gcd_zero_left, Nat.gcd_zero_left, Nat.gcd_mul_left, Nat.gcd_mul_left, Nat.gcd_mul_left]
theorem gcd4_dvd (a b c d : Nat) : gcd4 a b c d ∣ a ∧ gcd4 a b c d ∣ b ∧ gcd4 a b c d ∣ c ∧ gcd4 a b c d ∣ d := by
  unfold gcd4
  rw [Nat.gcd_zero_left]
  exact ⟨Nat.dvd_trans (Nat.gcd_dvd_left _ _) (Nat.dvd_trans (Nat.gcd_dvd_left _ _) (Nat.gcd_dvd_left _ _)), Nat.dvd_trans (Nat.gcd_dvd_left _ _) (Nat.dvd_trans (Nat.gcd_dvd_left _ _) (Nat.gcd_dvd_right _ _)), Nat.dvd_trans (Nat.gcd_dvd_left _ _) (Nat.gcd_dvd_right _ _), Nat.gcd_dvd_right _ _⟩
theorem gcd4_zero (a b c d : Nat) : gcd4 a b c d = 0 ↔ a = 0 ∧ b = 0 ∧ c = 0 ∧ d = 0 := by
  unfold gcd4
  rw [Nat.gcd_zero_left, Nat.gcd_eq_zero_iff, Nat.gcd_eq_zero_iff, Nat.gcd_eq_zero_iff]
  omega
theorem gl_eq (m : Nat → Int) : Man.gl m 4 = gcd4 (Man.vl m 0).natAbs (Man.vl m 1).natAbs (Man.vl m 2).natAbs (Man.vl m 3).natAbs := rfl
theorem min_neg (a b c d : Int) : Go.Lib.minOf [a, b, c, d] < 0 ↔ a < 0 ∨ b < 0 ∨ c < 0 ∨ d < 0 := by
  unfold Go.Lib.minOf
  simp only [List.headD, List.foldl]
  omega
/-- The row's numbers are from 0 on, and none but 1 divides them. -/
structure Prim (x0 x1 x2 x3 : Int) : Prop where
  n0 : 0 ≤ x0
  n1 : 0 ≤ x1
  n2 : 0 ≤ x2
  n3 : 0 ≤ x3
  g : gcd4 x0.natAbs x1.natAbs x2.natAbs x3.natAbs = 1
theorem mul_tdiv {D v : Int} (h : D ∣ v) : v = D * Int.tdiv v D := (Int.mul_tdiv_cancel' h).symm
theorem line_some (m : Nat → Int) (h : Man.lineL m ≠ []) : ∃ D x0 x1 x2 x3 : Int, D ≠ 0 ∧ Man.lineL m = [x0, x1, x2, x3] ∧ Prim x0 x1 x2 x3 ∧ Man.vl m 0 = D * x0 ∧ Man.vl m 1 = D * x1 ∧ Man.vl m 2 = D * x2 ∧ Man.vl m 3 = D * x3 := by
  unfold Man.lineL at h ⊢
  split at h
  · exact absurd rfl h
  · next hg =>
    split at h
    · exact absurd rfl h
    · next hm =>
      rw [if_neg hg, if_neg hm]
      have eo : Man.ol m = [Int.tdiv (Man.vl m 0) (Man.dl m), Int.tdiv (Man.vl m 1) (Man.dl m), Int.tdiv (Man.vl m 2) (Man.dl m), Int.tdiv (Man.vl m 3) (Man.dl m)] := rfl
      rw [eo, min_neg] at hm
      have hd : Man.dl m = (Man.gl m 4 : Int) ∨ Man.dl m = -(Man.gl m 4 : Int) := by
        unfold Man.dl
        split
        · exact Or.inr rfl
        · exact Or.inl rfl
      have hD : Man.dl m ≠ 0 := by omega
      obtain ⟨v0, e0⟩ : ∃ v, v = Man.vl m 0 := ⟨_, rfl⟩
      obtain ⟨v1, e1⟩ : ∃ v, v = Man.vl m 1 := ⟨_, rfl⟩
      obtain ⟨v2, e2⟩ : ∃ v, v = Man.vl m 2 := ⟨_, rfl⟩
      obtain ⟨v3, e3⟩ : ∃ v, v = Man.vl m 3 := ⟨_, rfl⟩
      have hgl := gl_eq m
      rw [eo]
      rw [← e0, ← e1, ← e2, ← e3] at hgl hm ⊢
      have hdv := gcd4_dvd v0.natAbs v1.natAbs v2.natAbs v3.natAbs
      rw [← hgl] at hdv
      have hdiv : ∀ v : Int, Man.gl m 4 ∣ v.natAbs → Man.dl m ∣ v := by
        intro v hv
        have : (Man.gl m 4 : Int) ∣ v := Int.ofNat_dvd_left.2 hv
        rcases hd with e | e <;> rw [e]
        · exact this
        · exact Int.neg_dvd.2 this
      have m0 := mul_tdiv (hdiv v0 hdv.1)
      have m1 := mul_tdiv (hdiv v1 hdv.2.1)
      have m2 := mul_tdiv (hdiv v2 hdv.2.2.1)
      have m3 := mul_tdiv (hdiv v3 hdv.2.2.2)
      refine ⟨Man.dl m, _, _, _, _, hD, rfl, ⟨by omega, by omega, by omega, by omega, ?_⟩, m0, m1, m2, m3⟩
      have hDa : (Man.dl m).natAbs = Man.gl m 4 := by omega
      have a0 : v0.natAbs = Man.gl m 4 * (Int.tdiv v0 (Man.dl m)).natAbs := by rw [← hDa, ← Int.natAbs_mul, ← m0]
      have a1 : v1.natAbs = Man.gl m 4 * (Int.tdiv v1 (Man.dl m)).natAbs := by rw [← hDa, ← Int.natAbs_mul, ← m1]
      have a2 : v2.natAbs = Man.gl m 4 * (Int.tdiv v2 (Man.dl m)).natAbs := by rw [← hDa, ← Int.natAbs_mul, ← m2]
      have a3 : v3.natAbs = Man.gl m 4 * (Int.tdiv v3 (Man.dl m)).natAbs := by rw [← hDa, ← Int.natAbs_mul, ← m3]
      have hk : Man.gl m 4 = Man.gl m 4 * gcd4 (Int.tdiv v0 (Man.dl m)).natAbs (Int.tdiv v1 (Man.dl m)).natAbs (Int.tdiv v2 (Man.dl m)).natAbs (Int.tdiv v3 (Man.dl m)).natAbs := by
        rw [← gcd4_mul, ← a0, ← a1, ← a2, ← a3]
        exact hgl
      exact (Nat.eq_of_mul_eq_mul_left (Nat.pos_of_ne_zero hg) (by rw [Nat.mul_one]; exact hk)).symm
/-- Numbers that are multiples of a row that no number divides are its multiples by their divisor. -/
theorem abs_of {v0 v1 v2 v3 x0 x1 x2 x3 vj xj : Int} (hp : Prim x0 x1 x2 x3) (h0 : v0 * xj = vj * x0) (h1 : v1 * xj = vj * x1) (h2 : v2 * xj = vj * x2) (h3 : v3 * xj = vj * x3) :
    (gcd4 v0.natAbs v1.natAbs v2.natAbs v3.natAbs) * xj.natAbs = vj.natAbs := by
  have k0 : xj.natAbs * v0.natAbs = vj.natAbs * x0.natAbs := by rw [← Int.natAbs_mul, ← Int.natAbs_mul, ← h0, Int.mul_comm]
  have k1 : xj.natAbs * v1.natAbs = vj.natAbs * x1.natAbs := by rw [← Int.natAbs_mul, ← Int.natAbs_mul, ← h1, Int.mul_comm]
  have k2 : xj.natAbs * v2.natAbs = vj.natAbs * x2.natAbs := by rw [← Int.natAbs_mul, ← Int.natAbs_mul, ← h2, Int.mul_comm]
  have k3 : xj.natAbs * v3.natAbs = vj.natAbs * x3.natAbs := by rw [← Int.natAbs_mul, ← Int.natAbs_mul, ← h3, Int.mul_comm]
  have e := gcd4_mul xj.natAbs v0.natAbs v1.natAbs v2.natAbs v3.natAbs
  rw [k0, k1, k2, k3, gcd4_mul, hp.g, Nat.mul_one] at e
  rw [Nat.mul_comm]
  exact e.symm
/-- All of them have one sign. -/
theorem mul_form {v0 v1 v2 v3 x0 x1 x2 x3 : Int} (hp : Prim x0 x1 x2 x3) (hab : v0 * x1 = v1 * x0) (hac : v0 * x2 = v2 * x0) (had : v0 * x3 = v3 * x0) (hbc : v1 * x2 = v2 * x1) (hbd : v1 * x3 = v3 * x1) (hcd : v2 * x3 = v3 * x2) :
    ∃ D : Int, D.natAbs = gcd4 v0.natAbs v1.natAbs v2.natAbs v3.natAbs ∧ v0 = D * x0 ∧ v1 = D * x1 ∧ v2 = D * x2 ∧ v3 = D * x3 := by
  have g0 := abs_of (vj := v0) (xj := x0) hp rfl hab.symm hac.symm had.symm
  have g1 := abs_of (vj := v1) (xj := x1) hp hab rfl hbc.symm hbd.symm
  have g2 := abs_of (vj := v2) (xj := x2) hp hac hbc rfl hcd.symm
  have g3 := abs_of (vj := v3) (xj := x3) hp had hbd hcd rfl
  generalize gcd4 v0.natAbs v1.natAbs v2.natAbs v3.natAbs = g at *
  have hx : x0 ≠ 0 ∨ x1 ≠ 0 ∨ x2 ≠ 0 ∨ x3 ≠ 0 := by
    by_cases h : x0 = 0 ∧ x1 = 0 ∧ x2 = 0 ∧ x3 = 0
    · have := hp.g
      rw [h.1, h.2.1, h.2.2.1, h.2.2.2] at this
      exact absurd this (by decide)
    · omega
  have n0 := hp.n0
  have n1 := hp.n1
  have n2 := hp.n2
  have n3 := hp.n3
  have key : ∀ (vj xj : Int), xj ≠ 0 → 0 ≤ xj → g * xj.natAbs = vj.natAbs → ∃ D : Int, D.natAbs = g ∧ vj = D * xj := by
    intro vj xj hne h0 hg
    have e : xj = (xj.natAbs : Int) := by omega
    have e2 : (g : Int) * xj = (vj.natAbs : Int) := by rw [← hg, e]; simp
    by_cases hs : 0 ≤ vj
    · exact ⟨g, by simp, by rw [e2]; omega⟩
    · exact ⟨-g, by simp, by rw [Int.neg_mul, e2]; omega⟩
  have ex : ∀ {p q x y D : Int}, x ≠ 0 → p = D * x → q * x = p * y → q = D * y := by
    intro p q x y D hne hp h
    rw [hp, Int.mul_assoc, Int.mul_comm x y, ← Int.mul_assoc] at h
    exact Int.eq_of_mul_eq_mul_right hne h
  rcases hx with h | h | h | h
  · obtain ⟨D, hD, e⟩ := key v0 x0 h n0 g0
    exact ⟨D, hD, e, ex h e hab.symm, ex h e hac.symm, ex h e had.symm⟩
  · obtain ⟨D, hD, e⟩ := key v1 x1 h n1 g1
    exact ⟨D, hD, ex h e hab, e, ex h e hbc.symm, ex h e hbd.symm⟩
  · obtain ⟨D, hD, e⟩ := key v2 x2 h n2 g2
    exact ⟨D, hD, ex h e hac, ex h e hbc, e, ex h e hcd.symm⟩
  · obtain ⟨D, hD, e⟩ := key v3 x3 h n3 g3
    exact ⟨D, hD, ex h e had, ex h e hbd, ex h e hcd, e⟩
theorem tdiv_self_mul {D x : Int} (h : D ≠ 0) : Int.tdiv (D * x) D = x := Int.mul_tdiv_cancel_left x h
/-- A line's row: found again from any row on it that no number divides. -/
theorem line_of (m : Nat → Int) {x0 x1 x2 x3 : Int} (hp : Prim x0 x1 x2 x3) (hz : ¬ (Man.vl m 0 = 0 ∧ Man.vl m 1 = 0 ∧ Man.vl m 2 = 0 ∧ Man.vl m 3 = 0))
    (hab : Man.vl m 0 * x1 = Man.vl m 1 * x0) (hac : Man.vl m 0 * x2 = Man.vl m 2 * x0) (had : Man.vl m 0 * x3 = Man.vl m 3 * x0) (hbc : Man.vl m 1 * x2 = Man.vl m 2 * x1) (hbd : Man.vl m 1 * x3 = Man.vl m 3 * x1) (hcd : Man.vl m 2 * x3 = Man.vl m 3 * x2) :
    Man.lineL m = [x0, x1, x2, x3] := by
  obtain ⟨D, hD, e0, e1, e2, e3⟩ := mul_form hp hab hac had hbc hbd hcd
  rw [← gl_eq] at hD
  have hD0 : D ≠ 0 := by
    intro h
    rw [h] at e0 e1 e2 e3
    exact hz ⟨by omega, by omega, by omega, by omega⟩
  have n0 := hp.n0
  have n1 := hp.n1
  have n2 := hp.n2
  have n3 := hp.n3
  have hdl : Man.dl m = D := by
    have hpl : Man.pl m 4 = [Man.vl m 0, Man.vl m 1, Man.vl m 2, Man.vl m 3] := rfl
    unfold Man.dl
    rw [hpl]
    by_cases hs : 0 < D
    · have q0 := Int.mul_nonneg (Int.le_of_lt hs) n0
      have q1 := Int.mul_nonneg (Int.le_of_lt hs) n1
      have q2 := Int.mul_nonneg (Int.le_of_lt hs) n2
      have q3 := Int.mul_nonneg (Int.le_of_lt hs) n3
      rw [if_neg (by rw [min_neg]; omega)]
      omega
    · have hs' : 0 ≤ -D := by omega
      have q0 := Int.mul_nonneg hs' n0
      have q1 := Int.mul_nonneg hs' n1
      have q2 := Int.mul_nonneg hs' n2
      have q3 := Int.mul_nonneg hs' n3
      rw [Int.neg_mul] at q0 q1 q2 q3
      rw [if_pos (by rw [min_neg]; omega)]
      omega
  have eo : Man.ol m = [x0, x1, x2, x3] := by
    show [Int.tdiv (Man.vl m 0) (Man.dl m), Int.tdiv (Man.vl m 1) (Man.dl m), Int.tdiv (Man.vl m 2) (Man.dl m), Int.tdiv (Man.vl m 3) (Man.dl m)] = _
    rw [hdl, e0, e1, e2, e3, tdiv_self_mul hD0, tdiv_self_mul hD0, tdiv_self_mul hD0, tdiv_self_mul hD0]
  unfold Man.lineL
  rw [if_neg (by omega), eo, if_neg (by rw [min_neg]; omega)]
end Go.Proofs.Ytmkfmbjemdbigaa.Cor

end
section
/- The corners that the loops over three bounds find, in plain words; bounds that are sums of the units' change nothing. -/
namespace Go.Proofs.Ytmkfmbjemdbigaa.Cor
open Go.RowKit Go.Proofs.Ytmkfmbjemdbigaa.PA Go.Proofs.YtmkfmbjemdbigaaW.PrintWords Go.Proofs.YtmkfmbjemdbigaaW.PrintLast Go.Proofs.YtmkfmbjemdbigaaW.PrintMore
set_option linter.unusedVariables false
set_option linter.unusedSimpArgs false
open Cone (V dot mnr Zero Par)

def pt (l : List Int) : V := ⟨rd l 0, rd l 1, rd l 2, rd l 3⟩
theorem dot_pt {a b : List Int} (ha : a.length = 4) (hb : b.length = 4) : Sem.dotL a b = dot (pt a) (pt b) := by
  match a, ha, b, hb with
  | [a0, a1, a2, a3], _, [b0, b1, b2, b3], _ =>
    show a0 * b0 + (a1 * b1 + (a2 * b2 + (a3 * b3 + 0))) = a0 * b0 + a1 * b1 + a2 * b2 + a3 * b3
    omega
theorem dot_comm (x y : V) : dot x y = dot y x := by unfold dot; grind
theorem vl_mn {a b c : List Int} (ha : Sem.Four a) (hb : Sem.Four b) (hc : Sem.Four c) :
    Man.vl (Man.ml a b c) 0 = (mnr (pt a) (pt b) (pt c)).a ∧ Man.vl (Man.ml a b c) 1 = (mnr (pt a) (pt b) (pt c)).b ∧ Man.vl (Man.ml a b c) 2 = (mnr (pt a) (pt b) (pt c)).c ∧ Man.vl (Man.ml a b c) 3 = (mnr (pt a) (pt b) (pt c)).d := by
  obtain ⟨a0, a1, a2, a3, rfl, h0, h1, h2, h3⟩ := Sem.four_form ha
  obtain ⟨b0, b1, b2, b3, rfl, i0, i1, i2, i3⟩ := Sem.four_form hb
  obtain ⟨c0, c1, c2, c3, rfl, j0, j1, j2, j3⟩ := Sem.four_form hc
  have q0 := (Sem.detW_eq h1 h2 h3 i1 i2 i3 j1 j2 j3).1
  have q1 := (Sem.detW_eq h0 h2 h3 i0 i2 i3 j0 j2 j3).1
  have q2 := (Sem.detW_eq h0 h1 h3 i0 i1 i3 j0 j1 j3).1
  have q3 := (Sem.detW_eq h0 h1 h2 i0 i1 i2 j0 j1 j2).1
  refine ⟨?_, ?_, ?_, ?_⟩
  · show 1 * Man.detW a1 a2 a3 b1 b2 b3 c1 c2 c3 = Sem.det a1 a2 a3 b1 b2 b3 c1 c2 c3
    rw [q0, Int.one_mul]
  · show -1 * Man.detW a0 a2 a3 b0 b2 b3 c0 c2 c3 = -Sem.det a0 a2 a3 b0 b2 b3 c0 c2 c3
    rw [q1]; omega
  · show 1 * Man.detW a0 a1 a3 b0 b1 b3 c0 c1 c3 = Sem.det a0 a1 a3 b0 b1 b3 c0 c1 c3
    rw [q2, Int.one_mul]
  · show -1 * Man.detW a0 a1 a2 b0 b1 b2 c0 c1 c2 = -Sem.det a0 a1 a2 b0 b1 b2 c0 c1 c2
    rw [q3]; omega
/-- What three bounds' line is. -/
structure OnLine (a b c x : List Int) : Prop where
  len : x.length = 4
  prim : Prim (rd x 0) (rd x 1) (rd x 2) (rd x 3)
  ne : ¬ Zero (mnr (pt a) (pt b) (pt c))
  ta : dot (pt a) (pt x) = 0
  tb : dot (pt b) (pt x) = 0
  tc : dot (pt c) (pt x) = 0
theorem line_on {a b c x : List Int} (ha : Sem.Four a) (hb : Sem.Four b) (hc : Sem.Four c) (h : x = Man.lineL (Man.ml a b c)) (hx : Man.lineL (Man.ml a b c) ≠ []) : OnLine a b c x := by
  obtain ⟨D, x0, x1, x2, x3, hD, hl, hp, e0, e1, e2, e3⟩ := line_some _ hx
  obtain ⟨m0, m1, m2, m3⟩ := vl_mn ha hb hc
  rw [m0] at e0
  rw [m1] at e1
  rw [m2] at e2
  rw [m3] at e3
  rw [hl] at h
  subst h
  have d0 : ∀ v : V, dot v (mnr (pt a) (pt b) (pt c)) = 0 → dot v (pt [x0, x1, x2, x3]) = 0 := by
    intro v hv
    have : dot v (mnr (pt a) (pt b) (pt c)) = D * dot v (pt [x0, x1, x2, x3]) := by
      show v.a * (mnr (pt a) (pt b) (pt c)).a + v.b * (mnr (pt a) (pt b) (pt c)).b + v.c * (mnr (pt a) (pt b) (pt c)).c + v.d * (mnr (pt a) (pt b) (pt c)).d = D * (v.a * x0 + v.b * x1 + v.c * x2 + v.d * x3)
      rw [e0, e1, e2, e3]
      grind
    rw [this] at hv
    exact (Int.mul_eq_zero.1 hv).resolve_left hD
  refine ⟨rfl, hp, ?_, d0 _ (Cone.dot_mnr0 _ _ _), d0 _ (Cone.dot_mnr1 _ _ _), d0 _ (Cone.dot_mnr2 _ _ _)⟩
  intro hz
  obtain ⟨z0, z1, z2, z3⟩ := hz
  rw [z0] at e0
  rw [z1] at e1
  rw [z2] at e2
  rw [z3] at e3
  have y0 := (Int.mul_eq_zero.1 e0.symm).resolve_left hD
  have y1 := (Int.mul_eq_zero.1 e1.symm).resolve_left hD
  have y2 := (Int.mul_eq_zero.1 e2.symm).resolve_left hD
  have y3 := (Int.mul_eq_zero.1 e3.symm).resolve_left hD
  have := hp.g
  rw [y0, y1, y2, y3] at this
  exact absurd this (by decide)
theorem on_line {a b c x : List Int} (ha : Sem.Four a) (hb : Sem.Four b) (hc : Sem.Four c) (h : OnLine a b c x) : x = Man.lineL (Man.ml a b c) ∧ Man.lineL (Man.ml a b c) ≠ [] := by
  obtain ⟨hl, hp, hz, ta, tb, tc⟩ := h
  have hpar := Cone.par_ker ta tb tc
  obtain ⟨m0, m1, m2, m3⟩ := vl_mn ha hb hc
  match x, hl with
  | [x0, x1, x2, x3], _ =>
    have := line_of (Man.ml a b c) hp (by rw [m0, m1, m2, m3]; exact hz) (by rw [m0, m1]; exact hpar.ab) (by rw [m0, m2]; exact hpar.ac) (by rw [m0, m3]; exact hpar.ad) (by rw [m1, m2]; exact hpar.bc) (by rw [m1, m3]; exact hpar.bd) (by rw [m2, m3]; exact hpar.cd)
    exact ⟨this.symm, by rw [this]; exact List.cons_ne_nil _ _⟩
section
open ManR
variable (bs : List (List Int))
def Okc (a b c x : List Int) : Prop := x = Man.lineL (Man.ml a b c) ∧ Man.lineL (Man.ml a b c) ≠ [] ∧ ∀ r ∈ bs, ¬ Sem.dotL x r < 0
theorem mem_step (o : List (List Int)) (a b c x : List Int) : x ∈ stepR Sem.dotL bs o a b c ↔ x ∈ o ∨ Okc bs a b c x := by
  unfold stepR Okc
  generalize Man.lineL (Man.ml a b c) = y
  by_cases h1 : y = []
  · rw [if_pos h1]
    exact ⟨Or.inl, fun h => h.elim id (fun h => absurd h1 h.2.1)⟩
  · rw [if_neg h1]
    by_cases h2 : (bs.any fun x => decide (Sem.dotL y x < 0)) = true
    · rw [if_pos h2]
      refine ⟨Or.inl, fun h => h.elim id (fun h => ?_)⟩
      obtain ⟨r, hr, hd⟩ := List.any_eq_true.1 h2
      exact absurd (of_decide_eq_true hd) (h.1 ▸ h.2.2 r hr)
    · rw [if_neg h2]
      have h2' : ∀ r ∈ bs, ¬ Sem.dotL y r < 0 := fun r hr hd => h2 (List.any_eq_true.2 ⟨r, hr, decide_eq_true hd⟩)
      by_cases h3 : (o.any fun x => decide (x = y)) = true
      · rw [if_pos h3]
        obtain ⟨z, hz, he⟩ := List.any_eq_true.1 h3
        refine ⟨Or.inl, fun h => h.elim id (fun h => ?_)⟩
        rw [h.1, ← of_decide_eq_true he]
        exact hz
      · rw [if_neg h3, List.mem_append, List.mem_singleton]
        exact ⟨fun h => h.elim Or.inl (fun h => Or.inr ⟨h, h1, h ▸ h2'⟩), fun h => h.elim Or.inl (fun h => Or.inr h.1)⟩
theorem mem_l3 (a b : List Int) (o : List (List Int)) (x : List Int) : ∀ j : Nat, x ∈ l3 Sem.dotL bs a b j o ↔ x ∈ o ∨ ∃ q : Nat, q < j ∧ Okc bs a b (rd_L5 bs (q : Int)) x
  | 0 => ⟨Or.inl, fun h => h.elim id (fun ⟨q, hq, _⟩ => absurd hq (Nat.not_lt_zero _))⟩
  | j + 1 => by
    show x ∈ stepR Sem.dotL bs _ a b _ ↔ _
    rw [mem_step, mem_l3 a b o x j]
    constructor
    · rintro ((h | ⟨q, hq, h⟩) | h)
      · exact Or.inl h
      · exact Or.inr ⟨q, by omega, h⟩
      · exact Or.inr ⟨j, by omega, h⟩
    · rintro (h | ⟨q, hq, h⟩)
      · exact Or.inl (Or.inl h)
      · by_cases e : q = j
        · exact Or.inr (e ▸ h)
        · exact Or.inl (Or.inr ⟨q, by omega, h⟩)
theorem mem_l2 (a : List Int) (o : List (List Int)) (x : List Int) : ∀ k : Nat, x ∈ l2 Sem.dotL bs a k o ↔ x ∈ o ∨ ∃ p q : Nat, p < k ∧ q < p ∧ Okc bs a (rd_L5 bs (p : Int)) (rd_L5 bs (q : Int)) x
  | 0 => ⟨Or.inl, fun h => h.elim id (fun ⟨p, q, hq, _⟩ => absurd hq (Nat.not_lt_zero _))⟩
  | k + 1 => by
    show x ∈ l3 Sem.dotL bs a _ k _ ↔ _
    rw [mem_l3, mem_l2 a o x k]
    constructor
    · rintro ((h | ⟨p, q, hp, hq, h⟩) | ⟨q, hq, h⟩)
      · exact Or.inl h
      · exact Or.inr ⟨p, q, by omega, hq, h⟩
      · exact Or.inr ⟨k, q, by omega, hq, h⟩
    · rintro (h | ⟨p, q, hp, hq, h⟩)
      · exact Or.inl (Or.inl h)
      · by_cases e : p = k
        · subst e; exact Or.inr ⟨q, hq, h⟩
        · exact Or.inl (Or.inr ⟨p, q, by omega, hq, h⟩)
theorem mem_l1 (x : List Int) : ∀ i : Nat, x ∈ l1 Sem.dotL bs i ↔ ∃ n p q : Nat, n < i ∧ p < n ∧ q < p ∧ Okc bs (rd_L5 bs (n : Int)) (rd_L5 bs (p : Int)) (rd_L5 bs (q : Int)) x
  | 0 => ⟨fun h => absurd h List.not_mem_nil, fun ⟨n, _, _, h, _⟩ => absurd h (Nat.not_lt_zero _)⟩
  | i + 1 => by
    show x ∈ l2 Sem.dotL bs _ i _ ↔ _
    rw [mem_l2, mem_l1 x i]
    constructor
    · rintro (⟨n, p, q, hn, hp, hq, h⟩ | ⟨p, q, hp, hq, h⟩)
      · exact ⟨n, p, q, by omega, hp, hq, h⟩
      · exact ⟨i, p, q, by omega, hp, hq, h⟩
    · rintro ⟨n, p, q, hn, hp, hq, h⟩
      by_cases e : n = i
      · subst e; exact Or.inr ⟨p, q, hp, hq, h⟩
      · exact Or.inl ⟨n, p, q, by omega, hp, hq, h⟩
/-- A corner of bounds. -/
structure Corner (x : List Int) : Prop where
  len : x.length = 4
  prim : Prim (rd x 0) (rd x 1) (rd x 2) (rd x 3)
  good : ∀ r ∈ bs, 0 ≤ dot (pt r) (pt x)
  tight : ∃ a b c, a ∈ bs ∧ b ∈ bs ∧ c ∈ bs ∧ ¬ Zero (mnr (pt a) (pt b) (pt c)) ∧ dot (pt a) (pt x) = 0 ∧ dot (pt b) (pt x) = 0 ∧ dot (pt c) (pt x) = 0
end
theorem swap1 (x y z : V) (h : Zero (mnr y x z)) : Zero (mnr x y z) := by
  have e : ∀ {p q : Int}, p = -q → q = 0 → p = 0 := by intros; omega
  refine ⟨e ?_ h.1, e ?_ h.2.1, e ?_ h.2.2.1, e ?_ h.2.2.2⟩ <;> (unfold mnr; grind)
theorem swap2 (x y z : V) (h : Zero (mnr x z y)) : Zero (mnr x y z) := by
  have e : ∀ {p q : Int}, p = -q → q = 0 → p = 0 := by intros; omega
  refine ⟨e ?_ h.1, e ?_ h.2.1, e ?_ h.2.2.1, e ?_ h.2.2.2⟩ <;> (unfold mnr; grind)
theorem same1 (x z : V) : Zero (mnr x x z) := by refine ⟨?_, ?_, ?_, ?_⟩ <;> (unfold mnr; grind)
theorem same2 (x y : V) : Zero (mnr x y y) := by refine ⟨?_, ?_, ?_, ?_⟩ <;> (unfold mnr; grind)
theorem get_rd {bs : List (List Int)} {a : List Int} (h : a ∈ bs) : ∃ i : Nat, i < bs.length ∧ rd_L5 bs (i : Int) = a := by
  obtain ⟨i, hi, e⟩ := List.mem_iff_getElem.1 h
  refine ⟨i, hi, ?_⟩
  unfold rd_L5
  rw [List.getD_eq_getElem?_getD, List.getElem?_eq_getElem (by omega)]
  exact e
theorem corner_iff (bs : List (List Int)) (h4 : ∀ x ∈ bs, Sem.Four x) (x : List Int) : x ∈ ManR.l1 Sem.dotL bs bs.length ↔ Corner bs x := by
  have hm : ∀ i : Nat, i < bs.length → rd_L5 bs (i : Int) ∈ bs := fun i hi => ManR.mem_rd bs _ (by omega) (by omega)
  have hF : ∀ i : Nat, i < bs.length → Sem.Four (rd_L5 bs (i : Int)) := fun i hi => h4 _ (hm i hi)
  rw [mem_l1]
  constructor
  · rintro ⟨n, p, q, hn, hp, hq, h⟩
    have ho := line_on (hF n (by omega)) (hF p (by omega)) (hF q (by omega)) h.1 h.2.1
    refine ⟨ho.len, ho.prim, fun r hr => ?_, _, _, _, hm n (by omega), hm p (by omega), hm q (by omega), ho.ne, ho.ta, ho.tb, ho.tc⟩
    have := h.2.2 r hr
    rw [dot_pt ho.len (h4 r hr).1, dot_comm] at this
    omega
  · intro hC
    obtain ⟨a, b, c, ha, hb, hc, hz, ta, tb, tc⟩ := hC.tight
    obtain ⟨i, hi, ea⟩ := get_rd ha
    obtain ⟨j, hj, eb⟩ := get_rd hb
    obtain ⟨k, hk, ec⟩ := get_rd hc
    subst ea; subst eb; subst ec
    have key : ∀ i j k : Nat, i < bs.length → j < i → k < j → ¬ Zero (mnr (pt (rd_L5 bs (i : Int))) (pt (rd_L5 bs (j : Int))) (pt (rd_L5 bs (k : Int)))) → dot (pt (rd_L5 bs (i : Int))) (pt x) = 0 → dot (pt (rd_L5 bs (j : Int))) (pt x) = 0 → dot (pt (rd_L5 bs (k : Int))) (pt x) = 0 →
        ∃ n p q : Nat, n < bs.length ∧ p < n ∧ q < p ∧ Okc bs (rd_L5 bs (n : Int)) (rd_L5 bs (p : Int)) (rd_L5 bs (q : Int)) x := by
      intro i j k hi hj hk hz ta tb tc
      obtain ⟨e, hne⟩ := on_line (hF i (by omega)) (hF j (by omega)) (hF k (by omega)) ⟨hC.len, hC.prim, hz, ta, tb, tc⟩
      refine ⟨i, j, k, hi, hj, hk, e, hne, fun r hr => ?_⟩
      have := hC.good r hr
      rw [dot_pt hC.len (h4 r hr).1, dot_comm]
      omega
    have nij : i ≠ j := fun e => hz (e ▸ same1 _ _)
    have njk : j ≠ k := fun e => hz (e ▸ same2 _ _)
    have nik : i ≠ k := fun e => hz (by subst e; exact swap2 _ _ _ (same1 _ _))
    by_cases h1 : j < i
    · by_cases h2 : k < j
      · exact key i j k hi h1 h2 hz ta tb tc
      · by_cases h3 : k < i
        · exact key i k j hi h3 (by omega) (fun h => hz (swap2 _ _ _ h)) ta tc tb
        · exact key k i j hk (by omega) h1 (fun h => hz (swap2 _ _ _ (swap1 _ _ _ h))) tc ta tb
    · by_cases h2 : k < i
      · exact key j i k hj (by omega) h2 (fun h => hz (swap1 _ _ _ h)) tb ta tc
      · by_cases h3 : k < j
        · exact key j k i hj h3 (by omega) (fun h => hz (swap1 _ _ _ (swap2 _ _ _ h))) tb tc ta
        · exact key k j i hk (by omega) (by omega) (fun h => hz (swap1 _ _ _ (swap2 _ _ _ (swap1 _ _ _ h)))) tc tb ta
/-- A bound that is a sum of units' gives way to one of these. -/
theorem exch {a b c x : V} (ha : 0 ≤ a.a ∧ 0 ≤ a.b ∧ 0 ≤ a.c ∧ 0 ≤ a.d) (hx : 0 ≤ x.a ∧ 0 ≤ x.b ∧ 0 ≤ x.c ∧ 0 ≤ x.d) (ht : dot a x = 0) (hz : ¬ Zero (mnr a b c)) :
    ∃ e : V, (e = Cone.e0 ∨ e = Cone.e1 ∨ e = Cone.e2 ∨ e = Cone.e3) ∧ dot e x = 0 ∧ ¬ Zero (mnr e b c) := by
  have p0 := Int.mul_nonneg ha.1 hx.1
  have p1 := Int.mul_nonneg ha.2.1 hx.2.1
  have p2 := Int.mul_nonneg ha.2.2.1 hx.2.2.1
  have p3 := Int.mul_nonneg ha.2.2.2 hx.2.2.2
  unfold dot at ht
  have t0 := Int.mul_eq_zero.1 (show a.a * x.a = 0 by omega)
  have t1 := Int.mul_eq_zero.1 (show a.b * x.b = 0 by omega)
  have t2 := Int.mul_eq_zero.1 (show a.c * x.c = 0 by omega)
  have t3 := Int.mul_eq_zero.1 (show a.d * x.d = 0 by omega)
  have g : ∀ (e : V) (s t : Int), dot e x = t → (s = 0 ∨ t = 0) → ((e = Cone.e0 ∨ e = Cone.e1 ∨ e = Cone.e2 ∨ e = Cone.e3)) → (∃ e : V, (e = Cone.e0 ∨ e = Cone.e1 ∨ e = Cone.e2 ∨ e = Cone.e3) ∧ dot e x = 0 ∧ ¬ Zero (mnr e b c)) ∨ (s * (mnr e b c).a = 0 ∧ s * (mnr e b c).b = 0 ∧ s * (mnr e b c).c = 0 ∧ s * (mnr e b c).d = 0) := by
    intro e s t he hst hu
    rcases hst with h | h
    · right; rw [h]; simp
    · by_cases q : Zero (mnr e b c)
      · right; rw [q.1, q.2.1, q.2.2.1, q.2.2.2]; simp
      · exact Or.inl ⟨e, hu, by rw [he, h], q⟩
  rcases g Cone.e0 _ _ (Cone.dot_e0 x) t0 (Or.inl rfl) with h | q0
  · exact h
  rcases g Cone.e1 _ _ (Cone.dot_e1 x) t1 (Or.inr (Or.inl rfl)) with h | q1
  · exact h
  rcases g Cone.e2 _ _ (Cone.dot_e2 x) t2 (Or.inr (Or.inr (Or.inl rfl))) with h | q2
  · exact h
  rcases g Cone.e3 _ _ (Cone.dot_e3 x) t3 (Or.inr (Or.inr (Or.inr rfl))) with h | q3
  · exact h
  refine absurd ?_ hz
  have sum : ∀ {y p q r s : Int}, y = p + q + r + s → p = 0 → q = 0 → r = 0 → s = 0 → y = 0 := by intros; omega
  refine ⟨sum ?_ q0.1 q1.1 q2.1 q3.1, sum ?_ q0.2.1 q1.2.1 q2.2.1 q3.2.1, sum ?_ q0.2.2.1 q1.2.2.1 q2.2.2.1 q3.2.2.1, sum ?_ q0.2.2.2 q1.2.2.2 q2.2.2.2 q3.2.2.2⟩ <;> (unfold mnr Cone.e0 Cone.e1 Cone.e2 Cone.e3; grind)
theorem corner_same {B B' : List (List Int)} (hs : ∀ r ∈ B', r ∈ B) (hu : ∀ r ∈ ManR.units, r ∈ B') (hp : ∀ r ∈ B, r ∈ B' ∨ (0 ≤ rd r 0 ∧ 0 ≤ rd r 1 ∧ 0 ≤ rd r 2 ∧ 0 ≤ rd r 3)) (x : List Int) : Corner B x ↔ Corner B' x := by
  constructor
  · intro h
    obtain ⟨a, b, c, ha, hb, hc, hz, ta, tb, tc⟩ := h.tight
    have hx : 0 ≤ (pt x).a ∧ 0 ≤ (pt x).b ∧ 0 ≤ (pt x).c ∧ 0 ≤ (pt x).d := ⟨h.prim.n0, h.prim.n1, h.prim.n2, h.prim.n3⟩
    have one : ∀ (a : List Int) (b c : V), a ∈ B → dot (pt a) (pt x) = 0 → ¬ Zero (mnr (pt a) b c) → ∃ a', a' ∈ B' ∧ dot (pt a') (pt x) = 0 ∧ ¬ Zero (mnr (pt a') b c) := by
      intro a b c ha ht hz
      rcases hp a ha with h1 | h1
      · exact ⟨a, h1, ht, hz⟩
      · obtain ⟨e, he, h2, h3⟩ := exch (a := pt a) h1 hx ht hz
        rcases he with rfl | rfl | rfl | rfl
        · exact ⟨[1, 0, 0, 0], hu _ (by decide), h2, h3⟩
        · exact ⟨[0, 1, 0, 0], hu _ (by decide), h2, h3⟩
        · exact ⟨[0, 0, 1, 0], hu _ (by decide), h2, h3⟩
        · exact ⟨[0, 0, 0, 1], hu _ (by decide), h2, h3⟩
    obtain ⟨a', ha', ta', hz⟩ := one a _ _ ha ta hz
    obtain ⟨b', hb', tb', hz⟩ := one b _ _ hb tb (fun h => hz (swap1 _ _ _ h))
    obtain ⟨c', hc', tc', hz⟩ := one c (pt b') (pt a') hc tc (fun h => hz (swap2 _ _ _ (swap1 _ _ _ h)))
    exact ⟨h.len, h.prim, fun r hr => h.good r (hs r hr), c', b', a', hc', hb', ha', hz, tc', tb', ta'⟩
  · intro h
    obtain ⟨a, b, c, ha, hb, hc, hz, ta, tb, tc⟩ := h.tight
    refine ⟨h.len, h.prim, fun r hr => ?_, a, b, c, hs _ ha, hs _ hb, hs _ hc, hz, ta, tb, tc⟩
    rcases hp r hr with h1 | h1
    · exact h.good r h1
    · have p0 := Int.mul_nonneg h1.1 h.prim.n0
      have p1 := Int.mul_nonneg h1.2.1 h.prim.n1
      have p2 := Int.mul_nonneg h1.2.2.1 h.prim.n2
      have p3 := Int.mul_nonneg h1.2.2.2 h.prim.n3
      show 0 ≤ rd r 0 * rd x 0 + rd r 1 * rd x 1 + rd r 2 * rd x 2 + rd r 3 * rd x 3
      omega
end Go.Proofs.Ytmkfmbjemdbigaa.Cor

end
section
/- The spec's corners are those of the loops over three bounds. -/
namespace Go.Proofs.Ytmkfmbjemdbigaa.Cor
open Go.RowKit Go.Proofs.Ytmkfmbjemdbigaa.PA Go.Proofs.YtmkfmbjemdbigaaW.PrintWords Go.Proofs.YtmkfmbjemdbigaaW.PrintLast Go.Proofs.YtmkfmbjemdbigaaW.PrintMore
set_option linter.unusedVariables false
set_option linter.unusedSimpArgs false
open Cone (V dot mnr Zero Par)

/-- An answer at all depths from some depth on. -/
def Ev {α : Type} (f : Nat → Option α) (r : α) : Prop := ∃ K, ∀ k, K ≤ k → f k = some r
theorem Ev.one {α : Type} {f : Nat → Option α} {r : α} (h : ∀ k, f (k + 1) = some r) : Ev f r := ⟨1, fun k hk => by obtain ⟨j, rfl⟩ : ∃ j, k = j + 1 := ⟨k - 1, by omega⟩; exact h j⟩
theorem Ev.step {α : Type} {f g : Nat → Option α} {r : α} (h : Ev f r) (e : ∀ k, g (k + 1) = f k) : Ev g r := by
  obtain ⟨K, hK⟩ := h
  refine ⟨K + 1, fun k hk => ?_⟩
  obtain ⟨j, rfl⟩ : ∃ j, k = j + 1 := ⟨k - 1, by omega⟩
  rw [e]
  exact hK j (by omega)
theorem Ev.bind {α β : Type} {f : Nat → Option α} {h : Nat → α → Option β} {a : α} {r : β} (ha : Ev f a) (hr : Ev (fun k => h k a) r) : Ev (fun k => (f k).bind (h k)) r := by
  obtain ⟨K, hK⟩ := ha
  obtain ⟨L, hL⟩ := hr
  refine ⟨K + L, fun k hk => ?_⟩
  show (f k).bind (h k) = some r
  rw [hK k (by omega)]
  exact hL k (by omega)
theorem Ev.from {α : Type} {f : Nat → Option α} {r : α} (K : Nat) (h : ∀ k, K ≤ k → f k = some r) : Ev f r := ⟨K, h⟩
def Six (x : List Int) : Prop := x.length = 4 ∧ ∀ y ∈ x, -6 ≤ y ∧ y ≤ 6
theorem Six.form {x : List Int} (h : Six x) : ∃ a b c d : Int, x = [a, b, c, d] ∧ (-6 ≤ a ∧ a ≤ 6) ∧ (-6 ≤ b ∧ b ≤ 6) ∧ (-6 ≤ c ∧ c ≤ 6) ∧ (-6 ≤ d ∧ d ≤ 6) := by
  obtain ⟨hl, hb⟩ := h
  match x, hl with
  | [a, b, c, d], _ => exact ⟨a, b, c, d, rfl, hb a (by simp), hb b (by simp), hb c (by simp), hb d (by simp)⟩
theorem Six.mk4 {a b c d : Int} (h0 : -6 ≤ a ∧ a ≤ 6) (h1 : -6 ≤ b ∧ b ≤ 6) (h2 : -6 ≤ c ∧ c ≤ 6) (h3 : -6 ≤ d ∧ d ≤ 6) : Six [a, b, c, d] := by
  refine ⟨rfl, fun y hy => ?_⟩
  rcases (show y = a ∨ y = b ∨ y = c ∨ y = d by simpa using hy) with e | e | e | e <;> rw [e] <;> assumption
theorem Six.of_four {x : List Int} (h : Sem.Four x) : Six x := ⟨h.1, fun y hy => by have := h.2 y hy; omega⟩
theorem six_mul {a b : Int} (ha : -6 ≤ a ∧ a ≤ 6) (hb : -6 ≤ b ∧ b ≤ 6) : -36 ≤ a * b ∧ a * b ≤ 36 := by
  rcases (show b = -6 ∨ b = -5 ∨ b = -4 ∨ b = -3 ∨ b = -2 ∨ b = -1 ∨ b = 0 ∨ b = 1 ∨ b = 2 ∨ b = 3 ∨ b = 4 ∨ b = 5 ∨ b = 6 by omega) with rfl | rfl | rfl | rfl | rfl | rfl | rfl | rfl | rfl | rfl | rfl | rfl | rfl <;> omega
theorem dot_bound {x y : List Int} (hx : Six x) (hy : Six y) : -144 ≤ Sem.dotL x y ∧ Sem.dotL x y ≤ 144 := by
  obtain ⟨a, b, c, d, rfl, h0, h1, h2, h3⟩ := hx.form
  obtain ⟨e, f, g, h, rfl, i0, i1, i2, i3⟩ := hy.form
  have p0 := six_mul h0 i0
  have p1 := six_mul h1 i1
  have p2 := six_mul h2 i2
  have p3 := six_mul h3 i3
  show -144 ≤ a * e + (b * f + (c * g + (d * h + 0))) ∧ a * e + (b * f + (c * g + (d * h + 0))) ≤ 144
  omega
theorem dotS_from (x y : List Int) (hx : Six x) (hy : Six y) (n : Nat) : ∀ (i : Nat) (s : Int) (k : Nat), i + n = 4 → -36 * (i : Int) ≤ s → s ≤ 36 * (i : Int) → n < k →
    spec_l6Dot.l0 k x y s (i : Int) = some (s + Sem.dotL (x.drop i) (y.drop i)) := by
  have lx := hx.1
  have ly := hy.1
  induction n with
  | zero =>
    intro i s k hi h1 h2 hk
    obtain ⟨k, rfl⟩ : ∃ m, k = m + 1 := ⟨k - 1, by omega⟩
    rw [List.drop_of_length_le (show x.length ≤ i by omega), show Sem.dotL [] (y.drop i) = 0 by unfold Sem.dotL; rfl, Int.add_zero]
    simp only [spec_l6Dot.l0]
    rw [if_neg (by omega)]
  | succ n ih =>
    intro i s k hi h1 h2 hk
    obtain ⟨k, rfl⟩ : ∃ m, k = m + 1 := ⟨k - 1, by omega⟩
    have hlx : i < x.length := by omega
    have hly : i < y.length := by omega
    have hb := six_mul (hx.2 x[i] (List.getElem_mem hlx)) (hy.2 y[i] (List.getElem_mem hly))
    have hw : wrap64 ((i : Int) + 1) = ((i + 1 : Nat) : Int) := by unfold wrap64; omega
    rw [List.drop_eq_getElem_cons hlx, List.drop_eq_getElem_cons hly, Sem.dotL]
    have ih := ih (i + 1) (s + x[i] * y[i]) k (by omega) (by omega) (by omega) (by omega)
    rw [← Int.add_assoc]
    simp only [spec_l6Dot.l0]
    rw [if_pos (by omega), if_pos (by omega), if_pos (by omega), Sem.rd_at x i hlx, Sem.rd_at y i hly, Sem.w64 (n := x[i] * y[i]) (by omega) (by omega), Sem.w64 (by omega) (by omega), hw]
    exact ih
theorem dotS_ev {x y : List Int} (hx : Six x) (hy : Six y) : Ev (fun k => spec_l6Dot.f k x y) (Sem.dotL x y) := by
  refine Ev.from 5 fun k hk => ?_
  have := dotS_from x y hx hy 4 0 0 k rfl (by omega) (by omega) (by omega)
  simpa [spec_l6Dot.f] using this
/-- Euclid's rounds. -/
theorem euclid_ev (x0 : List Int) (x4 : Int) (r : List Int) (n : Nat) : ∀ x3 x5 : Int, 0 ≤ x3 → 0 ≤ x5 → x5 ≤ n → Ev (fun k => spec_l6Lower.l0 k x0 (Int.gcd x3 x5 : Int) (wrap64 (x4 + 1))) r → Ev (fun k => spec_l6Lower.l1 k x0 x3 x4 x5) r := by
  induction n with
  | zero =>
    intro x3 x5 h3 h5 hn h
    obtain rfl : x5 = 0 := by omega
    refine h.step fun k => ?_
    show spec_l6Lower.l1 (k + 1) x0 x3 x4 0 = _
    simp only [spec_l6Lower.l1]
    rw [if_neg (by omega), Int.gcd_zero_right, show ((x3.natAbs : Nat) : Int) = x3 by omega]
  | succ n ih =>
    intro x3 x5 h3 h5 hn h
    by_cases h0 : x5 = 0
    · subst h0
      refine h.step fun k => ?_
      show spec_l6Lower.l1 (k + 1) x0 x3 x4 0 = _
      simp only [spec_l6Lower.l1]
      rw [if_neg (by omega), Int.gcd_zero_right, show ((x3.natAbs : Nat) : Int) = x3 by omega]
    · have t1 := Int.tmod_nonneg x5 h3
      have t2 := Int.tmod_lt_of_pos x3 (show 0 < x5 by omega)
      refine (ih x5 (Int.tmod x3 x5) h5 t1 (by omega) (by rw [Man.gcd_step]; exact h)).step fun k => ?_
      show spec_l6Lower.l1 (k + 1) x0 x3 x4 x5 = _
      simp only [spec_l6Lower.l1]
      rw [if_pos (by omega), if_neg h0]
theorem lower_l0 (x : List Int) (hx : Six x) (r : List Int) (i : Nat) (hi : i < 4) (d : Nat) (h : Ev (fun k => spec_l6Lower.l0 k x (Nat.gcd d (rd x (i : Int)).natAbs : Nat) ((i + 1 : Nat) : Int)) r) : Ev (fun k => spec_l6Lower.l0 k x (d : Int) (i : Int)) r := by
  have hlx : i < x.length := by have := hx.1; omega
  have hb := hx.2 x[i] (List.getElem_mem hlx)
  rw [← Sem.rd_at x i hlx] at hb
  have hw : wrap64 ((i : Int) + 1) = ((i + 1 : Nat) : Int) := by unfold wrap64; omega
  have h1 := euclid_ev x (i : Int) r 6 (d : Int) ((rd x (i : Int)).natAbs : Int) (by omega) (by omega) (by omega) (by
    rw [hw]
    have e : Int.gcd (d : Int) ((rd x (i : Int)).natAbs : Int) = Nat.gcd d (rd x (i : Int)).natAbs := by unfold Int.gcd; simp
    rw [e]
    exact h)
  have h2 : Ev (fun k => spec_l6Lower.j1 k x (d : Int) (i : Int) ((rd x (i : Int)).natAbs : Int)) r := h1.step fun k => rfl
  refine h2.step fun k => ?_
  show spec_l6Lower.l0 (k + 1) x (d : Int) (i : Int) = _
  simp only [spec_l6Lower.l0]
  rw [if_pos (by omega), if_pos (by omega)]
  by_cases hs : rd x (i : Int) < 0
  · rw [if_pos hs, Sem.w64 (by omega) (by omega), show ((rd x (i : Int)).natAbs : Int) = -(rd x (i : Int)) by omega]
  · rw [if_neg hs, show ((rd x (i : Int)).natAbs : Int) = rd x (i : Int) by omega]
theorem lower_l2 (x : List Int) (hx : Six x) (d : Int) (hd : d ≠ 0) (n : Nat) : ∀ i : Nat, i + n = 4 → Ev (fun k => spec_l6Lower.l2 k x d ((x.map fun y => Int.tdiv y d).take i) (i : Int)) (x.map fun y => Int.tdiv y d) := by
  have lx := hx.1
  induction n with
  | zero =>
    intro i hi
    refine Ev.one fun k => ?_
    simp only [spec_l6Lower.l2]
    rw [if_neg (by omega), List.take_of_length_le (by rw [List.length_map]; omega)]
  | succ n ih =>
    intro i hi
    have hlx : i < x.length := by omega
    have hb := hx.2 x[i] (List.getElem_mem hlx)
    have hw : wrap64 ((i : Int) + 1) = ((i + 1 : Nat) : Int) := by unfold wrap64; omega
    refine (ih (i + 1) (by omega)).step fun k => ?_
    show spec_l6Lower.l2 (k + 1) x d _ (i : Int) = _
    have ht : -6 ≤ Int.tdiv x[i] d ∧ Int.tdiv x[i] d ≤ 6 := by
      have h1 := Int.natAbs_tdiv x[i] d
      have h2 := Nat.div_le_self x[i].natAbs d.natAbs
      have h4 : (Int.tdiv x[i] d).natAbs ≤ x[i].natAbs := by rw [h1]; exact h2
      clear h1 h2
      omega
    have et : (x.map fun y => Int.tdiv y d).take (i + 1) = (x.map fun y => Int.tdiv y d).take i ++ [Int.tdiv x[i] d] := by
      rw [List.take_succ_eq_append_getElem (by rw [List.length_map]; omega), List.getElem_map]
    simp only [spec_l6Lower.l2]
    rw [if_pos (by omega), if_pos (by omega), if_neg hd, if_pos (by rw [List.length_take, List.length_map]; omega), Sem.rd_at x i hlx, Sem.w64 (by omega) (by omega), hw, et]
def gx (x : List Int) : Nat := gcd4 (rd x 0).natAbs (rd x 1).natAbs (rd x 2).natAbs (rd x 3).natAbs
def lowL (x : List Int) : List Int := x.map fun y => Int.tdiv y (gx x : Int)
theorem lower_ev {x : List Int} (hx : Six x) (hg : gx x ≠ 0) : Ev (fun k => spec_l6Lower.f k x) (lowL x) := by
  have h2 := lower_l2 x hx (gx x : Int) (by omega) 4 0 rfl
  have h0 : Ev (fun k => spec_l6Lower.l0 k x (gx x : Int) ((4 : Nat) : Int)) (lowL x) := by
    refine h2.step fun k => ?_
    show spec_l6Lower.l0 (k + 1) x _ _ = _
    simp only [spec_l6Lower.l0]
    rw [if_neg (by have := hx.1; omega)]
    rfl
  have h := lower_l0 x hx _ 0 (by omega) 0 (lower_l0 x hx _ 1 (by omega) _ (lower_l0 x hx _ 2 (by omega) _ (lower_l0 x hx _ 3 (by omega) _ h0)))
  exact h
end Go.Proofs.Ytmkfmbjemdbigaa.Cor

end
section
/- The spec's loops over three bounds, in plain words. -/
namespace Go.Proofs.Ytmkfmbjemdbigaa.Cor
open Go.RowKit Go.Proofs.Ytmkfmbjemdbigaa.PA Go.Proofs.YtmkfmbjemdbigaaW.PrintWords Go.Proofs.YtmkfmbjemdbigaaW.PrintLast Go.Proofs.YtmkfmbjemdbigaaW.PrintMore
set_option linter.unusedVariables false
set_option linter.unusedSimpArgs false
open Cone (V dot mnr Zero Par)

def farS (y o : List Int) : Bool := (Sem.dotL o o * Sem.dotL y y) != (Sem.dotL o y * Sem.dotL o y)
def addS (rows out : List (List Int)) (y : List Int) : List (List Int) := if ((rows.all fun r => decide (Sem.dotL r y ≥ 0)) && out.all (farS y)) = true then out ++ [y] else out
def sgS (v : List Int) (s : Nat) : List Int := v.map fun x => x * (1 - 2 * (s : Int))
def twoS (rows out : List (List Int)) (v : List Int) : List (List Int) := addS rows (addS rows out (lowL (sgS v 0))) (lowL (sgS v 1))
theorem addS_len (rows out : List (List Int)) (y : List Int) : (addS rows out y).length ≤ out.length + 1 := by
  unfold addS; split
  · simp
  · omega
theorem addS_six (rows out : List (List Int)) (y : List Int) (hy : Six y) (h : ∀ x ∈ out, Six x) : ∀ x ∈ addS rows out y, Six x := by
  unfold addS; split
  · intro x hx
    rcases List.mem_append.1 hx with hx | hx
    · exact h x hx
    · rw [List.mem_singleton.1 hx]; exact hy
  · exact h
section
variable (rows out : List (List Int)) (x4 x5 x6 : Int) (v : List Int) (r : List (List Int))
theorem l6_ev (hout : ∀ x ∈ out, Six x) (hlen : out.length ≤ 100000) (x8 : Int) (y : List Int) (hy : Six y) (n : Nat) : ∀ (i : Nat) (b : Bool), i + n = out.length →
    Ev (fun k => spec_l6Corners.l3 k rows (if (b && (out.drop i).all (farS y)) = true then out ++ [y] else out) x4 x5 x6 v (wrap64 (x8 + 1))) r → Ev (fun k => spec_l6Corners.l6 k rows out x4 x5 x6 v x8 y b (i : Int)) r := by
  induction n with
  | zero =>
    intro i b hi h
    rw [List.drop_of_length_le (by omega), List.all_nil, Bool.and_true] at h
    refine h.step fun k => ?_
    show spec_l6Corners.l6 (k + 1) rows out x4 x5 x6 v x8 y b (i : Int) = _
    simp only [spec_l6Corners.l6]
    rw [if_neg (by omega)]
    cases b
    · rw [if_neg (by simp), if_neg (by simp)]
    · rw [if_pos rfl, if_pos rfl, if_pos (by omega)]
  | succ n ih =>
    intro i b hi h
    have hlt : i < out.length := by omega
    have hw : wrap64 ((i : Int) + 1) = ((i + 1 : Nat) : Int) := by unfold wrap64; omega
    rw [List.drop_eq_getElem_cons hlt, List.all_cons, ← Bool.and_assoc] at h
    cases b with
    | false =>
      rw [Bool.false_and, Bool.false_and] at h
      refine (ih (i + 1) false (by omega) (by rw [Bool.false_and]; exact h)).step fun k => ?_
      show spec_l6Corners.l6 (k + 1) rows out x4 x5 x6 v x8 y false (i : Int) = _
      simp only [spec_l6Corners.l6]
      rw [if_pos (by omega), if_neg (by simp), hw]
    | true =>
      rw [Bool.true_and] at h
      have ho := hout _ (List.getElem_mem hlt)
      have e : rd_L5 out (i : Int) = out[i] := by unfold rd_L5; rw [List.getD_eq_getElem?_getD, List.getElem?_eq_getElem (by omega)]; rfl
      have b1 := dot_bound ho ho
      have b2 := dot_bound hy hy
      have b3 := dot_bound ho hy
      have pb : ∀ {p q : Int}, -144 ≤ p ∧ p ≤ 144 → -144 ≤ q ∧ q ≤ 144 → -20736 ≤ p * q ∧ p * q ≤ 20736 := by
        intro p q hp hq
        have h1 := Int.natAbs_mul p q
        have h2 : p.natAbs * q.natAbs ≤ 144 * 144 := Nat.mul_le_mul (by omega) (by omega)
        omega
      have p1 := pb b1 b2
      have p2 := pb b3 b3
      have hb : Ev (fun k => (spec_l6Dot.f k out[i] out[i]).bind fun t163 => (spec_l6Dot.f k y y).bind fun t164 => (spec_l6Dot.f k out[i] y).bind fun t166 => (spec_l6Dot.f k out[i] y).bind fun t168 => spec_l6Corners.l6 k rows out x4 x5 x6 v x8 y ((wrap64 (t163 * t164)) != (wrap64 (t166 * t168))) ((i + 1 : Nat) : Int)) r := by
        refine Ev.bind (dotS_ev ho ho) ?_
        refine Ev.bind (dotS_ev hy hy) ?_
        refine Ev.bind (dotS_ev ho hy) ?_
        refine Ev.bind (dotS_ev ho hy) ?_
        rw [Sem.w64 (by omega) (by omega), Sem.w64 (by omega) (by omega)]
        exact ih (i + 1) _ (by omega) h
      refine hb.step fun k => ?_
      show spec_l6Corners.l6 (k + 1) rows out x4 x5 x6 v x8 y true (i : Int) = _
      simp only [spec_l6Corners.l6]
      rw [if_pos (by omega), if_pos trivial, if_pos (by omega), e, hw]
theorem l5_ev (hrow : ∀ x ∈ rows, Six x) (hlen : rows.length ≤ 100000) (x8 : Int) (y : List Int) (hy : Six y) (n : Nat) : ∀ (i : Nat) (b : Bool), i + n = rows.length →
    Ev (fun k => spec_l6Corners.l6 k rows out x4 x5 x6 v x8 y (b && (rows.drop i).all fun r => decide (Sem.dotL r y ≥ 0)) 0) r → Ev (fun k => spec_l6Corners.l5 k rows out x4 x5 x6 v x8 y b (i : Int)) r := by
  induction n with
  | zero =>
    intro i b hi h
    rw [List.drop_of_length_le (by omega), List.all_nil, Bool.and_true] at h
    refine h.step fun k => ?_
    show spec_l6Corners.l5 (k + 1) rows out x4 x5 x6 v x8 y b (i : Int) = _
    simp only [spec_l6Corners.l5]
    rw [if_neg (by omega)]
  | succ n ih =>
    intro i b hi h
    have hlt : i < rows.length := by omega
    have hw : wrap64 ((i : Int) + 1) = ((i + 1 : Nat) : Int) := by unfold wrap64; omega
    rw [List.drop_eq_getElem_cons hlt, List.all_cons, ← Bool.and_assoc] at h
    cases b with
    | false =>
      rw [Bool.false_and, Bool.false_and] at h
      refine (ih (i + 1) false (by omega) (by rw [Bool.false_and]; exact h)).step fun k => ?_
      show spec_l6Corners.l5 (k + 1) rows out x4 x5 x6 v x8 y false (i : Int) = _
      simp only [spec_l6Corners.l5]
      rw [if_pos (by omega), if_neg (by simp), hw]
    | true =>
      rw [Bool.true_and] at h
      have ho := hrow _ (List.getElem_mem hlt)
      have e : rd_L5 rows (i : Int) = rows[i] := by unfold rd_L5; rw [List.getD_eq_getElem?_getD, List.getElem?_eq_getElem (by omega)]; rfl
      have hb : Ev (fun k => (spec_l6Dot.f k rows[i] y).bind fun t157 => spec_l6Corners.l5 k rows out x4 x5 x6 v x8 y (decide (t157 ≥ 0)) ((i + 1 : Nat) : Int)) r :=
        Ev.bind (dotS_ev ho hy) (ih (i + 1) _ (by omega) h)
      refine hb.step fun k => ?_
      show spec_l6Corners.l5 (k + 1) rows out x4 x5 x6 v x8 y true (i : Int) = _
      simp only [spec_l6Corners.l5]
      rw [if_pos (by omega), if_pos trivial, if_pos (by omega), e, hw]
theorem l4_ev (hv : Six v) (s : Nat) (hs : s < 2) (n : Nat) : ∀ i : Nat, i + n = 4 →
    Ev (fun k => spec_l6Corners.l4 k rows out x4 x5 x6 v (s : Int) (sgS v s) ((4 : Nat) : Int)) r → Ev (fun k => spec_l6Corners.l4 k rows out x4 x5 x6 v (s : Int) ((sgS v s).take i) (i : Int)) r := by
  have lv := hv.1
  have ls : (sgS v s).length = 4 := by unfold sgS; rw [List.length_map]; exact lv
  induction n with
  | zero =>
    intro i hi h
    obtain rfl : i = 4 := by omega
    rw [List.take_of_length_le (by omega)]
    exact h
  | succ n ih =>
    intro i hi h
    have hlt : i < v.length := by omega
    have hb := hv.2 v[i] (List.getElem_mem hlt)
    have hw : wrap64 ((i : Int) + 1) = ((i + 1 : Nat) : Int) := by unfold wrap64; omega
    refine (ih (i + 1) (by omega) h).step fun k => ?_
    show spec_l6Corners.l4 (k + 1) rows out x4 x5 x6 v (s : Int) _ (i : Int) = _
    have et : (sgS v s).take (i + 1) = (sgS v s).take i ++ [v[i] * (1 - 2 * (s : Int))] := by
      rw [List.take_succ_eq_append_getElem (by omega)]
      unfold sgS
      rw [List.getElem_map]
    have hm : wrap64 (v[i] * wrap64 (1 - wrap64 (2 * (s : Int)))) = v[i] * (1 - 2 * (s : Int)) := by
      rcases (show s = 0 ∨ s = 1 by omega) with rfl | rfl
      · rw [show wrap64 (1 - wrap64 (2 * ((0 : Nat) : Int))) = 1 by unfold wrap64; omega, Sem.w64 (by omega) (by omega)]; omega
      · rw [show wrap64 (1 - wrap64 (2 * ((1 : Nat) : Int))) = -1 by unfold wrap64; omega, Sem.w64 (by omega) (by omega)]; omega
    simp only [spec_l6Corners.l4]
    rw [if_pos (by omega), if_pos (by omega), if_pos (by omega), if_pos (by rw [List.length_take]; omega), Sem.rd_at v i hlt, hm, hw, et]
theorem sgS_six (hv : Six v) (s : Nat) (hs : s < 2) : Six (sgS v s) := by
  obtain ⟨a, b, c, d, rfl, h0, h1, h2, h3⟩ := hv.form
  have e : ∀ y : Int, -6 ≤ y ∧ y ≤ 6 → -6 ≤ y * (1 - 2 * (s : Int)) ∧ y * (1 - 2 * (s : Int)) ≤ 6 := by
    intro y hy
    rcases (show s = 0 ∨ s = 1 by omega) with rfl | rfl <;> omega
  exact Six.mk4 (e _ h0) (e _ h1) (e _ h2) (e _ h3)
theorem lowL_six {x : List Int} (hx : Six x) : Six (lowL x) := by
  obtain ⟨a, b, c, d, rfl, h0, h1, h2, h3⟩ := hx.form
  have ht : ∀ y : Int, -6 ≤ y ∧ y ≤ 6 → ∀ D : Int, -6 ≤ Int.tdiv y D ∧ Int.tdiv y D ≤ 6 := by
    intro y hy D
    have h1 := Int.natAbs_tdiv y D
    have h2 := Nat.div_le_self y.natAbs D.natAbs
    have h4 : (Int.tdiv y D).natAbs ≤ y.natAbs := by rw [h1]; exact h2
    clear h1 h2
    omega
  exact Six.mk4 (ht _ h0 _) (ht _ h1 _) (ht _ h2 _) (ht _ h3 _)
theorem sgS_gx (hv : Six v) (s : Nat) (hs : s < 2) : gx (sgS v s) = gx v := by
  obtain ⟨a, b, c, d, rfl, h0, h1, h2, h3⟩ := hv.form
  show gcd4 (a * (1 - 2 * (s : Int))).natAbs (b * (1 - 2 * (s : Int))).natAbs (c * (1 - 2 * (s : Int))).natAbs (d * (1 - 2 * (s : Int))).natAbs = gcd4 a.natAbs b.natAbs c.natAbs d.natAbs
  have e : ∀ y : Int, (y * (1 - 2 * (s : Int))).natAbs = y.natAbs := by
    intro y
    rcases (show s = 0 ∨ s = 1 by omega) with rfl | rfl <;> omega
  rw [e, e, e, e]
theorem sign_ev (hrow : ∀ x ∈ rows, Six x) (hrl : rows.length ≤ 100000) (hout : ∀ x ∈ out, Six x) (hlen : out.length ≤ 100000) (hv : Six v) (hg : gx v ≠ 0) (s : Nat) (hs : s < 2)
    (h : Ev (fun k => spec_l6Corners.l3 k rows (addS rows out (lowL (sgS v s))) x4 x5 x6 v ((s + 1 : Nat) : Int)) r) : Ev (fun k => spec_l6Corners.l3 k rows out x4 x5 x6 v (s : Int)) r := by
  have hy := sgS_six v hv s hs
  have hw : wrap64 ((s : Int) + 1) = ((s + 1 : Nat) : Int) := by unfold wrap64; omega
  have h6 := l6_ev rows out x4 x5 x6 v r hout hlen (s : Int) _ (lowL_six hy) out.length 0 (true && rows.all fun r => decide (Sem.dotL r (lowL (sgS v s)) ≥ 0)) (by omega) (by rw [hw]; exact h)
  have h5 := l5_ev rows out x4 x5 x6 v r hrow hrl (s : Int) _ (lowL_six hy) rows.length 0 true (by omega) h6
  have h4 : Ev (fun k => (spec_l6Lower.f k (sgS v s)).bind fun t153 => spec_l6Corners.l5 k rows out x4 x5 x6 v (s : Int) t153 true 0) r := Ev.bind (lower_ev hy (by rw [sgS_gx v hv s hs]; exact hg)) h5
  have h4b : Ev (fun k => spec_l6Corners.l4 k rows out x4 x5 x6 v (s : Int) (sgS v s) ((4 : Nat) : Int)) r := h4.step fun k => by
    show spec_l6Corners.l4 (k + 1) rows out x4 x5 x6 v (s : Int) (sgS v s) _ = _
    simp only [spec_l6Corners.l4]
    rw [if_neg (by omega)]
  have h3 := l4_ev rows out x4 x5 x6 v r hv s hs 4 0 rfl h4b
  refine h3.step fun k => ?_
  show spec_l6Corners.l3 (k + 1) rows out x4 x5 x6 v (s : Int) = _
  simp only [spec_l6Corners.l3]
  rw [if_pos (by omega)]
  rfl
theorem l3_ev (hrow : ∀ x ∈ rows, Six x) (hrl : rows.length ≤ 100000) (hout : ∀ x ∈ out, Six x) (hlen : out.length < 100000) (hv : Six v) (hg : gx v ≠ 0)
    (h : Ev (fun k => spec_l6Corners.l2 k rows (twoS rows out v) x4 x5 (wrap64 (x6 + 1))) r) : Ev (fun k => spec_l6Corners.l3 k rows out x4 x5 x6 v 0) r := by
  have h0 := lowL_six (sgS_six v hv 0 (by omega))
  have h1 := addS_len rows out (lowL (sgS v 0))
  refine sign_ev rows out x4 x5 x6 v r hrow hrl hout (by omega) hv hg 0 (by omega) ?_
  refine sign_ev rows _ x4 x5 x6 v r hrow hrl (addS_six rows out _ h0 hout) (by omega) hv hg 1 (by omega) ?_
  refine h.step fun k => ?_
  show spec_l6Corners.l3 (k + 1) rows _ x4 x5 x6 v 2 = _
  simp only [spec_l6Corners.l3]
  rw [if_neg (by omega)]
  rfl
end
end Go.Proofs.Ytmkfmbjemdbigaa.Cor

end
section
/- The spec's corners of rows are those that impl.cornersOf finds. -/
namespace Go.Proofs.Ytmkfmbjemdbigaa.Cor
open Go.RowKit Go.Proofs.Ytmkfmbjemdbigaa.PA Go.Proofs.YtmkfmbjemdbigaaW.PrintWords Go.Proofs.YtmkfmbjemdbigaaW.PrintLast Go.Proofs.YtmkfmbjemdbigaaW.PrintMore
set_option linter.unusedVariables false
set_option linter.unusedSimpArgs false
open Cone (V dot mnr Zero Par)

theorem nonneg_units {rows : List (List Int)} (hu : ∀ r ∈ ManR.units, r ∈ rows) {y : List Int} (hy : y.length = 4) (h : ∀ r ∈ rows, 0 ≤ Sem.dotL r y) : 0 ≤ rd y 0 ∧ 0 ≤ rd y 1 ∧ 0 ≤ rd y 2 ∧ 0 ≤ rd y 3 := by
  have h0 := h _ (hu [1, 0, 0, 0] (by decide))
  have h1 := h _ (hu [0, 1, 0, 0] (by decide))
  have h2 := h _ (hu [0, 0, 1, 0] (by decide))
  have h3 := h _ (hu [0, 0, 0, 1] (by decide))
  match y, hy with
  | [a, b, c, d], _ =>
    have h0 : 0 ≤ 1 * a + (0 * b + (0 * c + (0 * d + 0))) := h0
    have h1 : 0 ≤ 0 * a + (1 * b + (0 * c + (0 * d + 0))) := h1
    have h2 : 0 ≤ 0 * a + (0 * b + (1 * c + (0 * d + 0))) := h2
    have h3 : 0 ≤ 0 * a + (0 * b + (0 * c + (1 * d + 0))) := h3
    show 0 ≤ a ∧ 0 ≤ b ∧ 0 ≤ c ∧ 0 ≤ d
    omega
/-- The two rows on a line that no number divides. -/
theorem low_form (v0 v1 v2 v3 : Int) (hg : gx [v0, v1, v2, v3] ≠ 0) (s : Nat) (hs : s < 2) : ∃ y0 y1 y2 y3 t : Int, lowL (sgS [v0, v1, v2, v3] s) = [y0, y1, y2, y3] ∧ t = (1 - 2 * (s : Int)) * (gx [v0, v1, v2, v3] : Int) ∧ v0 = t * y0 ∧ v1 = t * y1 ∧ v2 = t * y2 ∧ v3 = t * y3 ∧ gcd4 y0.natAbs y1.natAbs y2.natAbs y3.natAbs = 1 := by
  have eg : gx (sgS [v0, v1, v2, v3] s) = gx [v0, v1, v2, v3] := by
    show gcd4 (v0 * (1 - 2 * (s : Int))).natAbs (v1 * (1 - 2 * (s : Int))).natAbs (v2 * (1 - 2 * (s : Int))).natAbs (v3 * (1 - 2 * (s : Int))).natAbs = gcd4 v0.natAbs v1.natAbs v2.natAbs v3.natAbs
    have e : ∀ y : Int, (y * (1 - 2 * (s : Int))).natAbs = y.natAbs := by
      intro y
      rcases (show s = 0 ∨ s = 1 by omega) with rfl | rfl <;> omega
    rw [e, e, e, e]
  have hgd : gx [v0, v1, v2, v3] = gcd4 v0.natAbs v1.natAbs v2.natAbs v3.natAbs := rfl
  have hdv := gcd4_dvd v0.natAbs v1.natAbs v2.natAbs v3.natAbs
  rw [← hgd] at hdv
  generalize gx [v0, v1, v2, v3] = g at *
  have el : lowL (sgS [v0, v1, v2, v3] s) = [Int.tdiv (v0 * (1 - 2 * (s : Int))) (g : Int), Int.tdiv (v1 * (1 - 2 * (s : Int))) (g : Int), Int.tdiv (v2 * (1 - 2 * (s : Int))) (g : Int), Int.tdiv (v3 * (1 - 2 * (s : Int))) (g : Int)] := by
    unfold lowL; rw [eg]; rfl
  have hv : ∀ v : Int, g ∣ v.natAbs → v = ((1 - 2 * (s : Int)) * (g : Int)) * Int.tdiv (v * (1 - 2 * (s : Int))) (g : Int) := by
    intro v hv
    have h1 : (g : Int) ∣ v := Int.ofNat_dvd_left.2 hv
    have h2 : (g : Int) ∣ v * (1 - 2 * (s : Int)) := Int.dvd_mul_of_dvd_left h1
    rw [Int.mul_assoc, ← mul_tdiv h2]
    rcases (show s = 0 ∨ s = 1 by omega) with rfl | rfl <;> omega
  have e0 := hv v0 hdv.1
  have e1 := hv v1 hdv.2.1
  have e2 := hv v2 hdv.2.2.1
  have e3 := hv v3 hdv.2.2.2
  refine ⟨_, _, _, _, _, el, rfl, e0, e1, e2, e3, ?_⟩
  have ht : ((1 - 2 * (s : Int)) * (g : Int)).natAbs = g := by rcases (show s = 0 ∨ s = 1 by omega) with rfl | rfl <;> omega
  generalize Int.tdiv (v0 * (1 - 2 * (s : Int))) (g : Int) = y0 at *
  generalize Int.tdiv (v1 * (1 - 2 * (s : Int))) (g : Int) = y1 at *
  generalize Int.tdiv (v2 * (1 - 2 * (s : Int))) (g : Int) = y2 at *
  generalize Int.tdiv (v3 * (1 - 2 * (s : Int))) (g : Int) = y3 at *
  generalize (1 - 2 * (s : Int)) * (g : Int) = t at *
  rw [e0, e1, e2, e3, Int.natAbs_mul, Int.natAbs_mul, Int.natAbs_mul, Int.natAbs_mul, gcd4_mul, ht] at hgd
  exact (Nat.eq_of_mul_eq_mul_left (Nat.pos_of_ne_zero hg) (by rw [Nat.mul_one]; exact hgd)).symm
theorem par_mul {p q x y t : Int} (hp : p = t * x) (hq : q = t * y) : p * y = q * x := by subst hp; subst hq; grind
section
variable {a b c : List Int} (m : Nat → Int)
theorem gx_ul : gx (Man.ul m 4) = Man.gl m 4 := rfl
theorem ul_eq : Man.ul m 4 = [Man.vl m 0, Man.vl m 1, Man.vl m 2, Man.vl m 3] := rfl
theorem low_good {rows : List (List Int)} (hu : ∀ r ∈ ManR.units, r ∈ rows) (hg : gx (Man.ul m 4) ≠ 0) (s : Nat) (hs : s < 2) (h : ∀ r ∈ rows, 0 ≤ Sem.dotL r (lowL (sgS (Man.ul m 4) s))) : lowL (sgS (Man.ul m 4) s) = Man.lineL m := by
  rw [ul_eq] at hg h ⊢
  obtain ⟨y0, y1, y2, y3, t, el, et, e0, e1, e2, e3, hy⟩ := low_form _ _ _ _ hg s hs
  rw [el] at h ⊢
  have hn := nonneg_units hu rfl h
  have hp : Prim y0 y1 y2 y3 := ⟨hn.1, hn.2.1, hn.2.2.1, hn.2.2.2, hy⟩
  refine (line_of m hp ?_ (par_mul e0 e1) (par_mul e0 e2) (par_mul e0 e3) (par_mul e1 e2) (par_mul e1 e3) (par_mul e2 e3)).symm
  rintro ⟨z0, z1, z2, z3⟩
  rw [z0, z1, z2, z3] at hg
  exact hg (by decide)
theorem line_low (hx : Man.lineL m ≠ []) : ∃ s, s < 2 ∧ lowL (sgS (Man.ul m 4) s) = Man.lineL m := by
  obtain ⟨D, x0, x1, x2, x3, hD, hl, hp, e0, e1, e2, e3⟩ := line_some _ hx
  have hg : gx (Man.ul m 4) = D.natAbs := by
    rw [ul_eq, e0, e1, e2, e3]
    show gcd4 (D * x0).natAbs (D * x1).natAbs (D * x2).natAbs (D * x3).natAbs = _
    rw [Int.natAbs_mul, Int.natAbs_mul, Int.natAbs_mul, Int.natAbs_mul, gcd4_mul, hp.g, Nat.mul_one]
  rw [ul_eq] at hg ⊢
  have one : ∀ s : Nat, s < 2 → (1 - 2 * (s : Int)) * (D.natAbs : Int) = D → lowL (sgS [Man.vl m 0, Man.vl m 1, Man.vl m 2, Man.vl m 3] s) = Man.lineL m := by
    intro s hs he
    obtain ⟨y0, y1, y2, y3, t, el, et, f0, f1, f2, f3, hy⟩ := low_form _ _ _ _ (by rw [hg]; omega) s hs
    rw [hg, he] at et
    subst et
    rw [el, hl]
    have c : ∀ {p x y : Int}, p = t * x → p = t * y → y = x := fun h1 h2 => (Int.eq_of_mul_eq_mul_left hD (h1.symm.trans h2)).symm
    rw [c e0 f0, c e1 f1, c e2 f2, c e3 f3]
  by_cases hs : 0 < D
  · exact ⟨0, by omega, one 0 (by omega) (by omega)⟩
  · exact ⟨1, by omega, one 1 (by omega) (by omega)⟩
end
/-- Two rows that no number divides, on one line. -/
theorem prim_same {x0 x1 x2 x3 y0 y1 y2 y3 : Int} (hx : Prim x0 x1 x2 x3) (hy : Prim y0 y1 y2 y3) (h : (y0 * y0 + y1 * y1 + y2 * y2 + y3 * y3) * (x0 * x0 + x1 * x1 + x2 * x2 + x3 * x3) = (y0 * x0 + y1 * x1 + y2 * x2 + y3 * x3) * (y0 * x0 + y1 * x1 + y2 * x2 + y3 * x3)) :
    y0 = x0 ∧ y1 = x1 ∧ y2 = x2 ∧ y3 = x3 := by
  have sq : ∀ z : Int, 0 ≤ z * z := fun z => by
    by_cases q : 0 ≤ z
    · exact Int.mul_nonneg q q
    · have := Int.mul_nonneg (show 0 ≤ -z by omega) (show 0 ≤ -z by omega)
      rw [Int.neg_mul_neg] at this
      exact this
  have hs : (y0 * x1 - y1 * x0) * (y0 * x1 - y1 * x0) + (y0 * x2 - y2 * x0) * (y0 * x2 - y2 * x0) + (y0 * x3 - y3 * x0) * (y0 * x3 - y3 * x0) + (y1 * x2 - y2 * x1) * (y1 * x2 - y2 * x1) + (y1 * x3 - y3 * x1) * (y1 * x3 - y3 * x1) + (y2 * x3 - y3 * x2) * (y2 * x3 - y3 * x2) = 0 := by grind
  have s1 := sq (y0 * x1 - y1 * x0)
  have s2 := sq (y0 * x2 - y2 * x0)
  have s3 := sq (y0 * x3 - y3 * x0)
  have s4 := sq (y1 * x2 - y2 * x1)
  have s5 := sq (y1 * x3 - y3 * x1)
  have s6 := sq (y2 * x3 - y3 * x2)
  have z : ∀ {z : Int}, z * z = 0 → z = 0 := fun h => (Int.mul_eq_zero.1 h).elim id id
  have t1 := z (show (y0 * x1 - y1 * x0) * (y0 * x1 - y1 * x0) = 0 by omega)
  have t2 := z (show (y0 * x2 - y2 * x0) * (y0 * x2 - y2 * x0) = 0 by omega)
  have t3 := z (show (y0 * x3 - y3 * x0) * (y0 * x3 - y3 * x0) = 0 by omega)
  have t4 := z (show (y1 * x2 - y2 * x1) * (y1 * x2 - y2 * x1) = 0 by omega)
  have t5 := z (show (y1 * x3 - y3 * x1) * (y1 * x3 - y3 * x1) = 0 by omega)
  have t6 := z (show (y2 * x3 - y3 * x2) * (y2 * x3 - y3 * x2) = 0 by omega)
  obtain ⟨D, hD, e0, e1, e2, e3⟩ := mul_form (v0 := y0) (v1 := y1) (v2 := y2) (v3 := y3) hx (by omega) (by omega) (by omega) (by omega) (by omega) (by omega)
  rw [hy.g] at hD
  rcases (show D = 1 ∨ D = -1 by omega) with rfl | rfl
  · omega
  · have a0 := hx.n0
    have a1 := hx.n1
    have a2 := hx.n2
    have a3 := hx.n3
    have b0 := hy.n0
    have b1 := hy.n1
    have b2 := hy.n2
    have b3 := hy.n3
    omega
/-- A row that the loops keep. -/
structure Kept4 (x : List Int) : Prop where
  six : Six x
  prim : Prim (rd x 0) (rd x 1) (rd x 2) (rd x 3)
theorem far_iff {x o : List Int} (hx : Kept4 x) (ho : Kept4 o) : farS x o = true ↔ o ≠ x := by
  have e1 := dot_pt ho.six.1 ho.six.1
  have e2 := dot_pt hx.six.1 hx.six.1
  have e3 := dot_pt ho.six.1 hx.six.1
  unfold farS
  rw [e1, e2, e3, bne_iff_ne]
  constructor
  · intro h e
    subst e
    exact h rfl
  · intro h e
    have := prim_same hx.prim ho.prim e
    obtain ⟨x0, x1, x2, x3, rfl, _⟩ := hx.six.form
    obtain ⟨o0, o1, o2, o3, rfl, _⟩ := ho.six.form
    have this : o0 = x0 ∧ o1 = x1 ∧ o2 = x2 ∧ o3 = x3 := this
    exact h (by rw [this.1, this.2.1, this.2.2.1, this.2.2.2])
theorem line_kept {a b c : List Int} (ha : Sem.Four a) (hb : Sem.Four b) (hc : Sem.Four c) (hx : Man.lineL (Man.ml a b c) ≠ []) : Kept4 (Man.lineL (Man.ml a b c)) := by
  have ho := line_on ha hb hc rfl hx
  exact ⟨⟨ho.len, Sem.ol_bound _ (Sem.ml_bound ha hb hc)⟩, ho.prim⟩
theorem dotL_comm {a b : List Int} (ha : a.length = 4) (hb : b.length = 4) : Sem.dotL a b = Sem.dotL b a := by rw [dot_pt ha hb, dot_pt hb ha, dot_comm]
theorem two_step {rows out : List (List Int)} (h4 : ∀ x ∈ rows, Sem.Four x) (hu : ∀ r ∈ ManR.units, r ∈ rows) (ho : ∀ x ∈ out, Kept4 x) {a b c : List Int} (ha : Sem.Four a) (hb : Sem.Four b) (hc : Sem.Four c) (hg : gx (Man.ul (Man.ml a b c) 4) ≠ 0) :
    twoS rows out (Man.ul (Man.ml a b c) 4) = ManR.stepR Sem.dotL rows out a b c := by
  have hgood := fun s hs => low_good (Man.ml a b c) hu hg s hs
  have hline := line_low (Man.ml a b c)
  have hk := line_kept ha hb hc
  have hne : lowL (sgS (Man.ul (Man.ml a b c) 4) 0) ≠ lowL (sgS (Man.ul (Man.ml a b c) 4) 1) := by
    rw [ul_eq] at hg ⊢
    obtain ⟨y0, y1, y2, y3, t, el, et, e0, e1, e2, e3, hy⟩ := low_form _ _ _ _ hg 0 (by omega)
    obtain ⟨z0, z1, z2, z3, u, fl, fu, f0, f1, f2, f3, hz⟩ := low_form _ _ _ _ hg 1 (by omega)
    rw [el, fl]
    intro e
    injection e with q0 e
    injection e with q1 e
    injection e with q2 e
    injection e with q3 e
    subst q0; subst q1; subst q2; subst q3
    have ht : t ≠ 0 := by omega
    have hu' : u = -t := by omega
    subst hu'
    have zz : ∀ {p y : Int}, p = t * y → p = -t * y → y = 0 := by
      intro p y h1 h2
      rw [Int.neg_mul] at h2
      exact (Int.mul_eq_zero.1 (show t * y = 0 by omega)).resolve_left ht
    rw [zz e0 f0, zz e1 f1, zz e2 f2, zz e3 f3] at hy
    exact absurd hy (by decide)
  have l0 : (lowL (sgS (Man.ul (Man.ml a b c) 4) 0)).length = 4 := rfl
  have l1 : (lowL (sgS (Man.ul (Man.ml a b c) 4) 1)).length = 4 := rfl
  have g0 := hgood 0 (by omega)
  have g1 := hgood 1 (by omega)
  have bad : ∀ (o : List (List Int)) (y : List Int), (¬ ∀ r ∈ rows, 0 ≤ Sem.dotL r y) → addS rows o y = o := by
    intro o y h
    unfold addS
    rw [if_neg]
    intro e
    refine h fun r hr => ?_
    rw [Bool.and_eq_true] at e
    exact of_decide_eq_true (List.all_eq_true.1 e.1 r hr)
  unfold twoS ManR.stepR
  by_cases hx : Man.lineL (Man.ml a b c) = []
  · rw [if_pos hx, bad _ _ (fun h => by have := g1 h; rw [this, hx] at l1; cases l1), bad _ _ (fun h => by have := g0 h; rw [this, hx] at l0; cases l0)]
  · rw [if_neg hx]
    have hk := hk hx
    have main : addS rows out (Man.lineL (Man.ml a b c)) = if (rows.any fun x => decide (Sem.dotL (Man.lineL (Man.ml a b c)) x < 0)) = true then out else if (out.any fun x => decide (x = Man.lineL (Man.ml a b c))) = true then out else out ++ [Man.lineL (Man.ml a b c)] := by
      generalize Man.lineL (Man.ml a b c) = x at hk
      by_cases h1 : (rows.any fun y => decide (Sem.dotL x y < 0)) = true
      · rw [if_pos h1]
        refine bad _ _ fun h => ?_
        obtain ⟨r, hr, hd⟩ := List.any_eq_true.1 h1
        have := h r hr
        rw [dotL_comm (h4 r hr).1 hk.six.1] at this
        have := of_decide_eq_true hd
        omega
      · rw [if_neg h1]
        have a1 : (rows.all fun r => decide (Sem.dotL r x ≥ 0)) = true := by
          rw [List.all_eq_true]
          intro r hr
          refine decide_eq_true ?_
          rw [dotL_comm (h4 r hr).1 hk.six.1]
          by_cases q : Sem.dotL x r < 0
          · exact absurd (List.any_eq_true.2 ⟨r, hr, decide_eq_true q⟩) h1
          · omega
        unfold addS
        rw [a1, Bool.true_and]
        by_cases h2 : (out.any fun z => decide (z = x)) = true
        · rw [if_pos h2, if_neg]
          intro e
          obtain ⟨z, hz, hd⟩ := List.any_eq_true.1 h2
          exact (far_iff hk (ho z hz)).1 (List.all_eq_true.1 e z hz) (of_decide_eq_true hd)
        · rw [if_neg h2, if_pos]
          rw [List.all_eq_true]
          intro z hz
          refine (far_iff hk (ho z hz)).2 fun e => h2 (List.any_eq_true.2 ⟨z, hz, decide_eq_true e⟩)
    rw [← main]
    obtain ⟨s, hs, es⟩ := hline hx
    rcases (show s = 0 ∨ s = 1 by omega) with rfl | rfl
    · rw [es, bad (addS rows out (Man.lineL (Man.ml a b c))) (lowL (sgS (Man.ul (Man.ml a b c) 4) 1)) (fun h => hne (es.trans (g1 h).symm))]
    · rw [bad out (lowL (sgS (Man.ul (Man.ml a b c) 4) 0)) (fun h => hne ((g0 h).trans es.symm)), es]
end Go.Proofs.Ytmkfmbjemdbigaa.Cor

end
section
/- spec.l6Corners answers what the loops over three bounds of impl.cornersOf find. -/
namespace Go.Proofs.Ytmkfmbjemdbigaa.Cor
open Go.RowKit Go.Proofs.Ytmkfmbjemdbigaa.PA Go.Proofs.YtmkfmbjemdbigaaW.PrintWords Go.Proofs.YtmkfmbjemdbigaaW.PrintLast Go.Proofs.YtmkfmbjemdbigaaW.PrintMore
set_option linter.unusedVariables false
set_option linter.unusedSimpArgs false
open Cone (V dot mnr Zero Par)
set_option linter.unusedSectionVars false

theorem kept_step {rows out : List (List Int)} (ho : ∀ x ∈ out, Kept4 x) {a b c : List Int} (ha : Sem.Four a) (hb : Sem.Four b) (hc : Sem.Four c) : ∀ x ∈ ManR.stepR Sem.dotL rows out a b c, Kept4 x := by
  intro x hx
  rcases (mem_step rows out a b c x).1 hx with h | h
  · exact ho x h
  · rw [h.1]; exact line_kept ha hb hc h.2.1
theorem ul_six {a b c : List Int} (ha : Sem.Four a) (hb : Sem.Four b) (hc : Sem.Four c) : Six (Man.ul (Man.ml a b c) 4) := by
  have hm := Sem.ml_bound ha hb hc
  have hv : ∀ i, i < 4 → -6 ≤ Man.vl (Man.ml a b c) i ∧ Man.vl (Man.ml a b c) i ≤ 6 := fun i hi => by
    have := hm i hi
    unfold Man.vl
    rcases (Man.sg_two i).1 with e | e <;> rw [e] <;> omega
  exact Six.mk4 (hv 0 (by omega)) (hv 1 (by omega)) (hv 2 (by omega)) (hv 3 (by omega))
theorem dot_self_zero {v : List Int} (hv : Six v) : Sem.dotL v v = 0 ↔ gx v = 0 := by
  obtain ⟨a, b, c, d, rfl, _⟩ := hv.form
  have sq : ∀ z : Int, 0 ≤ z * z := fun z => by
    by_cases q : 0 ≤ z
    · exact Int.mul_nonneg q q
    · have := Int.mul_nonneg (show 0 ≤ -z by omega) (show 0 ≤ -z by omega)
      rw [Int.neg_mul_neg] at this
      exact this
  have e : gx [a, b, c, d] = gcd4 a.natAbs b.natAbs c.natAbs d.natAbs := rfl
  rw [e, gcd4_zero]
  show a * a + (b * b + (c * c + (d * d + 0))) = 0 ↔ _
  have h0 := sq a
  have h1 := sq b
  have h2 := sq c
  have h3 := sq d
  have z : ∀ {z : Int}, z * z = 0 → z.natAbs = 0 := fun h => by have := (Int.mul_eq_zero.1 h).elim id id; omega
  constructor
  · intro h
    exact ⟨z (by omega), z (by omega), z (by omega), z (by omega)⟩
  · rintro ⟨z0, z1, z2, z3⟩
    rw [show a = 0 by omega, show b = 0 by omega, show c = 0 by omega, show d = 0 by omega]
    rfl
section
variable (rows : List (List Int)) (h4 : ∀ x ∈ rows, Sem.Four x) (hu : ∀ r ∈ ManR.units, r ∈ rows) (hn : rows.length ≤ 10) (r : List (List Int))
include h4 hu hn
theorem rowF (i : Nat) (hi : i < rows.length) : Sem.Four (rd_L5 rows (i : Int)) := h4 _ (ManR.mem_rd rows _ (by omega) (by omega))
theorem kept_l3 {a b : List Int} (ha : Sem.Four a) (hb : Sem.Four b) {o : List (List Int)} (ho : ∀ x ∈ o, Kept4 x) : ∀ j : Nat, j ≤ rows.length → ∀ x ∈ ManR.l3 Sem.dotL rows a b j o, Kept4 x
  | 0, _ => ho
  | j + 1, hj => kept_step (kept_l3 ha hb ho j (by omega)) ha hb (rowF rows h4 hu hn j (by omega))
theorem kept_l2 {a : List Int} (ha : Sem.Four a) {o : List (List Int)} (ho : ∀ x ∈ o, Kept4 x) : ∀ k : Nat, k ≤ rows.length → ∀ x ∈ ManR.l2 Sem.dotL rows a k o, Kept4 x
  | 0, _ => ho
  | k + 1, hk => kept_l3 rows h4 hu hn ha (rowF rows h4 hu hn k (by omega)) (kept_l2 ha ho k (by omega)) k (by omega)
theorem kept_l1 : ∀ i : Nat, i ≤ rows.length → ∀ x ∈ ManR.l1 Sem.dotL rows i, Kept4 x
  | 0, _ => fun x hx => absurd hx List.not_mem_nil
  | i + 1, hi => kept_l2 rows h4 hu hn (rowF rows h4 hu hn i (by omega)) (kept_l1 i (by omega)) i (by omega)
theorem round_ev (n p q : Nat) (hn' : n < rows.length) (hp : p < n) (hq : q < p) (out : List (List Int)) (hk : ∀ x ∈ out, Kept4 x) (hl : out.length < 100000)
    (h : Ev (fun k => spec_l6Corners.l2 k rows (ManR.stepR Sem.dotL rows out (rd_L5 rows (n : Int)) (rd_L5 rows (p : Int)) (rd_L5 rows (q : Int))) (n : Int) (p : Int) ((q + 1 : Nat) : Int)) r) : Ev (fun k => spec_l6Corners.l2 k rows out (n : Int) (p : Int) (q : Int)) r := by
  have ha := rowF rows h4 hu hn n hn'
  have hb := rowF rows h4 hu hn p (by omega)
  have hc := rowF rows h4 hu hn q (by omega)
  have hw : wrap64 ((q : Int) + 1) = ((q + 1 : Nat) : Int) := by unfold wrap64; omega
  have hmin : spec_l6Minor.f (rd_L5 rows (n : Int)) (rd_L5 rows (p : Int)) (rd_L5 rows (q : Int)) = some (Man.ul (Man.ml (rd_L5 rows (n : Int)) (rd_L5 rows (p : Int)) (rd_L5 rows (q : Int))) 4) := by
    show Man.minF _ _ _ = _
    unfold Man.minF
    rw [if_pos (by rw [Man.of_four ha, Man.of_four hb, Man.of_four hc]; rfl)]
  have hs := ul_six ha hb hc
  have go : Ev (fun k => (spec_l6Dot.f k (Man.ul (Man.ml (rd_L5 rows (n : Int)) (rd_L5 rows (p : Int)) (rd_L5 rows (q : Int))) 4) (Man.ul (Man.ml (rd_L5 rows (n : Int)) (rd_L5 rows (p : Int)) (rd_L5 rows (q : Int))) 4)).bind fun t145 => if t145 = 0 then spec_l6Corners.l2 k rows out (n : Int) (p : Int) (wrap64 ((q : Int) + 1)) else spec_l6Corners.l3 k rows out (n : Int) (p : Int) (q : Int) (Man.ul (Man.ml (rd_L5 rows (n : Int)) (rd_L5 rows (p : Int)) (rd_L5 rows (q : Int))) 4) 0) r := by
    refine Ev.bind (dotS_ev hs hs) ?_
    by_cases hz : Sem.dotL (Man.ul (Man.ml (rd_L5 rows (n : Int)) (rd_L5 rows (p : Int)) (rd_L5 rows (q : Int))) 4) (Man.ul (Man.ml (rd_L5 rows (n : Int)) (rd_L5 rows (p : Int)) (rd_L5 rows (q : Int))) 4) = 0
    · have hg := (dot_self_zero hs).1 hz
      have he : ManR.stepR Sem.dotL rows out (rd_L5 rows (n : Int)) (rd_L5 rows (p : Int)) (rd_L5 rows (q : Int)) = out := by
        unfold ManR.stepR
        rw [if_pos]
        unfold Man.lineL
        rw [if_pos (by rw [← gx_ul]; exact hg)]
      rw [he] at h
      simp only [if_pos hz, hw]
      exact h
    · have hg : gx (Man.ul (Man.ml (rd_L5 rows (n : Int)) (rd_L5 rows (p : Int)) (rd_L5 rows (q : Int))) 4) ≠ 0 := fun e => hz ((dot_self_zero hs).2 e)
      simp only [if_neg hz]
      refine l3_ev rows out _ _ _ _ r (fun x hx => Six.of_four (h4 x hx)) (by omega) (fun x hx => (hk x hx).six) hl hs hg ?_
      rw [two_step h4 hu hk ha hb hc hg, hw]
      exact h
  refine go.step fun k => ?_
  show spec_l6Corners.l2 (k + 1) rows out (n : Int) (p : Int) (q : Int) = _
  simp only [spec_l6Corners.l2]
  rw [if_pos (by omega), if_pos (by omega), if_pos (by omega), if_pos (by omega), if_pos (by omega), if_pos (by omega), if_pos (by omega), hmin]
  rfl
theorem l2c_ev (n p : Nat) (hn' : n < rows.length) (hp : p < n) (o : List (List Int)) (hk : ∀ x ∈ o, Kept4 x) (hl : o.length ≤ 10000)
    (h : Ev (fun k => spec_l6Corners.l1 k rows (ManR.l3 Sem.dotL rows (rd_L5 rows (n : Int)) (rd_L5 rows (p : Int)) p o) (n : Int) ((p + 1 : Nat) : Int)) r) (d : Nat) :
    ∀ q : Nat, q + d = p → Ev (fun k => spec_l6Corners.l2 k rows (ManR.l3 Sem.dotL rows (rd_L5 rows (n : Int)) (rd_L5 rows (p : Int)) q o) (n : Int) (p : Int) (q : Int)) r := by
  have hw : wrap64 ((p : Int) + 1) = ((p + 1 : Nat) : Int) := by unfold wrap64; omega
  induction d with
  | zero =>
    intro q hq
    obtain rfl : q = p := by omega
    refine h.step fun k => ?_
    show spec_l6Corners.l2 (k + 1) rows _ (n : Int) (q : Int) (q : Int) = _
    simp only [spec_l6Corners.l2]
    rw [if_neg (by omega), hw]
  | succ d ih =>
    intro q hq
    have h3 := ManR.l3_len Sem.dotL rows (rd_L5 rows (n : Int)) (rd_L5 rows (p : Int)) o q
    exact round_ev rows h4 hu hn r n p q hn' hp (by omega) _ (kept_l3 rows h4 hu hn (rowF rows h4 hu hn n hn') (rowF rows h4 hu hn p (by omega)) hk q (by omega)) (by omega) (ih (q + 1) (by omega))
theorem l1c_ev (n : Nat) (hn' : n < rows.length) (o : List (List Int)) (hk : ∀ x ∈ o, Kept4 x) (hl : o.length ≤ 9000)
    (h : Ev (fun k => spec_l6Corners.l0 k rows (ManR.l2 Sem.dotL rows (rd_L5 rows (n : Int)) n o) ((n + 1 : Nat) : Int)) r) (d : Nat) :
    ∀ p : Nat, p + d = n → Ev (fun k => spec_l6Corners.l1 k rows (ManR.l2 Sem.dotL rows (rd_L5 rows (n : Int)) p o) (n : Int) (p : Int)) r := by
  have hw : wrap64 ((n : Int) + 1) = ((n + 1 : Nat) : Int) := by unfold wrap64; omega
  induction d with
  | zero =>
    intro p hp
    obtain rfl : p = n := by omega
    refine h.step fun k => ?_
    show spec_l6Corners.l1 (k + 1) rows _ (p : Int) (p : Int) = _
    simp only [spec_l6Corners.l1]
    rw [if_neg (by omega), hw]
  | succ d ih =>
    intro p hp
    have h2 := ManR.l2_len Sem.dotL rows (rd_L5 rows (n : Int)) o p (by omega)
    have hb := l2c_ev rows h4 hu hn r n p hn' (by omega) _ (kept_l2 rows h4 hu hn (rowF rows h4 hu hn n hn') hk p (by omega)) (by omega) (ih (p + 1) (by omega)) p 0 (by omega)
    refine hb.step fun k => ?_
    show spec_l6Corners.l1 (k + 1) rows _ (n : Int) (p : Int) = _
    simp only [spec_l6Corners.l1]
    rw [if_pos (by omega)]
    rfl
theorem l0c_ev (d : Nat) : ∀ n : Nat, n + d = rows.length → Ev (fun k => spec_l6Corners.l0 k rows (ManR.l1 Sem.dotL rows n) (n : Int)) (ManR.l1 Sem.dotL rows rows.length) := by
  induction d with
  | zero =>
    intro n hn'
    obtain rfl : n = rows.length := by omega
    refine Ev.one fun k => ?_
    simp only [spec_l6Corners.l0]
    rw [if_neg (by omega)]
  | succ d ih =>
    intro n hn'
    have h1 := ManR.l1_len Sem.dotL rows n (by omega)
    have hb := l1c_ev rows h4 hu hn _ n (by omega) _ (kept_l1 rows h4 hu hn n (by omega)) (by omega) (ih (n + 1) (by omega)) n 0 (by omega)
    refine hb.step fun k => ?_
    show spec_l6Corners.l0 (k + 1) rows _ (n : Int) = _
    simp only [spec_l6Corners.l0]
    rw [if_pos (by omega)]
    rfl
theorem corners_ev : Ev (fun k => spec_l6Corners.f k rows) (ManR.l1 Sem.dotL rows rows.length) := l0c_ev rows h4 hu hn rows.length 0 (by omega)
end
end Go.Proofs.Ytmkfmbjemdbigaa.Cor

end
section
/- spec.CornersOf answers what impl.CornersOf answers. -/
namespace Go.Proofs.Ytmkfmbjemdbigaa.Cor
open Go.RowKit Go.Proofs.Ytmkfmbjemdbigaa.PA Go.Proofs.YtmkfmbjemdbigaaW.PrintWords Go.Proofs.YtmkfmbjemdbigaaW.PrintLast Go.Proofs.YtmkfmbjemdbigaaW.PrintMore
set_option linter.unusedVariables false
set_option linter.unusedSimpArgs false
open ManR (lexC sortL cornersI corA rwS)

theorem Ev.mono {α : Type} {f : Nat → Option α} {r : α} (hm : ∀ k, LeO (f k) (f (k + 1))) (K : Nat) (h : f K = some r) : Ev f r := by
  refine ⟨K, fun k hk => ?_⟩
  obtain ⟨d, rfl⟩ : ∃ d, k = K + d := ⟨k - K, by omega⟩
  clear hk
  induction d with
  | zero => exact h
  | succ d ih => exact hm _ _ ih
theorem spec_row_all : ((List.range 6).all fun f => (List.range 4).all fun o => (List.range 4).all fun t => decide (spec_l6Row.f 40 f o t = some (Sem.rowL f o t, Sem.strictB f))) = true := by kernel_rfl
theorem spec_row40 (f o t : Nat) (hf : f < 6) (ho : o < 4) (ht : t < 4) : spec_l6Row.f 40 f o t = some (Sem.rowL f o t, Sem.strictB f) :=
  of_decide_eq_true (List.all_eq_true.1 (List.all_eq_true.1 (List.all_eq_true.1 spec_row_all f (List.mem_range.2 hf)) o (List.mem_range.2 ho)) t (List.mem_range.2 ht))
theorem row_ev {s : S25} (h : Sem.OkWeigh s.f0 s.f1 s.f2) : Ev (fun k => spec_l6Row.f k s.f0 s.f1 s.f2) (rwS s, Sem.strictB s.f0.toNat) := by
  obtain ⟨f, o, t, e0, e1, e2, hf, ho, ht⟩ := Sem.weigh_nat h
  refine Ev.mono (fun k => spec_l6Row.mono _ _ _ k) 40 ?_
  unfold rwS
  rw [e0, e1, e2]
  exact spec_row40 f o t hf ho ht
theorem less_ev {x y : List Int} (hx : x.length = 4) (hy : y.length = 4) : Ev (fun k => spec_l6Less.f k x y) (decide (lexC x y < 0)) := by
  have go : ∀ (n i : Nat), i + n = 4 → Ev (fun k => spec_l6Less.l0 k x y (i : Int)) (decide (lexC (x.drop i) (y.drop i) < 0)) := by
    intro n
    induction n with
    | zero =>
      intro i hi
      refine Ev.one fun k => ?_
      simp only [spec_l6Less.l0]
      rw [if_neg (by omega), List.drop_of_length_le (by omega), List.drop_of_length_le (by omega)]
      rfl
    | succ n ih =>
      intro i hi
      have hlx : i < x.length := by omega
      have hly : i < y.length := by omega
      have hw : wrap64 ((i : Int) + 1) = ((i + 1 : Nat) : Int) := by unfold wrap64; omega
      rw [List.drop_eq_getElem_cons hlx, List.drop_eq_getElem_cons hly]
      by_cases he : x[i] = y[i]
      · have e : lexC (x[i] :: x.drop (i + 1)) (y[i] :: y.drop (i + 1)) = lexC (x.drop (i + 1)) (y.drop (i + 1)) := by
          rw [lexC, if_neg (by omega), if_neg (by omega)]
        rw [e]
        refine (ih (i + 1) (by omega)).step fun k => ?_
        show spec_l6Less.l0 (k + 1) x y (i : Int) = _
        simp only [spec_l6Less.l0]
        rw [if_pos (by omega), if_pos (by omega), if_pos (by omega), Sem.rd_at x i hlx, Sem.rd_at y i hly, if_pos he, hw]
      · refine Ev.one fun k => ?_
        simp only [spec_l6Less.l0]
        rw [if_pos (by omega), if_pos (by omega), if_pos (by omega), Sem.rd_at x i hlx, Sem.rd_at y i hly, if_neg he]
        congr 1
        rw [lexC]
        by_cases h1 : x[i] < y[i]
        · rw [if_pos h1, decide_eq_true h1]; rfl
        · rw [if_neg h1, if_pos (by omega), decide_eq_false h1]; rfl
  exact go 4 0 rfl
/-- One row put into rows in order, from the right (the rows that stand are given from the right). -/
def insR : List (List Int) → List Int → List (List Int)
  | [], x => [x]
  | a :: R, x => if lexC x a < 0 then a :: insR R x else x :: a :: R
theorem insR_len : ∀ R x, (insR R x).length = R.length + 1
  | [], _ => rfl
  | a :: R, x => by
    unfold insR
    split
    · rw [List.length_cons, insR_len R x]; rfl
    · rfl
theorem insR_perm : ∀ R x, (insR R x).Perm (x :: R)
  | [], _ => List.Perm.refl _
  | a :: R, x => by
    unfold insR
    split
    · exact ((insR_perm R x).cons a).trans (List.Perm.swap x a R)
    · exact List.Perm.refl _
theorem insR_sorted : ∀ R x, R.Pairwise (fun a b => ¬ lexC a b < 0) → (insR R x).Pairwise (fun a b => ¬ lexC a b < 0)
  | [], _, _ => by unfold insR; simp
  | a :: R, x, h => by
    obtain ⟨h1, h2⟩ := List.pairwise_cons.1 h
    unfold insR
    split
    · next hlt =>
      refine List.pairwise_cons.2 ⟨fun y hy => ?_, insR_sorted R x h2⟩
      rcases List.mem_cons.1 ((insR_perm R x).mem_iff.1 hy) with rfl | hy
      · have := ManR.lexC_swap y a; omega
      · exact h1 y hy
    · next hlt =>
      refine List.pairwise_cons.2 ⟨fun y hy => ?_, h⟩
      rcases List.mem_cons.1 hy with rfl | hy
      · exact hlt
      · exact ManR.lexC_ntrans x a y hlt (h1 y hy)
theorem rd_mid : ∀ (A : List (List Int)) (x : List Int) (B : List (List Int)), rd_L5 (A ++ x :: B) (A.length : Int) = x := by
  intro A x B
  unfold rd_L5
  rw [List.getD_eq_getElem?_getD, Int.toNat_natCast, List.getElem?_append_right (Nat.le_refl _), Nat.sub_self]
  rfl
theorem set_mid : ∀ (A : List (List Int)) (x y : List Int) (B : List (List Int)), (A ++ x :: B).set A.length y = A ++ y :: B
  | [], _, _, _ => rfl
  | a :: A, x, y, B => by
    show a :: (A ++ x :: B).set A.length y = a :: (A ++ y :: B)
    rw [set_mid A x y B]
theorem sort_l2 (r : List (List Int)) (x8 : Int) (x : List Int) (hx : x.length = 4) : ∀ (R B : List (List Int)), (∀ y ∈ R, y.length = 4) → R.length + B.length ≤ 100000 →
    Ev (fun k => spec_CornersOf.l1 k ((insR R x).reverse ++ B) (wrap64 (x8 + 1))) r → Ev (fun k => spec_CornersOf.l2 k (R.reverse ++ x :: B) x8 (R.length : Int)) r
  | [], B, _, _, h => by
    refine h.step fun k => ?_
    show spec_CornersOf.l2 (k + 1) (x :: B) x8 0 = _
    simp only [spec_CornersOf.l2]
    rw [if_neg (by omega)]
    rfl
  | a :: R, B, h4, hl, h => by
    have hl' : R.length + 1 + B.length ≤ 100000 := hl
    have hw : wrap64 (((a :: R).length : Int) - 1) = (R.length : Int) := by rw [List.length_cons]; unfold wrap64; omega
    have ef : (a :: R).reverse ++ x :: B = R.reverse ++ a :: (x :: B) := by rw [List.reverse_cons, List.append_assoc]; rfl
    have eg : (a :: R).reverse ++ x :: B = (R.reverse ++ [a]) ++ x :: B := by rw [List.reverse_cons]
    have ra : rd_L5 ((a :: R).reverse ++ x :: B) (R.length : Int) = a := by
      rw [ef, show (R.length : Int) = (R.reverse.length : Int) by rw [List.length_reverse]]
      exact rd_mid _ _ _
    have rx : rd_L5 ((a :: R).reverse ++ x :: B) ((a :: R).length : Int) = x := by
      rw [eg, show ((a :: R).length : Int) = ((R.reverse ++ [a]).length : Int) by rw [List.length_append, List.length_reverse]; rfl]
      exact rd_mid _ _ _
    have es : (((a :: R).reverse ++ x :: B).set (a :: R).length a).set R.length x = R.reverse ++ x :: (a :: B) := by
      have l1 : (R.reverse ++ [a]).length = (a :: R).length := by rw [List.length_append, List.length_reverse]; rfl
      have q := set_mid (R.reverse ++ [a]) x a B
      rw [l1] at q
      rw [eg, q, List.append_assoc]
      have q2 := set_mid R.reverse a x (a :: B)
      rw [List.length_reverse] at q2
      exact q2
    have hlen : ((a :: R).reverse ++ x :: B).length = R.length + B.length + 2 := by rw [List.length_append, List.length_reverse, List.length_cons, List.length_cons]; omega
    have hc : ((a :: R).length : Int) = (R.length : Int) + 1 := by rw [List.length_cons]; omega
    have hb : Ev (fun k => (spec_l6Less.f k x a).bind fun t209 => if t209 = true then spec_CornersOf.l2 k (R.reverse ++ x :: (a :: B)) x8 (R.length : Int) else spec_CornersOf.l1 k ((a :: R).reverse ++ x :: B) (wrap64 (x8 + 1))) r := by
      refine Ev.bind (less_ev hx (h4 a (by simp))) ?_
      by_cases hlt : lexC x a < 0
      · simp only [decide_eq_true hlt, if_true]
        refine sort_l2 r x8 x hx R (a :: B) (fun y hy => h4 y (by simp [hy])) (by rw [List.length_cons]; omega) ?_
        have e : insR (a :: R) x = a :: insR R x := by rw [insR, if_pos hlt]
        rw [e, List.reverse_cons, List.append_assoc] at h
        exact h
      · simp only [decide_eq_false hlt]
        have e : insR (a :: R) x = x :: a :: R := by rw [insR, if_neg hlt]
        rw [e, List.reverse_cons, List.append_assoc] at h
        exact h
    refine hb.step fun k => ?_
    show spec_CornersOf.l2 (k + 1) ((a :: R).reverse ++ x :: B) x8 ((a :: R).length : Int) = _
    simp only [spec_CornersOf.l2]
    rw [hw, if_pos (by omega), if_pos (by omega), if_pos (by omega), if_pos (by omega), if_pos (by omega), ra, rx, Int.toNat_natCast, Int.toNat_natCast, es]
theorem sort_l1 : ∀ (B R : List (List Int)), (∀ y ∈ R, y.length = 4) → (∀ y ∈ B, y.length = 4) → R.length + B.length ≤ 100000 →
    Ev (fun k => spec_CornersOf.l1 k (R.reverse ++ B) (R.length : Int)) (B.foldl insR R).reverse
  | [], R, _, _, _ => by
    refine Ev.one fun k => ?_
    simp only [spec_CornersOf.l1, List.append_nil, List.foldl_nil]
    rw [if_neg (by rw [List.length_reverse]; omega)]
  | x :: B, R, hR, hB, hl => by
    have hl' : R.length + (B.length + 1) ≤ 100000 := hl
    have hw : wrap64 ((R.length : Int) + 1) = ((insR R x).length : Int) := by rw [insR_len]; unfold wrap64; omega
    have h := sort_l1 B (insR R x) (fun y hy => by
      rcases List.mem_cons.1 ((insR_perm R x).mem_iff.1 hy) with rfl | hy
      · exact hB y (by simp)
      · exact hR y hy) (fun y hy => hB y (by simp [hy])) (by rw [insR_len]; omega)
    have h2 := sort_l2 (B.foldl insR (insR R x)).reverse (R.length : Int) x (hB x (by simp)) R B hR (by omega) (by rw [hw]; exact h)
    refine h2.step fun k => ?_
    show spec_CornersOf.l1 (k + 1) (R.reverse ++ x :: B) (R.length : Int) = _
    simp only [spec_CornersOf.l1]
    rw [if_pos (by rw [List.length_append, List.length_reverse, List.length_cons]; omega)]
theorem fold_perm : ∀ (B R : List (List Int)), (B.foldl insR R).Perm (B ++ R)
  | [], _ => List.Perm.refl _
  | x :: B, R => (fold_perm B (insR R x)).trans (((insR_perm R x).append_left B).trans List.perm_middle)
theorem fold_sorted : ∀ (B R : List (List Int)), R.Pairwise (fun a b => ¬ lexC a b < 0) → (B.foldl insR R).Pairwise (fun a b => ¬ lexC a b < 0)
  | [], _, h => h
  | x :: B, R, h => fold_sorted B (insR R x) (insR_sorted R x h)
/-- The spec's sort. -/
theorem sort_ev {t : List (List Int)} (h4 : ∀ y ∈ t, y.length = 4) (hl : t.length ≤ 100000) : Ev (fun k => spec_CornersOf.l1 k t 1) (t.foldl insR []).reverse := by
  cases t with
  | nil =>
    refine Ev.one fun k => ?_
    simp only [spec_CornersOf.l1]
    rw [if_neg (by simp)]
    rfl
  | cons y B => exact sort_l1 B [y] (fun z hz => by rw [List.mem_singleton.1 hz]; exact h4 y (by simp)) (fun z hz => h4 z (by simp [hz])) (by have := hl; rw [List.length_cons] at this; rw [List.length_singleton]; omega)
/-- Sorted rows with the same members, none twice, are the same. -/
theorem sort_same {t u : List (List Int)} (ht : t.Nodup) (hu : u.Nodup) (hm : ∀ x, x ∈ t ↔ x ∈ u) : (t.foldl insR []).reverse = sortL u := by
  have p1 : (t.foldl insR []).reverse.Perm t := (List.reverse_perm _).trans ((fold_perm t []).trans (by rw [List.append_nil]))
  have p2 : (sortL u).Perm u := List.mergeSort_perm _ _
  have p3 : t.Perm u := (List.perm_ext_iff_of_nodup ht hu).2 hm
  refine List.Perm.eq_of_pairwise (le := fun a b => ¬ lexC b a < 0) (fun a b _ _ h1 h2 => ?_) ?_ ?_ (p1.trans (p3.trans p2.symm))
  · have := ManR.lexC_swap a b
    exact ManR.lexC_eq a b (by omega)
  · rw [List.pairwise_reverse]
    exact fold_sorted t [] List.Pairwise.nil
  · have := List.pairwise_mergeSort (le := fun x y => !(decide (lexC y x < 0))) (fun a b c h1 h2 => ?_) (fun a b => ?_) u
    · refine this.imp fun h => ?_
      simpa using h
    · simp at h1 h2 ⊢
      have := ManR.lexC_ntrans c b a (by omega) (by omega)
      omega
    · have := ManR.lexC_swap a b
      simp
      omega
end Go.Proofs.Ytmkfmbjemdbigaa.Cor

end
section
/- spec.CornersOf answers what impl.CornersOf answers. -/
namespace Go.Proofs.Ytmkfmbjemdbigaa.Cor
open Go.RowKit Go.Proofs.Ytmkfmbjemdbigaa.PA Go.Proofs.YtmkfmbjemdbigaaW.PrintWords Go.Proofs.YtmkfmbjemdbigaaW.PrintLast Go.Proofs.YtmkfmbjemdbigaaW.PrintMore
set_option linter.unusedVariables false
set_option linter.unusedSimpArgs false
open ManR (lexC sortL cornersI corA rwS bsF)

theorem weighB_ok (s : S25) : Man.weighB s = decide (Sem.OkWeigh s.f0 s.f1 s.f2) := by
  unfold Man.weighB
  rw [Sem.impl_isWeigh_eq]
  rfl
def rowsA (l : List S25) : List (List Int) := ManR.units ++ l.map rwS
theorem rowsA_four (l : List S25) : ∀ x ∈ rowsA l, Sem.Four x := by
  intro x hx
  unfold rowsA at hx
  rcases List.mem_append.1 hx with hx | hx
  · have : x = [1, 0, 0, 0] ∨ x = [0, 1, 0, 0] ∨ x = [0, 0, 1, 0] ∨ x = [0, 0, 0, 1] := by unfold ManR.units at hx; simpa using hx
    rcases this with rfl | rfl | rfl | rfl <;> exact ⟨rfl, by decide⟩
  · obtain ⟨s, _, rfl⟩ := List.mem_map.1 hx
    exact ⟨Sem.row_len _ _ _, Sem.row_one _ _ _⟩
theorem some_row (o t : Nat) : 0 ≤ rd (Sem.rowL 1 o t) 0 ∧ 0 ≤ rd (Sem.rowL 1 o t) 1 ∧ 0 ≤ rd (Sem.rowL 1 o t) 2 ∧ 0 ≤ rd (Sem.rowL 1 o t) 3 := by
  have h : ∀ b c : Bool, 0 ≤ Sem.wt 1 (Sem.bit b) (Sem.bit c) := by decide
  exact ⟨h _ _, h _ _, h _ _, h _ _⟩
theorem corner_rows (l : List S25) (hl : l.length ≤ 6) (x : List Int) : x ∈ ManR.l1 Sem.dotL (rowsA l) (rowsA l).length ↔ x ∈ ManR.l1 Sem.dotL (bsF l) (bsF l).length := by
  rw [corner_iff _ (rowsA_four l), corner_iff _ (ManR.bs_four l)]
  refine corner_same (fun r hr => ?_) (fun r hr => ?_) (fun r hr => ?_) x
  · unfold ManR.bsF ManR.bsL at hr
    unfold rowsA
    rcases List.mem_append.1 hr with hr | hr
    · exact List.mem_append.2 (Or.inl hr)
    · obtain ⟨s, hs, rfl⟩ := List.mem_map.1 hr
      exact List.mem_append.2 (Or.inr (List.mem_map.2 ⟨s, (List.mem_filter.1 hs).1, rfl⟩))
  · unfold ManR.bsF ManR.bsL
    exact List.mem_append.2 (Or.inl hr)
  · unfold rowsA at hr
    rcases List.mem_append.1 hr with hr | hr
    · left
      unfold ManR.bsF ManR.bsL
      exact List.mem_append.2 (Or.inl hr)
    · obtain ⟨s, hs, rfl⟩ := List.mem_map.1 hr
      by_cases h1 : s.f0 = 1
      · right
        unfold ManR.rwS
        rw [h1]
        exact some_row _ _
      · left
        unfold ManR.bsF ManR.bsL
        exact List.mem_append.2 (Or.inr (List.mem_map.2 ⟨s, List.mem_filter.2 ⟨hs, by simpa using h1⟩, rfl⟩))
theorem rdT_get (l : List S25) (i : Nat) (h : i < l.length) : rd_T25 l (i : Int) = l[i] := by
  unfold rd_T25
  rw [List.getD_eq_getElem?_getD, Int.toNat_natCast, List.getElem?_eq_getElem h]
  rfl
theorem l0_ok (l : List S25) (hl : l.length ≤ 6) (hok : ∀ s ∈ l, Sem.OkWeigh s.f0 s.f1 s.f2) (r : List (List Int)) (h : Ev (fun k => spec_CornersOf.l0 k l (rowsA l) (l.length : Int)) r) (d : Nat) : ∀ i : Nat, i + d = l.length → Ev (fun k => spec_CornersOf.l0 k l (rowsA (l.take i)) (i : Int)) r := by
  induction d with
  | zero =>
    intro i hi
    obtain rfl : i = l.length := by omega
    rw [List.take_length]
    exact h
  | succ d ih =>
    intro i hi
    have hlt : i < l.length := by omega
    have ho := hok _ (List.getElem_mem hlt)
    have hw : wrap64 ((i : Int) + 1) = ((i + 1 : Nat) : Int) := by unfold wrap64; omega
    have er : rowsA (l.take (i + 1)) = rowsA (l.take i) ++ [rwS l[i]] := by
      unfold rowsA
      rw [List.take_succ_eq_append_getElem hlt, List.map_append, List.append_assoc]
      rfl
    have hlen : (rowsA (l.take i)).length ≤ 4 + i := by
      unfold rowsA
      rw [List.length_append, List.length_map, List.length_take]
      show 4 + _ ≤ _
      omega
    have hb : Ev (fun k => (spec_l6Row.f k l[i].f0 l[i].f1 l[i].f2).bind fun bt194 => if (rowsA (l.take i)).length < 5864062014805 then spec_CornersOf.l0 k l (rowsA (l.take i) ++ [bt194.1]) ((i + 1 : Nat) : Int) else none) r := by
      refine Ev.bind (row_ev ho) ?_
      simp only [if_pos (show (rowsA (l.take i)).length < 5864062014805 by omega)]
      rw [← er]
      exact ih (i + 1) (by omega)
    refine hb.step fun k => ?_
    show spec_CornersOf.l0 (k + 1) l (rowsA (l.take i)) (i : Int) = _
    simp only [spec_CornersOf.l0]
    rw [if_pos (by omega), if_pos (by omega), rdT_get l i hlt, Sem.spec_WeighOk_eq, decide_eq_true ho, Option.bind_some, if_pos rfl, if_neg (by omega), hw]
theorem l0_bad (l : List S25) (d : Nat) : ∀ (i : Nat) (x3 : List (List Int)), i + d = l.length → (6 < l.length ∧ 0 < d ∨ l.length ≤ 6 ∧ ∃ s ∈ l.drop i, ¬ Sem.OkWeigh s.f0 s.f1 s.f2) → x3.length ≤ 4 + i →
    Ev (fun k => spec_CornersOf.l0 k l x3 (i : Int)) [] := by
  induction d with
  | zero =>
    intro i x3 hi h hx
    rcases h with h | ⟨_, s, hs, _⟩
    · omega
    · rw [List.drop_of_length_le (by omega)] at hs
      exact absurd hs List.not_mem_nil
  | succ d ih =>
    intro i x3 hi h hx
    have hlt : i < l.length := by omega
    by_cases ho : Sem.OkWeigh l[i].f0 l[i].f1 l[i].f2
    · by_cases h6 : 6 < l.length
      · refine Ev.one fun k => ?_
        simp only [spec_CornersOf.l0]
        rw [if_pos (by omega), if_pos (by omega), rdT_get l i hlt, Sem.spec_WeighOk_eq, decide_eq_true ho, Option.bind_some, if_pos rfl, if_pos (by omega)]
      · have hw : wrap64 ((i : Int) + 1) = ((i + 1 : Nat) : Int) := by unfold wrap64; omega
        have hd : ∃ s ∈ l.drop (i + 1), ¬ Sem.OkWeigh s.f0 s.f1 s.f2 := by
          rcases h with h | ⟨_, s, hs, hn⟩
          · omega
          · rw [List.drop_eq_getElem_cons hlt] at hs
            rcases List.mem_cons.1 hs with rfl | hs
            · exact absurd ho hn
            · exact ⟨s, hs, hn⟩
        have hb : Ev (fun k => (spec_l6Row.f k l[i].f0 l[i].f1 l[i].f2).bind fun bt194 => if x3.length < 5864062014805 then spec_CornersOf.l0 k l (x3 ++ [bt194.1]) ((i + 1 : Nat) : Int) else none) [] := by
          refine Ev.bind (row_ev ho) ?_
          simp only [if_pos (show x3.length < 5864062014805 by omega)]
          exact ih (i + 1) _ (by omega) (Or.inr ⟨by omega, hd⟩) (by rw [List.length_append, List.length_singleton]; omega)
        refine hb.step fun k => ?_
        show spec_CornersOf.l0 (k + 1) l x3 (i : Int) = _
        simp only [spec_CornersOf.l0]
        rw [if_pos (by omega), if_pos (by omega), rdT_get l i hlt, Sem.spec_WeighOk_eq, decide_eq_true ho, Option.bind_some, if_pos rfl, if_neg (by omega), hw]
    · refine Ev.one fun k => ?_
      simp only [spec_CornersOf.l0]
      rw [if_pos (by omega), if_pos (by omega), rdT_get l i hlt, Sem.spec_WeighOk_eq, decide_eq_false ho, Option.bind_some, if_neg (by simp)]
theorem cornersOf_ev (l : List S25) : Ev (fun k => spec_CornersOf.f k l) (corA l) := by
  by_cases hw : Man.weighedB l = true
  · obtain ⟨h6, hok⟩ := ManR.weigh_ok hw
    unfold corA
    rw [if_pos hw]
    have hn : (rowsA l).length ≤ 10 := by
      unfold rowsA
      rw [List.length_append, List.length_map]
      show 4 + _ ≤ _
      omega
    have hu : ∀ r ∈ ManR.units, r ∈ rowsA l := fun r hr => List.mem_append.2 (Or.inl hr)
    have hlen := ManR.l1_len Sem.dotL (rowsA l) (rowsA l).length hn
    have hs := sort_ev (t := ManR.l1 Sem.dotL (rowsA l) (rowsA l).length) (hlen.2) (by omega)
    rw [sort_same (u := ManR.l1 Sem.dotL (bsF l) (bsF l).length) (ManR.l1_nodup _ _ _) (ManR.l1_nodup _ _ _) (corner_rows l h6)] at hs
    refine l0_ok l h6 hok _ ?_ l.length 0 (by omega)
    have hb : Ev (fun k => (spec_l6Corners.f k (rowsA l)).bind fun t204 => spec_CornersOf.l1 k t204 1) (cornersI l) := Ev.bind (corners_ev (rowsA l) (rowsA_four l) hu hn) hs
    refine hb.step fun k => ?_
    show spec_CornersOf.l0 (k + 1) l (rowsA l) (l.length : Int) = _
    simp only [spec_CornersOf.l0]
    rw [if_neg (by omega)]
  · unfold corA
    rw [if_neg hw]
    refine l0_bad l l.length 0 _ (by omega) ?_ (by decide)
    unfold Man.weighedB at hw
    by_cases h6 : l.length ≤ 6
    · right
      refine ⟨h6, ?_⟩
      rw [decide_eq_true h6, Bool.true_and, List.all_eq_true] at hw
      by_cases he : ∃ s ∈ l, ¬ Sem.OkWeigh s.f0 s.f1 s.f2
      · exact he
      · refine absurd (fun s hs => ?_) hw
        rw [weighB_ok]
        by_cases q : Sem.OkWeigh s.f0 s.f1 s.f2
        · exact decide_eq_true q
        · exact absurd ⟨s, hs, q⟩ he
    · left; omega
end Go.Proofs.Ytmkfmbjemdbigaa.Cor

end
section
/- CountsFor of both programs, in plain words; no condition. -/
namespace Go.Proofs.Ytmkfmbjemdbigaa.Cor
open Go.RowKit Go.Proofs.Ytmkfmbjemdbigaa.PA Go.Proofs.YtmkfmbjemdbigaaW.PrintWords Go.Proofs.YtmkfmbjemdbigaaW.PrintLast Go.Proofs.YtmkfmbjemdbigaaW.PrintMore
set_option linter.unusedVariables false
set_option linter.unusedSimpArgs false
open ManR (lexC sortL cornersI corA rwS bsF addR sumN sumL wsB cntA cntF)

theorem rd_in {x : List Int} (h : x.length = 4) (j : Nat) (hj : j < 4) : rd x (j : Int) ∈ x := by
  rw [Sem.rd_at x j (by omega)]
  exact List.getElem_mem _
theorem corner_nonneg (l : List S25) : ∀ x ∈ cornersI l, ∀ y ∈ x, 0 ≤ y := by
  intro x hx y hy
  have h1 := (List.mergeSort_perm (ManR.l1 Sem.dotL (bsF l) (bsF l).length) (fun x y => !(decide (lexC y x < 0)))).mem_iff.1 hx
  have hC := (corner_iff _ (ManR.bs_four l) x).1 h1
  have hl := hC.len
  have hp := hC.prim
  match x, hl with
  | [a, b, c, d], _ =>
    have h0 : 0 ≤ a := hp.n0
    have h1 : 0 ≤ b := hp.n1
    have h2 : 0 ≤ c := hp.n2
    have h3 : 0 ≤ d := hp.n3
    rcases (show y = a ∨ y = b ∨ y = c ∨ y = d by simpa using hy) with e | e | e | e <;> rw [e] <;> assumption
theorem sumN_nonneg (o : List (List Int)) (h : ∀ x ∈ o, x.length = 4) (hb : ∀ x ∈ o, ∀ y ∈ x, 0 ≤ y) : ∀ i, i ≤ o.length → ∀ y ∈ sumN o i, 0 ≤ y
  | 0, _ => by intro y hy; simp [sumN] at hy; omega
  | i + 1, hi => by
    have ih := sumN_nonneg o h hb i (by omega)
    have hl := ManR.sumN_len o h i (by omega)
    have hm := ManR.mem_rd o (i : Int) (by omega) (by omega)
    have h4 := h _ hm
    have h6 := hb _ hm
    show ∀ y ∈ addR (sumN o i) (rd_L5 o (i : Int)) 4, _
    generalize sumN o i = s at ih hl
    generalize rd_L5 o (i : Int) = r at h4 h6
    match s, hl, r, h4 with
    | [a, b, c, d], _, [x, y, z, u], _ =>
      intro v hv
      have e : addR [a, b, c, d] [x, y, z, u] 4 = [a + x, b + y, c + z, d + u] := rfl
      rw [e] at hv
      have a1 := ih a (by simp)
      have a2 := ih b (by simp)
      have a3 := ih c (by simp)
      have a4 := ih d (by simp)
      have b1 := h6 x (by simp)
      have b2 := h6 y (by simp)
      have b3 := h6 z (by simp)
      have b4 := h6 u (by simp)
      rcases (show v = a + x ∨ v = b + y ∨ v = c + z ∨ v = d + u by simpa using hv) with e | e | e | e <;> omega
theorem cor_len {l : List S25} (h : l.length ≤ 6) : (cornersI l).length ≤ 1000 ∧ ∀ x ∈ cornersI l, x.length = 4 := ManR.cornersI_len l (ManR.bsF_len l h).2
theorem sum_counts {l : List S25} (h : l.length ≤ 6) : Man.countsB (sumL (cornersI l)) = true := by
  have hc := cor_len h
  have hl := ManR.sumN_len (cornersI l) hc.2 (cornersI l).length (Nat.le_refl _)
  have h0 := sumN_nonneg (cornersI l) hc.2 (corner_nonneg l) (cornersI l).length (Nat.le_refl _)
  have h6 := ManR.sumN_bound (cornersI l) hc.2 (ManR.cornersI_bound l) (cornersI l).length (Nat.le_refl _)
  unfold Man.countsB
  simp only [Bool.and_eq_true, decide_eq_true_eq]
  refine ⟨hl, List.all_eq_true.2 fun x hx => ?_⟩
  have a := h0 x hx
  have b := h6 x hx
  unfold Man.cntB
  refine decide_eq_true ?_
  omega
theorem wsB_eq {s : S25} (h : Sem.OkWeigh s.f0 s.f1 s.f2) (n : List Int) : wsB n s = Sem.weighV n s.f0.toNat s.f1.toNat s.f2.toNat := rfl
/-- Both programs' CountsFor. -/
def cntR (l : List S25) : List Int × Bool := if Man.weighedB l = true then cntA l else ([], false)
section
variable (l : List S25) (r : List Int × Bool)
theorem c3_ev (hok : ∀ s ∈ l, Sem.OkWeigh s.f0 s.f1 s.f2) (hl : l.length ≤ 6) (S : List Int) (hS : Man.countsB S = true) (n : Nat) : ∀ i : Nat, i + n = l.length →
    Ev (fun k => spec_CountsFor.l3 k l S (i : Int)) (if ((l.drop i).any fun s => !(wsB S s)) = true then ([], false) else (S, true)) := by
  have hS4 := (Sem.counts_bound hS).1
  induction n with
  | zero =>
    intro i hi
    rw [List.drop_of_length_le (by omega)]
    refine Ev.one fun k => ?_
    simp only [spec_CountsFor.l3]
    rw [if_neg (by omega)]
    rfl
  | succ n ih =>
    intro i hi
    have hlt : i < l.length := by omega
    have ho := hok _ (List.getElem_mem hlt)
    have hw : wrap64 ((i : Int) + 1) = ((i + 1 : Nat) : Int) := by unfold wrap64; omega
    have hws : Ev (fun k => spec_WeighSo.f k S l[i].f0 l[i].f1 l[i].f2) (wsB S l[i]) := by
      have := Sem.spec_WeighSo_eq S (by omega) l[i].f0 l[i].f1 l[i].f2
      unfold Sem.weighSoB at this
      rw [hS, decide_eq_true ho, Bool.true_and, Bool.true_and, ← wsB_eq ho] at this
      exact this
    have hb : Ev (fun k => (spec_WeighSo.f k S l[i].f0 l[i].f1 l[i].f2).bind fun t243 => if t243 = true then spec_CountsFor.l3 k l S ((i + 1 : Nat) : Int) else some ([], false)) (if ((l.drop i).any fun s => !(wsB S s)) = true then ([], false) else (S, true)) := by
      refine Ev.bind hws ?_
      rw [List.drop_eq_getElem_cons hlt, List.any_cons]
      cases hq : wsB S l[i] with
      | false => exact Ev.from 0 fun k _ => by simp
      | true =>
        simp only [if_true, Bool.not_true, Bool.false_or]
        exact ih (i + 1) (by omega)
    refine hb.step fun k => ?_
    show spec_CountsFor.l3 (k + 1) l S (i : Int) = _
    simp only [spec_CountsFor.l3]
    rw [if_pos (by omega), if_pos (by omega), rdT_get l i hlt, hw]
theorem c2_ev (o : List (List Int)) (h4 : ∀ x ∈ o, x.length = 4) (h6 : ∀ x ∈ o, ∀ y ∈ x, -6 ≤ y ∧ y ≤ 6) (hol : o.length ≤ 1000) (i : Nat) (hi : i < o.length) (h : Ev (fun k => spec_CountsFor.l1 k l (sumN o (i + 1)) o ((i + 1 : Nat) : Int)) r) (n : Nat) : ∀ j : Nat, j + n = 4 →
    Ev (fun k => spec_CountsFor.l2 k l (addR (sumN o i) (rd_L5 o (i : Int)) j) o (i : Int) (j : Int)) r := by
  have hm := ManR.mem_rd o (i : Int) (by omega) (by omega)
  have hr4 := h4 _ hm
  have hr6 := h6 _ hm
  have hs4 := ManR.sumN_len o h4 i (by omega)
  have hs6 := ManR.sumN_bound o h4 h6 i (by omega)
  have hwi : wrap64 ((i : Int) + 1) = ((i + 1 : Nat) : Int) := by unfold wrap64; omega
  induction n with
  | zero =>
    intro j hj
    obtain rfl : j = 4 := by omega
    refine h.step fun k => ?_
    show spec_CountsFor.l2 (k + 1) l _ o (i : Int) (4 : Nat) = _
    simp only [spec_CountsFor.l2]
    rw [if_neg (by omega), hwi]
    rfl
  | succ n ih =>
    intro j hj
    have hw : wrap64 ((j : Int) + 1) = ((j + 1 : Nat) : Int) := by unfold wrap64; omega
    obtain ⟨n1, n2⟩ := ManR.addR_next (sumN o i) (rd_L5 o (i : Int)) hs4 hr4 j (by omega)
    have b1 := hs6 _ (rd_in hs4 j (by omega))
    have b2 := hr6 _ (rd_in hr4 j (by omega))
    have hl := ManR.addR_len (sumN o i) (rd_L5 o (i : Int)) hs4 hr4 j (by omega)
    refine (ih (j + 1) (by omega)).step fun k => ?_
    show spec_CountsFor.l2 (k + 1) l _ o (i : Int) (j : Int) = _
    simp only [spec_CountsFor.l2]
    rw [if_pos (by omega), if_pos (by omega), if_pos (by omega), if_pos (by omega), if_pos (by omega), if_pos (by omega), n1, Sem.w64 (by omega) (by omega), hw, Int.toNat_natCast, n2]
theorem c1_ev (o : List (List Int)) (h4 : ∀ x ∈ o, x.length = 4) (h6 : ∀ x ∈ o, ∀ y ∈ x, -6 ≤ y ∧ y ≤ 6) (hol : o.length ≤ 1000) (h : Ev (fun k => spec_CountsFor.l3 k l (sumL o) 0) r) (n : Nat) : ∀ i : Nat, i + n = o.length →
    Ev (fun k => spec_CountsFor.l1 k l (sumN o i) o (i : Int)) r := by
  induction n with
  | zero =>
    intro i hi
    obtain rfl : i = o.length := by omega
    refine h.step fun k => ?_
    show spec_CountsFor.l1 (k + 1) l (sumN o o.length) o (o.length : Int) = _
    simp only [spec_CountsFor.l1]
    rw [if_neg (by omega)]
    rfl
  | succ n ih =>
    intro i hi
    have hb := c2_ev l r o h4 h6 hol i (by omega) (ih (i + 1) (by omega)) 4 0 rfl
    refine hb.step fun k => ?_
    show spec_CountsFor.l1 (k + 1) l (sumN o i) o (i : Int) = _
    simp only [spec_CountsFor.l1]
    rw [if_pos (by omega)]
    rfl
theorem c0_ok (hl : l.length ≤ 9223372036854775807) (hok : ∀ s ∈ l, Sem.OkWeigh s.f0 s.f1 s.f2) (h : Ev (fun k => spec_CountsFor.l0 k l (l.length : Int)) r) (n : Nat) : ∀ i : Nat, i + n = l.length → Ev (fun k => spec_CountsFor.l0 k l (i : Int)) r := by
  induction n with
  | zero =>
    intro i hi
    obtain rfl : i = l.length := by omega
    exact h
  | succ n ih =>
    intro i hi
    have hlt : i < l.length := by omega
    have ho := hok _ (List.getElem_mem hlt)
    have hw : wrap64 ((i : Int) + 1) = ((i + 1 : Nat) : Int) := by unfold wrap64; omega
    refine (ih (i + 1) (by omega)).step fun k => ?_
    show spec_CountsFor.l0 (k + 1) l (i : Int) = _
    simp only [spec_CountsFor.l0]
    rw [if_pos (by omega), if_pos (by omega), rdT_get l i hlt, Sem.spec_WeighOk_eq, decide_eq_true ho, Option.bind_some, if_pos rfl, hw]
theorem c0_bad (hl : l.length ≤ 9223372036854775807) (n : Nat) : ∀ i : Nat, i + n = l.length → (∃ s ∈ l.drop i, ¬ Sem.OkWeigh s.f0 s.f1 s.f2) → Ev (fun k => spec_CountsFor.l0 k l (i : Int)) ([], false) := by
  induction n with
  | zero =>
    intro i hi h
    obtain ⟨s, hs, _⟩ := h
    rw [List.drop_of_length_le (by omega)] at hs
    exact absurd hs List.not_mem_nil
  | succ n ih =>
    intro i hi h
    have hlt : i < l.length := by omega
    have hw : wrap64 ((i : Int) + 1) = ((i + 1 : Nat) : Int) := by unfold wrap64; omega
    by_cases ho : Sem.OkWeigh l[i].f0 l[i].f1 l[i].f2
    · have hd : ∃ s ∈ l.drop (i + 1), ¬ Sem.OkWeigh s.f0 s.f1 s.f2 := by
        obtain ⟨s, hs, hn⟩ := h
        rw [List.drop_eq_getElem_cons hlt] at hs
        rcases List.mem_cons.1 hs with rfl | hs
        · exact absurd ho hn
        · exact ⟨s, hs, hn⟩
      refine (ih (i + 1) (by omega) hd).step fun k => ?_
      show spec_CountsFor.l0 (k + 1) l (i : Int) = _
      simp only [spec_CountsFor.l0]
      rw [if_pos (by omega), if_pos (by omega), rdT_get l i hlt, Sem.spec_WeighOk_eq, decide_eq_true ho, Option.bind_some, if_pos rfl, hw]
    · refine Ev.one fun k => ?_
      simp only [spec_CountsFor.l0]
      rw [if_pos (by omega), if_pos (by omega), rdT_get l i hlt, Sem.spec_WeighOk_eq, decide_eq_false ho, Option.bind_some, if_neg (by simp)]
theorem countsFor_ev (hl : l.length ≤ 9223372036854775807) : Ev (fun k => spec_CountsFor.f k l) (cntR l) := by
  unfold cntR
  by_cases hall : ∀ s ∈ l, Sem.OkWeigh s.f0 s.f1 s.f2
  · refine c0_ok l _ hl hall ?_ l.length 0 (by omega)
    have hB : l.all Man.weighB = true := by
      rw [List.all_eq_true]
      intro s hs
      rw [weighB_ok]
      exact decide_eq_true (hall s hs)
    by_cases h6 : l.length ≤ 6
    · have hw : Man.weighedB l = true := by unfold Man.weighedB; rw [decide_eq_true h6, hB]; rfl
      have hco := cornersOf_ev l
      unfold corA at hco
      rw [if_pos hw] at hco ⊢
      have hc := cor_len h6
      have h3 := c3_ev l hall h6 (sumL (cornersI l)) (sum_counts h6) l.length 0 (by omega)
      have h1 := c1_ev l _ (cornersI l) hc.2 (ManR.cornersI_bound l) hc.1 h3 (cornersI l).length 0 (by omega)
      have hb : Ev (fun k => (spec_CornersOf.f k l).bind fun t235 => spec_CountsFor.l1 k l (List.replicate 4 0) t235 0) (cntA l) := Ev.bind hco h1
      refine hb.step fun k => ?_
      show spec_CountsFor.l0 (k + 1) l (l.length : Int) = _
      simp only [spec_CountsFor.l0]
      rw [if_neg (by omega), if_neg (by omega), if_pos (by omega)]
    · have hw : ¬ Man.weighedB l = true := by unfold Man.weighedB; rw [decide_eq_false h6]; simp
      rw [if_neg hw]
      refine Ev.one fun k => ?_
      simp only [spec_CountsFor.l0]
      rw [if_neg (by omega), if_pos (by omega)]
  · have hex : ∃ s ∈ l.drop 0, ¬ Sem.OkWeigh s.f0 s.f1 s.f2 := by
      by_cases q : ∃ s ∈ l, ¬ Sem.OkWeigh s.f0 s.f1 s.f2
      · exact q
      · exact absurd (fun s hs => Decidable.byContradiction fun hn => q ⟨s, hs, hn⟩) hall
    have hw : ¬ Man.weighedB l = true := fun h => hall (ManR.weigh_ok h).2
    rw [if_neg hw]
    exact c0_bad l hl l.length 0 (by omega) hex
end
end Go.Proofs.Ytmkfmbjemdbigaa.Cor

end
section
/- Numbers for which all sentences are so: then the sum of the corners is such too. Plain. -/
namespace Go.Proofs.Ytmkfmbjemdbigaa.Cor
open Go.RowKit Go.Proofs.Ytmkfmbjemdbigaa.PA Go.Proofs.YtmkfmbjemdbigaaW.PrintWords Go.Proofs.YtmkfmbjemdbigaaW.PrintLast Go.Proofs.YtmkfmbjemdbigaaW.PrintMore
set_option linter.unusedVariables false
set_option linter.unusedSimpArgs false
open Cone (V dot mnr Zero Par)
open ManR (lexC sortL cornersI corA rwS bsF addR sumN sumL wsB cntA cntF)

/-- A point from 0 on is a multiple of a row that no number divides. -/
theorem prim_of (v : V) (h0 : 0 ≤ v.a) (h1 : 0 ≤ v.b) (h2 : 0 ≤ v.c) (h3 : 0 ≤ v.d) (hz : ¬ Zero v) : ∃ t x0 x1 x2 x3 : Int, 0 < t ∧ Prim x0 x1 x2 x3 ∧ v.a = t * x0 ∧ v.b = t * x1 ∧ v.c = t * x2 ∧ v.d = t * x3 := by
  have hg : gcd4 v.a.natAbs v.b.natAbs v.c.natAbs v.d.natAbs ≠ 0 := by
    intro h
    rw [gcd4_zero] at h
    exact hz ⟨by omega, by omega, by omega, by omega⟩
  have hdv := gcd4_dvd v.a.natAbs v.b.natAbs v.c.natAbs v.d.natAbs
  obtain ⟨g, hgd⟩ : ∃ g, g = gcd4 v.a.natAbs v.b.natAbs v.c.natAbs v.d.natAbs := ⟨_, rfl⟩
  rw [← hgd] at hg hdv
  have hv : ∀ y : Int, 0 ≤ y → g ∣ y.natAbs → y = (g : Int) * Int.tdiv y g ∧ 0 ≤ Int.tdiv y g := by
    intro y hy hd
    refine ⟨mul_tdiv (Int.ofNat_dvd_left.2 hd), Int.tdiv_nonneg hy (by omega)⟩
  have e0 := hv _ h0 hdv.1
  have e1 := hv _ h1 hdv.2.1
  have e2 := hv _ h2 hdv.2.2.1
  have e3 := hv _ h3 hdv.2.2.2
  refine ⟨g, _, _, _, _, by omega, ⟨e0.2, e1.2, e2.2, e3.2, ?_⟩, e0.1, e1.1, e2.1, e3.1⟩
  have a0 : v.a.natAbs = g * (Int.tdiv v.a g).natAbs := by have := congrArg Int.natAbs e0.1; rw [Int.natAbs_mul] at this; exact this
  have a1 : v.b.natAbs = g * (Int.tdiv v.b g).natAbs := by have := congrArg Int.natAbs e1.1; rw [Int.natAbs_mul] at this; exact this
  have a2 : v.c.natAbs = g * (Int.tdiv v.c g).natAbs := by have := congrArg Int.natAbs e2.1; rw [Int.natAbs_mul] at this; exact this
  have a3 : v.d.natAbs = g * (Int.tdiv v.d g).natAbs := by have := congrArg Int.natAbs e3.1; rw [Int.natAbs_mul] at this; exact this
  have hk : g = g * gcd4 (Int.tdiv v.a g).natAbs (Int.tdiv v.b g).natAbs (Int.tdiv v.c g).natAbs (Int.tdiv v.d g).natAbs := by
    rw [← gcd4_mul, ← a0, ← a1, ← a2, ← a3]
    exact hgd
  exact (Nat.eq_of_mul_eq_mul_left (Nat.pos_of_ne_zero hg) (by rw [Nat.mul_one]; exact hk)).symm
/-- A row that is more than 0 somewhere in the cone is more than 0 at a corner. -/
theorem corner_pos (bs : List (List Int)) (hu : ∀ r ∈ ManR.units, r ∈ bs) (r d : V) (hd : ∀ b ∈ bs, 0 ≤ dot (pt b) d) (hr : 0 < dot r d) : ∃ x, Corner bs x ∧ 0 < dot r (pt x) := by
  have hB : Cone.Has (bs.map pt) := ⟨List.mem_map.2 ⟨_, hu [1, 0, 0, 0] (by decide), rfl⟩, List.mem_map.2 ⟨_, hu [0, 1, 0, 0] (by decide), rfl⟩, List.mem_map.2 ⟨_, hu [0, 0, 1, 0] (by decide), rfl⟩, List.mem_map.2 ⟨_, hu [0, 0, 0, 1] (by decide), rfl⟩⟩
  obtain ⟨x, y, z, v, hx, hy, hz, hm, hv, hrv, tx, ty, tz⟩ := Cone.corner_of hB r _ d (Nat.le_refl _) (fun b hb => by
    obtain ⟨q, hq, rfl⟩ := List.mem_map.1 hb
    exact hd q hq) hr
  obtain ⟨a, ha, rfl⟩ := List.mem_map.1 hx
  obtain ⟨b, hb, rfl⟩ := List.mem_map.1 hy
  obtain ⟨c, hc, rfl⟩ := List.mem_map.1 hz
  have v0 := hv _ hB.h0
  have v1 := hv _ hB.h1
  have v2 := hv _ hB.h2
  have v3 := hv _ hB.h3
  rw [Cone.dot_e0] at v0
  rw [Cone.dot_e1] at v1
  rw [Cone.dot_e2] at v2
  rw [Cone.dot_e3] at v3
  have hzv : ¬ Zero v := by
    rintro ⟨z0, z1, z2, z3⟩
    unfold dot at hrv
    rw [z0, z1, z2, z3] at hrv
    simp at hrv
  obtain ⟨t, x0, x1, x2, x3, ht, hp, e0, e1, e2, e3⟩ := prim_of v v0 v1 v2 v3 hzv
  have dt : ∀ q : V, dot q v = t * dot q (pt [x0, x1, x2, x3]) := by
    intro q
    show q.a * v.a + q.b * v.b + q.c * v.c + q.d * v.d = t * (q.a * x0 + q.b * x1 + q.c * x2 + q.d * x3)
    rw [e0, e1, e2, e3]
    grind
  have hz0 : ∀ q : V, dot q v = 0 → dot q (pt [x0, x1, x2, x3]) = 0 := fun q hq => by
    rw [dt] at hq
    exact (Int.mul_eq_zero.1 hq).resolve_left (by omega)
  refine ⟨[x0, x1, x2, x3], ⟨rfl, hp, fun q hq => ?_, a, b, c, ha, hb, hc, hm, hz0 _ tx, hz0 _ ty, hz0 _ tz⟩, ?_⟩
  · have := hv _ (List.mem_map.2 ⟨q, hq, rfl⟩)
    rw [dt] at this
    exact Int.nonneg_of_mul_nonneg_right this ht
  · rw [dt] at hrv
    exact Int.pos_of_mul_pos_right hrv (by omega)
/-- The sum's product with a row. -/
def sumD (o : List (List Int)) (r : List Int) : Nat → Int
  | 0 => 0
  | i + 1 => sumD o r i + Sem.dotL (rd_L5 o (i : Int)) r
theorem dot_sum (o : List (List Int)) (h : ∀ x ∈ o, x.length = 4) (r : List Int) (hr : r.length = 4) : ∀ i, i ≤ o.length → Sem.dotL (sumN o i) r = sumD o r i
  | 0, _ => by
    match r, hr with
    | [a, b, c, d], _ =>
      show 0 * a + (0 * b + (0 * c + (0 * d + 0))) = 0
      omega
  | i + 1, hi => by
    have ih := dot_sum o h r hr i (by omega)
    have hl := ManR.sumN_len o h i (by omega)
    have h4 := h _ (ManR.mem_rd o (i : Int) (by omega) (by omega))
    show Sem.dotL (addR (sumN o i) (rd_L5 o (i : Int)) 4) r = sumD o r i + Sem.dotL (rd_L5 o (i : Int)) r
    rw [← ih]
    generalize sumN o i = s at hl
    generalize rd_L5 o (i : Int) = q at h4
    match s, hl, q, h4, r, hr with
    | [a, b, c, d], _, [x, y, z, u], _, [e, f, g, k], _ =>
      show (a + x) * e + ((b + y) * f + ((c + z) * g + ((d + u) * k + 0))) = (a * e + (b * f + (c * g + (d * k + 0)))) + (x * e + (y * f + (z * g + (u * k + 0))))
      grind
theorem sumD_nonneg (o : List (List Int)) (r : List Int) (h : ∀ x ∈ o, 0 ≤ Sem.dotL x r) : ∀ i, i ≤ o.length → 0 ≤ sumD o r i
  | 0, _ => Int.le_refl _
  | i + 1, hi => by
    have ih := sumD_nonneg o r h i (by omega)
    have := h _ (ManR.mem_rd o (i : Int) (by omega) (by omega))
    show 0 ≤ sumD o r i + _
    omega
theorem sumD_pos (o : List (List Int)) (r : List Int) (h : ∀ x ∈ o, 0 ≤ Sem.dotL x r) (j : Nat) (hp : 0 < Sem.dotL (rd_L5 o (j : Int)) r) : ∀ i, i ≤ o.length → j < i → 0 < sumD o r i
  | 0, _, hj => absurd hj (Nat.not_lt_zero _)
  | i + 1, hi, hj => by
    have h0 := sumD_nonneg o r h i (by omega)
    have h1 := h _ (ManR.mem_rd o (i : Int) (by omega) (by omega))
    show 0 < sumD o r i + _
    by_cases e : j = i
    · subst e; omega
    · have := sumD_pos o r h j hp i (by omega) (by omega)
      omega
theorem mem_corners (l : List S25) (x : List Int) : x ∈ cornersI l ↔ Corner (bsF l) x := by
  rw [← corner_iff _ (ManR.bs_four l)]
  exact (List.mergeSort_perm (ManR.l1 Sem.dotL (bsF l) (bsF l).length) (fun x y => !(decide (lexC y x < 0)))).mem_iff
theorem rw_len (s : S25) : (rwS s).length = 4 := Sem.row_len _ _ _
/-- Every corner makes every row at least 0. -/
theorem corner_row {l : List S25} {s : S25} (hs : s ∈ l) {x : List Int} (hx : Corner (bsF l) x) : 0 ≤ Sem.dotL x (rwS s) := by
  rw [dot_pt hx.len (rw_len s), dot_comm]
  by_cases h1 : s.f0 = 1
  · have h : 0 ≤ rd (rwS s) 0 ∧ 0 ≤ rd (rwS s) 1 ∧ 0 ≤ rd (rwS s) 2 ∧ 0 ≤ rd (rwS s) 3 := by
      unfold ManR.rwS
      rw [h1]
      exact some_row _ _
    have p0 := Int.mul_nonneg h.1 hx.prim.n0
    have p1 := Int.mul_nonneg h.2.1 hx.prim.n1
    have p2 := Int.mul_nonneg h.2.2.1 hx.prim.n2
    have p3 := Int.mul_nonneg h.2.2.2 hx.prim.n3
    show 0 ≤ rd (rwS s) 0 * rd x 0 + rd (rwS s) 1 * rd x 1 + rd (rwS s) 2 * rd x 2 + rd (rwS s) 3 * rd x 3
    omega
  · refine hx.good _ ?_
    unfold ManR.bsF ManR.bsL
    exact List.mem_append.2 (Or.inr (List.mem_map.2 ⟨s, List.mem_filter.2 ⟨hs, by simpa using h1⟩, rfl⟩))
/-- If all sentences are so for some numbers from 0 on, they are so for the corners' sum. -/
theorem sat (l : List S25) (h6 : l.length ≤ 6) (d : List Int) (hd : d.length = 4) (h0 : ∀ y ∈ d, 0 ≤ y) (hso : ∀ s ∈ l, wsB d s = true) : (l.any fun s => !(wsB (sumL (cornersI l)) s)) = false := by
  have hc := cor_len h6
  rw [List.any_eq_false]
  intro s hs
  have hrow : ∀ x ∈ cornersI l, 0 ≤ Sem.dotL x (rwS s) := fun x hx => corner_row hs ((mem_corners l x).1 hx)
  have hsum : Sem.dotL (sumL (cornersI l)) (rwS s) = sumD (cornersI l) (rwS s) (cornersI l).length := dot_sum _ hc.2 _ (rw_len s) _ (Nat.le_refl _)
  have hds := hso s hs
  unfold wsB at hds ⊢
  rw [hsum]
  by_cases hst : Sem.strictB s.f0.toNat = true
  · rw [if_pos hst] at hds ⊢
    have hpos := of_decide_eq_true hds
    rw [dot_pt hd (rw_len s), dot_comm] at hpos
    have hcone : ∀ b ∈ bsF l, 0 ≤ dot (pt b) (pt d) := by
      intro b hb
      unfold ManR.bsF ManR.bsL at hb
      rcases List.mem_append.1 hb with hb | hb
      · have q0 := h0 _ (rd_in hd 0 (by omega))
        have q1 := h0 _ (rd_in hd 1 (by omega))
        have q2 := h0 _ (rd_in hd 2 (by omega))
        have q3 := h0 _ (rd_in hd 3 (by omega))
        have : b = [1, 0, 0, 0] ∨ b = [0, 1, 0, 0] ∨ b = [0, 0, 1, 0] ∨ b = [0, 0, 0, 1] := by unfold ManR.units at hb; simpa using hb
        rcases this with rfl | rfl | rfl | rfl
        · exact (Cone.dot_e0 (pt d)).symm ▸ q0
        · exact (Cone.dot_e1 (pt d)).symm ▸ q1
        · exact (Cone.dot_e2 (pt d)).symm ▸ q2
        · exact (Cone.dot_e3 (pt d)).symm ▸ q3
      · obtain ⟨s', hs', rfl⟩ := List.mem_map.1 hb
        have := hso s' (List.mem_filter.1 hs').1
        unfold wsB at this
        rw [← dot_pt (rw_len s') hd, dotL_comm (rw_len s') hd]
        by_cases q : Sem.strictB s'.f0.toNat = true
        · rw [if_pos q] at this
          have := of_decide_eq_true this
          omega
        · rw [if_neg q] at this
          exact of_decide_eq_true this
    obtain ⟨x, hx, hxp⟩ := corner_pos (bsF l) (fun r hr => List.mem_append.2 (Or.inl hr)) (pt (rwS s)) (pt d) hcone hpos
    have hxm := (mem_corners l x).2 hx
    obtain ⟨j, hj, ej⟩ := get_rd hxm
    have hp : 0 < Sem.dotL (rd_L5 (cornersI l) (j : Int)) (rwS s) := by
      rw [ej, dot_pt hx.len (rw_len s), dot_comm]
      exact hxp
    have := sumD_pos (cornersI l) (rwS s) hrow j hp _ (Nat.le_refl _) hj
    simp [this]
  · rw [if_neg hst]
    have := sumD_nonneg (cornersI l) (rwS s) hrow _ (Nat.le_refl _)
    simp [this]
end Go.Proofs.Ytmkfmbjemdbigaa.Cor

end
section
/- Sentences in worlds: what the two programs' loops over sorts answer, in plain words; for one to three kinds, terms of these, and worlds from 0 on. -/
namespace Go.Proofs.Ytmkfmbjemdbigaa.Sem
open Go.RowKit Go.Proofs.Ytmkfmbjemdbigaa.PA Go.Proofs.YtmkfmbjemdbigaaW.PrintWords Go.Proofs.YtmkfmbjemdbigaaW.PrintLast Go.Proofs.YtmkfmbjemdbigaaW.PrintMore
set_option linter.unusedVariables false
set_option linter.unusedSimpArgs false

/-- Is there something of a sort in a world? -/
def wb (world : Int) (s : Nat) : Bool := decide ((world / 2 ^ s) % 2 = 1)

/-- A sentence in a world, sort by sort. -/
def soL (f o t : Nat) (world : Int) : List Nat → Bool
  | [] => f == 0
  | s :: l => if (wb world s && isB s o) = true then (if f = 0 then (if isB s t = true then soL f o t world l else false) else (if isB s t = true then true else soL f o t world l)) else soL f o t world l

def soB (kinds f o t : Nat) (world : Int) : Bool := soL f o t world (List.range (2 ^ kinds))

end Go.Proofs.Ytmkfmbjemdbigaa.Sem

end
section
/- Numbers of four sorts and the world of the sorts of which there is something: of all and some they say the same; plain. -/
namespace Go.Proofs.Ytmkfmbjemdbigaa.Sem
open Go.RowKit Go.Proofs.Ytmkfmbjemdbigaa.PA Go.Proofs.YtmkfmbjemdbigaaW.PrintWords Go.Proofs.YtmkfmbjemdbigaaW.PrintLast Go.Proofs.YtmkfmbjemdbigaaW.PrintMore
set_option linter.unusedVariables false
set_option linter.unusedSimpArgs false

/-- Of all and some: the numbers and the world of what there is say the same, sort by sort. -/
theorem so_dot (f o t : Nat) (hf : f < 2) (w : Int) (ss : List Nat) : ∀ l : List Int, l.length = ss.length → (∀ x ∈ l, 0 ≤ x) → (∀ i (h : i < ss.length) (h' : i < l.length), wb w ss[i] = decide (0 < l[i])) →
    (if f = 1 then decide (0 < dotL l (ss.map fun s => wt f (bit (isB s o)) (bit (isB s t)))) else decide (0 ≤ dotL l (ss.map fun s => wt f (bit (isB s o)) (bit (isB s t))))) = soL f o t w ss ∧
    (f = 1 → 0 ≤ dotL l (ss.map fun s => wt f (bit (isB s o)) (bit (isB s t)))) ∧ (f = 0 → dotL l (ss.map fun s => wt f (bit (isB s o)) (bit (isB s t))) ≤ 0) := by
  induction ss with
  | nil =>
    intro l hl _ _
    obtain rfl := List.length_eq_zero_iff.1 hl
    have : f = 0 ∨ f = 1 := by omega
    rcases this with rfl | rfl <;> simp [dotL, soL]
  | cons s ss ih =>
    intro l hl hx hw
    match l, hl with
    | n :: l, hl =>
      have hn := hx n List.mem_cons_self
      have h0 := hw 0 (by simp) (by simp)
      simp only [List.getElem_cons_zero] at h0
      obtain ⟨i1, i2, i3⟩ := ih l (by simpa using hl) (fun x h => hx x (List.mem_cons_of_mem _ h)) (fun i h h' => by
        have := hw (i + 1) (by simp; omega) (by simp; omega)
        simpa using this)
      simp only [List.map_cons, dotL, soL, h0]
      obtain ⟨D, hD⟩ : ∃ D, dotL l (ss.map fun s => wt f (bit (isB s o)) (bit (isB s t))) = D := ⟨_, rfl⟩
      simp only [hD] at i1 i2 i3 ⊢
      have : f = 0 ∨ f = 1 := by omega
      rcases this with rfl | rfl
      · have i3 := i3 rfl
        simp only [show (0 : Nat) ≠ 1 by decide, if_false, wt, if_true] at i1 ⊢
        rw [← i1]
        cases isB s o <;> cases isB s t <;> by_cases hp : 0 < n <;> simp [bit, hp] <;> omega
      · have i2 := i2 rfl
        simp only [if_true, wt, show (1 : Nat) ≠ 0 by decide, if_false] at i1 ⊢
        rw [← i1]
        cases isB s o <;> cases isB s t <;> by_cases hp : 0 < n <;> simp [bit, hp] <;> omega

/-- The world of the sorts of which there is something. -/
def worldN (l : List Int) : Nat := (if 0 < l.getD 0 0 then 1 else 0) + (if 0 < l.getD 1 0 then 2 else 0) + (if 0 < l.getD 2 0 then 4 else 0) + (if 0 < l.getD 3 0 then 8 else 0)

theorem world_bits : ((List.range 2).all fun a => (List.range 2).all fun b => (List.range 2).all fun c => (List.range 2).all fun d => (List.range 4).all fun s => decide (wb ((a + 2 * b + 4 * c + 8 * d : Nat) : Int) s = decide (([a, b, c, d] : List Nat).getD s 0 = 1))) = true := by kernel_rfl

theorem worldN_wb (a b c d : Int) (i : Nat) (h : i < 4) : wb (worldN [a, b, c, d]) i = decide (0 < [a, b, c, d].getD i 0) := by
  have e : ∀ x : Int, ∃ n : Nat, n < 2 ∧ decide (0 < x) = decide (n = 1) ∧ ∀ m : Nat, (if 0 < x then m else 0) = m * n := fun x => by
    by_cases hx : 0 < x
    · exact ⟨1, by omega, by simp [hx], fun m => by simp [hx]⟩
    · exact ⟨0, by omega, by simp [hx], fun m => by simp [hx]⟩
  obtain ⟨na, ha, ea, ma⟩ := e a
  obtain ⟨nb, hb, eb, mb⟩ := e b
  obtain ⟨nc, hc, ec, mc⟩ := e c
  obtain ⟨nd, hd, ed, md⟩ := e d
  have hw : worldN [a, b, c, d] = na + 2 * nb + 4 * nc + 8 * nd := by
    unfold worldN
    simp only [List.getD_cons_zero, List.getD_cons_succ]
    rw [ma 1, mb 2, mc 4, md 8]
    omega
  rw [hw]
  have := of_decide_eq_true (List.all_eq_true.1 (List.all_eq_true.1 (List.all_eq_true.1 (List.all_eq_true.1 (List.all_eq_true.1 world_bits na (List.mem_range.2 ha)) nb (List.mem_range.2 hb)) nc (List.mem_range.2 hc)) nd (List.mem_range.2 hd)) i (List.mem_range.2 h))
  rw [this]
  have hi : i = 0 ∨ i = 1 ∨ i = 2 ∨ i = 3 := by omega
  rcases hi with rfl | rfl | rfl | rfl
  · simpa using ea.symm
  · simpa using eb.symm
  · simpa using ec.symm
  · simpa using ed.symm
/-- The sentence in numbers is the sentence in the world. -/
theorem weigh_world {n : List Int} (h4 : n.length = 4) (h0 : ∀ y ∈ n, 0 ≤ y) (f o t : Nat) (hf : f < 2) (w : Int) (hw : ∀ i, i < 4 → wb w i = decide (0 < n.getD i 0)) :
    (if strictB f = true then decide (0 < dotL n (rowL f o t)) else decide (0 ≤ dotL n (rowL f o t))) = soB 2 f o t w := by
  match n, h4 with
  | [a, b, c, d], _ =>
    have hs := (so_dot f o t hf w [0, 1, 2, 3] [a, b, c, d] rfl h0 (fun i h h' => by
      have hi : i = 0 ∨ i = 1 ∨ i = 2 ∨ i = 3 := by simp at h'; omega
      have hh := hw i (by omega)
      rcases hi with rfl | rfl | rfl | rfl <;> simpa using hh)).1
    have hr : rowL f o t = ([0, 1, 2, 3] : List Nat).map fun s => wt f (bit (isB s o)) (bit (isB s t)) := rfl
    have hrg : List.range (2 ^ 2) = [0, 1, 2, 3] := by decide
    unfold soB
    rw [hr, hrg, ← hs]
    have : f = 0 ∨ f = 1 := by omega
    rcases this with rfl | rfl <;> rfl
theorem world_of (n : List Int) (h4 : n.length = 4) (i : Nat) (hi : i < 4) : wb (worldN n) i = decide (0 < n.getD i 0) := by
  match n, h4 with
  | [a, b, c, d], _ => exact worldN_wb a b c d i hi
/-- The numbers of a world: one thing of each sort. -/
def numsOf (w : Int) : List Int := [if wb w 0 = true then 1 else 0, if wb w 1 = true then 1 else 0, if wb w 2 = true then 1 else 0, if wb w 3 = true then 1 else 0]
theorem nums_of (w : Int) (i : Nat) (hi : i < 4) : wb w i = decide (0 < (numsOf w).getD i 0) := by
  have e : i = 0 ∨ i = 1 ∨ i = 2 ∨ i = 3 := by omega
  unfold numsOf
  rcases e with rfl | rfl | rfl | rfl
  · cases h : wb w 0 <;> simp
  · cases h : wb w 1 <;> simp
  · cases h : wb w 2 <;> simp
  · cases h : wb w 3 <;> simp
theorem nums_ok (w : Int) : ∀ y ∈ numsOf w, 0 ≤ y ∧ y ≤ 1 := by
  intro y hy
  unfold numsOf at hy
  simp only [List.mem_cons, List.not_mem_nil, or_false] at hy
  rcases hy with rfl | rfl | rfl | rfl <;> split <;> omega
end Go.Proofs.Ytmkfmbjemdbigaa.Sem

end
section
/- Proved sentences and worlds: what is proved is so in each world of the sentences, and what is not proved is not so in one; for one to three kinds. -/
namespace Go.Proofs.Ytmkfmbjemdbigaa.Sem
open Go.RowKit Go.Proofs.Ytmkfmbjemdbigaa.PA Go.Proofs.YtmkfmbjemdbigaaW.PrintWords Go.Proofs.YtmkfmbjemdbigaaW.PrintLast Go.Proofs.YtmkfmbjemdbigaaW.PrintMore
set_option linter.unusedVariables false
set_option linter.unusedSimpArgs false

/-- Are things of a sort of a term (a whole number)? -/
def isI (s : Nat) (t : Int) : Bool := isB s t.toNat
theorem isI_oth (s : Nat) {t : Int} (h : 0 ≤ t) : isI s (oth t) = !isI s t := by
  obtain ⟨n, rfl⟩ := Int.eq_ofNat_of_zero_le h
  unfold isI oth
  have a := Nat.mod_two_eq_zero_or_one (s / 2 ^ (n / 2))
  rcases Nat.mod_two_eq_zero_or_one n with b | b
  · rw [if_pos (by omega)]
    have e : ((n : Int) + 1).toNat = n + 1 := by omega
    rw [e, Int.toNat_natCast]
    unfold isB
    rw [show (n + 1) / 2 = n / 2 by omega, show (n + 1) % 2 = 1 by omega, b]
    rcases a with a | a <;> rw [a] <;> rfl
  · rw [if_neg (by omega)]
    have e : ((n : Int) - 1).toNat = n - 1 := by omega
    rw [e, Int.toNat_natCast]
    unfold isB
    rw [show (n - 1) / 2 = n / 2 by omega, show (n - 1) % 2 = 0 by omega, b]
    rcases a with a | a <;> rw [a] <;> rfl

/-- A sentence in a world of sorts. -/
def So (k : Nat) (W : Nat → Bool) (s : Sy) : Prop :=
  if s.f0 = 0 then ∀ x, x < 2 ^ k → W x = true → isI x s.f1 = true → isI x s.f2 = true
  else ∃ x, x < 2 ^ k ∧ W x = true ∧ isI x s.f1 = true ∧ isI x s.f2 = true

theorem soL_all (o t : Nat) (w : Int) : ∀ l : List Nat, soL 0 o t w l = true ↔ ∀ x ∈ l, wb w x = true → isB x o = true → isB x t = true
  | [] => by simp [soL]
  | s :: l => by
    have ih := soL_all o t w l
    rw [soL]
    cases h1 : wb w s <;> cases h2 : isB s o <;> cases h3 : isB s t <;> simp [ih, h1, h2, h3]
theorem soL_some (o t : Nat) (w : Int) : ∀ l : List Nat, soL 1 o t w l = true ↔ ∃ x ∈ l, wb w x = true ∧ isB x o = true ∧ isB x t = true
  | [] => by simp [soL]
  | s :: l => by
    have ih := soL_some o t w l
    rw [soL]
    cases h1 : wb w s <;> cases h2 : isB s o <;> cases h3 : isB s t <;> simp [ih, h1, h2, h3]

theorem soB_iff (k : Nat) (w : Int) {s : Sy} (h : Oks k s) : soB k s.f0.toNat s.f1.toNat s.f2.toNat w = true ↔ So k (wb w) s := by
  unfold soB So isI
  rcases h.1 with e | e
  · rw [if_pos e, e]
    show soL 0 _ _ _ _ = true ↔ _
    rw [soL_all]
    simp only [List.mem_range]
  · rw [if_neg (by omega), e]
    show soL 1 _ _ _ _ = true ↔ _
    rw [soL_some]
    simp only [List.mem_range]

/-- What is proved is so where all sentences are. -/
theorem Pr.sound {k : Nat} {L : List Sy} (hL : ∀ s ∈ L, Oks k s) (W : Nat → Bool) (hW : ∀ s ∈ L, So k W s) {s : Sy} (h : Pr k L s) : So k W s := by
  have ok : ∀ {s : Sy}, Pr k L s → Oks k s := fun h => h.ok hL
  induction h with
  | said h => exact hW _ h
  | same h1 h2 => unfold So; rw [if_pos rfl]; exact fun x _ _ h => h
  | turn _ ih =>
    unfold So at ih ⊢
    rw [if_neg (by show ¬ (1 : Int) = 0; omega)] at ih ⊢
    obtain ⟨x, h1, h2, h3, h4⟩ := ih
    exact ⟨x, h1, h2, h4, h3⟩
  | there _ ih =>
    unfold So at ih ⊢
    rw [if_neg (by show ¬ (1 : Int) = 0; omega)] at ih ⊢
    obtain ⟨x, h1, h2, h3, h4⟩ := ih
    exact ⟨x, h1, h2, h3, h3⟩
  | contra hp ih =>
    have o := ok hp
    unfold So at ih ⊢
    rw [if_pos rfl] at ih ⊢
    intro x h1 h2 h3
    have := ih x h1 h2
    simp only [isI_oth x o.2.1.1, isI_oth x o.2.2.1] at h3 ⊢
    simp only at this
    revert h3 this
    cases isI x _ <;> cases isI x _ <;> simp
  | void hp _ _ ih =>
    have o := ok hp
    unfold So at ih ⊢
    rw [if_pos rfl] at ih ⊢
    intro x h1 h2 h3
    have := ih x h1 h2 h3
    simp only [isI_oth x o.2.1.1] at this h3
    rw [h3] at this
    exact absurd this (by simp)
  | @chain f x y z hp _ ih1 ih2 =>
    have o := ok hp
    unfold So at ih1 ih2 ⊢
    rw [if_pos rfl] at ih2
    rcases o.1 with e | e
    · simp only at e
      rw [if_pos e] at ih1 ⊢
      exact fun x h1 h2 h3 => ih2 x h1 h2 (ih1 x h1 h2 h3)
    · simp only at e
      rw [if_neg (by simp only; omega)] at ih1 ⊢
      obtain ⟨x, h1, h2, h3, h4⟩ := ih1
      exact ⟨x, h1, h2, h3, ih2 x h1 h2 h4⟩
  | any hp _ _ ih1 ih2 =>
    have o := ok hp
    unfold So at ih1 ih2
    rw [if_neg (by show ¬ (1 : Int) = 0; omega)] at ih1
    rw [if_pos rfl] at ih2
    obtain ⟨x, h1, h2, h3, h4⟩ := ih1
    have := ih2 x h1 h2 h3
    simp only [isI_oth x o.2.2.1] at this h4
    rw [h4] at this
    exact absurd this (by simp)

/-! ### what is not proved -/
/-- A row of terms that goes up, and has no term beside its contrary. -/
structure Cons (k : Int) (L : List Sy) (G : Int → Prop) : Prop where
  ran : ∀ x, G x → 0 ≤ x ∧ x < 2 * k
  up : ∀ x y, G x → Pr k L ⟨0, x, y⟩ → G y
  no : ∀ x, G x → ¬ G (oth x)

theorem Cons.pair {k : Int} {L : List Sy} (hL : ∀ s ∈ L, Oks k s) {u v : Int} (hu : 0 ≤ u ∧ u < 2 * k) (hv : 0 ≤ v ∧ v < 2 * k) (h : ¬ Pr k L ⟨0, u, oth v⟩) :
    Cons k L (fun z => Pr k L ⟨0, u, z⟩ ∨ Pr k L ⟨0, v, z⟩) := by
  have back : ∀ {a b : Int}, Pr k L ⟨0, a, oth b⟩ → Pr k L ⟨0, b, oth a⟩ := fun {a b} hp => by
    have := hp.contra
    rwa [oth_oth] at this
  refine ⟨fun x hx => hx.elim (fun h => (h.ok hL).2.2) (fun h => (h.ok hL).2.2), fun x y hx hp => hx.imp (fun h => h.chain hp) (fun h => h.chain hp), fun x hx hy => h ?_⟩
  rcases hx with hx | hx <;> rcases hy with hy | hy
  · have : Pr k L ⟨0, u, oth u⟩ := hx.chain (back hy)
    exact this.void (oth_range hv).1 (oth_range hv).2
  · exact hx.chain (back hy)
  · exact hy.chain (hx.contra)
  · have : Pr k L ⟨0, v, oth v⟩ := hx.chain (back hy)
    exact back (this.void (oth_range hu).1 (oth_range hu).2)

theorem Cons.add {k : Int} {L : List Sy} (hL : ∀ s ∈ L, Oks k s) {G : Int → Prop} (c : Cons k L G) {t : Int} (ht : 0 ≤ t ∧ t < 2 * k) (h1 : ¬ G (oth t)) (h2 : ¬ Pr k L ⟨0, t, oth t⟩) :
    Cons k L (fun z => G z ∨ Pr k L ⟨0, t, z⟩) := by
  have back : ∀ {a b : Int}, Pr k L ⟨0, a, oth b⟩ → Pr k L ⟨0, b, oth a⟩ := fun {a b} hp => by
    have := hp.contra
    rwa [oth_oth] at this
  refine ⟨fun x hx => hx.elim (c.ran x) (fun h => (h.ok hL).2.2), fun x y hx hp => hx.imp (fun h => c.up x y h hp) (fun h => h.chain hp), fun x hx hy => ?_⟩
  rcases hx with hx | hx <;> rcases hy with hy | hy
  · exact c.no x hx hy
  · exact h1 (c.up x _ hx (back hy))
  · exact h1 (c.up _ _ hy hx.contra)
  · exact h2 (hx.chain (back hy))

/-- It grows till each kind is told. -/
theorem Cons.total {k : Int} {L : List Sy} (hL : ∀ s ∈ L, Oks k s) {G : Int → Prop} (c : Cons k L G) {u : Int} (hu : G u) (n : Nat) : (n : Int) ≤ k → ∃ G', Cons k L G' ∧ (∀ x, G x → G' x) ∧ ∀ i : Nat, i < n → G' (2 * i) ∨ G' (2 * i + 1) := by
  induction n with
  | zero => exact fun _ => ⟨G, c, fun _ h => h, fun i hi => absurd hi (by omega)⟩
  | succ n ih =>
    intro hn
    obtain ⟨G1, c1, hs, ht⟩ := ih (by omega)
    have e1 : oth (2 * (n : Int)) = 2 * n + 1 := by unfold oth; rw [if_pos (by omega)]
    have e2 : oth (2 * (n : Int) + 1) = 2 * n := by unfold oth; rw [if_neg (by omega)]; omega
    by_cases g : G1 (2 * n) ∨ G1 (2 * n + 1)
    · refine ⟨G1, c1, hs, fun i hi => ?_⟩
      rcases Nat.lt_or_eq_of_le (Nat.lt_succ_iff.1 hi) with h | rfl
      · exact ht i h
      · exact g
    · by_cases p : Pr k L ⟨0, 2 * (n : Int), oth (2 * n)⟩
      · by_cases q : Pr k L ⟨0, 2 * (n : Int) + 1, oth (2 * n + 1)⟩
        · exfalso
          have hu1 := hs u hu
          have ru := oth_range (c1.ran u hu1)
          have a1 := (p.void ru.1 ru.2).contra
          rw [oth_oth, e1] at a1
          exact g (Or.inr (c1.up _ _ hu1 a1))
        · refine ⟨_, c1.add hL (t := 2 * n + 1) (by omega) (by rw [e2]; exact fun h => g (Or.inl h)) q, fun x hx => Or.inl (hs x hx), fun i hi => ?_⟩
          rcases Nat.lt_or_eq_of_le (Nat.lt_succ_iff.1 hi) with h | rfl
          · exact (ht i h).imp Or.inl Or.inl
          · exact Or.inr (Or.inr (Pr.same (by omega) (by omega)))
      · refine ⟨_, c1.add hL (t := 2 * n) (by omega) (by rw [e1]; exact fun h => g (Or.inr h)) p, fun x hx => Or.inl (hs x hx), fun i hi => ?_⟩
        rcases Nat.lt_or_eq_of_le (Nat.lt_succ_iff.1 hi) with h | rfl
        · exact (ht i h).imp Or.inl Or.inl
        · exact Or.inl (Or.inr (Pr.same (by omega) (by omega)))

/-- A number with these binary digits. -/
theorem digits (p : Nat → Prop) (n : Nat) : ∃ w, w < 2 ^ n ∧ ∀ s, s < n → ((w / 2 ^ s) % 2 = 1 ↔ p s) := by
  induction n with
  | zero => exact ⟨0, by decide, fun s hs => absurd hs (by omega)⟩
  | succ n ih =>
    obtain ⟨w, hw, h⟩ := ih
    by_cases hp : p n
    · refine ⟨w + 2 ^ n, by rw [Nat.pow_succ]; omega, fun s hs => ?_⟩
      rcases Nat.lt_or_eq_of_le (Nat.lt_succ_iff.1 hs) with h1 | rfl
      · rw [← h s h1]
        obtain ⟨d, rfl⟩ : ∃ d, n = s + 1 + d := ⟨n - (s + 1), by omega⟩
        have e : 2 ^ (s + 1 + d) = 2 ^ s * (2 * 2 ^ d) := by rw [Nat.pow_add, Nat.pow_succ, Nat.mul_assoc]
        rw [e, Nat.add_mul_div_left _ _ (Nat.pow_pos (by decide)), Nat.add_mul_mod_self_left]
      · have : (w + 2 ^ s) / 2 ^ s = 1 := by
          rw [Nat.add_div_right _ (Nat.pow_pos (by decide)), Nat.div_eq_of_lt hw]
        rw [this]
        exact ⟨fun _ => hp, fun _ => rfl⟩
    · refine ⟨w, by rw [Nat.pow_succ]; omega, fun s hs => ?_⟩
      rcases Nat.lt_or_eq_of_le (Nat.lt_succ_iff.1 hs) with h1 | rfl
      · exact h s h1
      · rw [Nat.div_eq_of_lt hw]
        exact ⟨fun h => absurd h (by decide), fun h => absurd h hp⟩

/-- A sort of the terms that are told. -/
theorem Cons.sort {k : Nat} {L : List Sy} {G : Int → Prop} (c : Cons k L G) (ht : ∀ i : Nat, i < k → G (2 * i) ∨ G (2 * i + 1)) : ∃ s, s < 2 ^ k ∧ ∀ x : Int, 0 ≤ x → x < 2 * k → (isI s x = true ↔ G x) := by
  obtain ⟨s, hs, h⟩ := digits (fun i => G (2 * (i : Int))) k
  refine ⟨s, hs, fun x h0 h1 => ?_⟩
  obtain ⟨n, rfl⟩ := Int.eq_ofNat_of_zero_le h0
  have hd := h (n / 2) (by omega)
  unfold isI isB
  rw [Int.toNat_natCast]
  have a := Nat.mod_two_eq_zero_or_one (s / 2 ^ (n / 2))
  rcases Nat.mod_two_eq_zero_or_one n with b | b
  · have e : (2 * ((n / 2 : Nat) : Int)) = n := by omega
    rw [e] at hd
    rw [← hd, b]
    rcases a with a | a <;> rw [a] <;> decide
  · have e : (2 * ((n / 2 : Nat) : Int)) + 1 = n := by omega
    have e1 : oth (n : Int) = 2 * ((n / 2 : Nat) : Int) := by unfold oth; rw [if_neg (by omega)]; omega
    have e2 : oth (2 * ((n / 2 : Nat) : Int)) = n := by unfold oth; rw [if_pos (by omega)]; omega
    rw [b]
    have hn : G n ↔ ¬ G (2 * ((n / 2 : Nat) : Int)) := by
      constructor
      · intro g g'
        exact c.no _ g (by rw [e1]; exact g')
      · intro g
        have := (ht (n / 2) (by omega)).resolve_left g
        rwa [e] at this
    rw [hn, ← hd]
    rcases a with a | a <;> rw [a] <;> decide

/-- A sort that goes with what is proved. -/
def Goes (k : Int) (L : List Sy) (s : Nat) : Prop := ∀ x y : Int, Pr k L ⟨0, x, y⟩ → isI s x = true → isI s y = true

theorem goes_of {k : Nat} {L : List Sy} (hL : ∀ s ∈ L, Oks k s) {G : Int → Prop} (c : Cons k L G) {u : Int} (hu : G u) : ∃ s, s < 2 ^ k ∧ Goes k L s ∧ ∀ x, G x → isI s x = true := by
  obtain ⟨G', c', hs, ht⟩ := c.total hL hu k (Int.le_refl _)
  obtain ⟨s, h1, h2⟩ := c'.sort ht
  refine ⟨s, h1, fun x y hp hx => ?_, fun x hx => (h2 x (c.ran x hx).1 (c.ran x hx).2).2 (hs x hx)⟩
  have o := hp.ok hL
  exact (h2 y o.2.2.1 o.2.2.2).2 (c'.up x y ((h2 x o.2.1.1 o.2.1.2).1 hx) hp)

/-- What is not proved is not so in some world of the sentences. -/
theorem complete {k : Nat} {L : List Sy} (hL : ∀ s ∈ L, Oks k s) {s : Sy} (hs : Oks k s) (h : ¬ Pr k L s) : ∃ w : Nat, w < 2 ^ 2 ^ k ∧ (∀ x ∈ L, So k (wb w) x) ∧ ¬ So k (wb w) s := by
  have back : ∀ {a b : Int}, Pr k L ⟨0, a, oth b⟩ → Pr k L ⟨0, b, oth a⟩ := fun {a b} hp => by
    have := hp.contra
    rwa [oth_oth] at this
  -- a some-sentence of the row: no contradiction
  have some1 : ∀ x y : Int, Pr k L ⟨1, x, y⟩ → ¬ Pr k L ⟨0, x, oth y⟩ := fun x y h1 h2 => h (Pr.any h1 h2 hs)
  have world : ∀ p : Nat → Prop, ∃ w : Nat, w < 2 ^ 2 ^ k ∧ ∀ x, x < 2 ^ k → (wb w x = true ↔ p x) := fun p => by
    obtain ⟨w, h1, h2⟩ := digits p (2 ^ k)
    refine ⟨w, h1, fun x hx => ?_⟩
    rw [← h2 x hx]
    unfold wb
    rw [decide_eq_true_eq]
    have : ((w : Int) / 2 ^ x) % 2 = ((w / 2 ^ x % 2 : Nat) : Int) := by norm_cast
    rw [this]
    omega
  obtain ⟨f, u, v⟩ := s
  obtain ⟨hf, hu, hv⟩ := hs
  simp only at hf hu hv
  rcases hf with rfl | rfl
  · obtain ⟨w, hw, hwp⟩ := world (fun s => Goes k L s)
    refine ⟨w, hw, fun x hx => ?_, fun hso => ?_⟩
    · obtain ⟨f, o, t⟩ := x
      have ox := hL _ hx
      unfold So
      rcases ox.1 with e | e
      · simp only at e
        subst e
        rw [if_pos rfl]
        exact fun s h1 h2 h3 => (hwp s h1).1 h2 o t (Pr.said hx) h3
      · simp only at e
        subst e
        rw [if_neg (by show ¬ (1 : Int) = 0; omega)]
        obtain ⟨s, h1, h2, h3⟩ := goes_of hL (Cons.pair hL ox.2.1 ox.2.2 (some1 o t (Pr.said hx))) (u := o) (Or.inl (Pr.same ox.2.1.1 ox.2.1.2))
        exact ⟨s, h1, (hwp s h1).2 h2, h3 o (Or.inl (Pr.same ox.2.1.1 ox.2.1.2)), h3 t (Or.inr (Pr.same ox.2.2.1 ox.2.2.2))⟩
    · unfold So at hso
      rw [if_pos rfl] at hso
      have rv := oth_range hv
      obtain ⟨s, h1, h2, h3⟩ := goes_of hL (Cons.pair hL hu rv (by rw [oth_oth]; exact h)) (u := u) (Or.inl (Pr.same hu.1 hu.2))
      have a1 := hso s h1 ((hwp s h1).2 h2) (h3 u (Or.inl (Pr.same hu.1 hu.2)))
      have a2 := h3 (oth v) (Or.inr (Pr.same rv.1 rv.2))
      simp only at a1
      rw [isI_oth s hv.1, a1] at a2
      exact absurd a2 (by simp)
  · obtain ⟨w, hw, hwp⟩ := world (fun s => Goes k L s ∧ ¬ (isI s u = true ∧ isI s v = true))
    refine ⟨w, hw, fun x hx => ?_, fun hso => ?_⟩
    · obtain ⟨f, o, t⟩ := x
      have ox := hL _ hx
      unfold So
      rcases ox.1 with e | e
      · simp only at e
        subst e
        rw [if_pos rfl]
        exact fun s h1 h2 h3 => ((hwp s h1).1 h2).1 o t (Pr.said hx) h3
      · simp only at e
        subst e
        rw [if_neg (by show ¬ (1 : Int) = 0; omega)]
        have hot := Pr.said (k := k) hx
        have c := Cons.pair hL ox.2.1 ox.2.2 (some1 o t hot)
        have go : Pr k L ⟨0, o, o⟩ := Pr.same ox.2.1.1 ox.2.1.2
        have gt : Pr k L ⟨0, t, t⟩ := Pr.same ox.2.2.1 ox.2.2.2
        -- what is above one of the two: some of both
        have both : ¬ ((Pr k L ⟨0, o, u⟩ ∨ Pr k L ⟨0, t, u⟩) ∧ (Pr k L ⟨0, o, v⟩ ∨ Pr k L ⟨0, t, v⟩)) := by
          rintro ⟨a | a, b | b⟩
          · exact h ((((hot.there.chain a).turn).chain b).turn.turn)
          · exact h ((((hot.chain b).turn).chain a).turn)
          · exact h (((hot.chain a).turn.chain b))
          · exact h ((((hot.turn.there.chain a).turn).chain b).turn.turn)
        have put : ∀ z : Int, 0 ≤ z ∧ z < 2 * (k : Int) → ¬ (Pr k L ⟨0, o, z⟩ ∨ Pr k L ⟨0, t, z⟩) → ∃ s, s < 2 ^ k ∧ Goes k L s ∧ isI s o = true ∧ isI s t = true ∧ isI s z = false := by
          intro z hz hno
          have rz := oth_range hz
          have c2 := c.add hL (t := oth z) rz (by rw [oth_oth]; exact hno) (fun hp => by
            rw [oth_oth] at hp
            have ro := oth_range ox.2.1
            have hp' : Pr k L ⟨0, oth z, oth (oth z)⟩ := by rw [oth_oth]; exact hp
            have := (hp'.void ro.1 ro.2).contra
            rw [oth_oth, oth_oth] at this
            exact hno (Or.inl this))
          obtain ⟨s, h1, h2, h3⟩ := goes_of hL c2 (u := o) (Or.inl (Or.inl go))
          refine ⟨s, h1, h2, h3 o (Or.inl (Or.inl go)), h3 t (Or.inl (Or.inr gt)), ?_⟩
          have := h3 (oth z) (Or.inr (Pr.same rz.1 rz.2))
          rw [isI_oth s hz.1] at this
          simpa using this
        by_cases hU : Pr k L ⟨0, o, u⟩ ∨ Pr k L ⟨0, t, u⟩
        · obtain ⟨s, h1, h2, h3, h4, h5⟩ := put v hv (fun hV => both ⟨hU, hV⟩)
          exact ⟨s, h1, (hwp s h1).2 ⟨h2, fun q => by rw [h5] at q; exact absurd q.2 (by simp)⟩, h3, h4⟩
        · obtain ⟨s, h1, h2, h3, h4, h5⟩ := put u hu hU
          exact ⟨s, h1, (hwp s h1).2 ⟨h2, fun q => by rw [h5] at q; exact absurd q.1 (by simp)⟩, h3, h4⟩
    · unfold So at hso
      rw [if_neg (by show ¬ (1 : Int) = 0; omega)] at hso
      obtain ⟨x, h1, h2, h3, h4⟩ := hso
      exact ((hwp x h1).1 h2).2 ⟨h3, h4⟩
end Go.Proofs.Ytmkfmbjemdbigaa.Sem

end
