/- WeighSo of both programs, in plain words: a sum of four products, held against 0; for rows of numbers. -/
import Derived.Test.YtmbninbecclbiaaSemRow
import Derived.Test.YtmbninbecclbiaaSemOk
import Derived.Test.YtmbninbecclbiaaManA
import Derived.Test.YtmbninbecclbiaaPAx2
import Derived.Test.YtmbninbecclbiaaPAx3
import Derived.Test.YtmbninbecclbiaaPAx9
import Derived.Test.YtmbninbecclbiaaPAx18
import Derived.Test.YtmbninbecclbiaaPAx17
import Derived.Test.YtmbninbecclbiaaPAx19
import Derived.Test.YtmbninbecclbiaaPAx16
namespace Go.Proofs.Ytmbninbecclbiaa.Sem
open Go.RowKit Go.Proofs.Ytmbninbecclbiaa.PA Go.Proofs.YtmbninbecclbiaaW.PrintWords Go.Proofs.YtmbninbecclbiaaW.PrintLast Go.Proofs.YtmbninbecclbiaaW.PrintMore
set_option linter.unusedVariables false
set_option linter.unusedSimpArgs false

theorem countsSpec_from (l : List Int) (hl : l.length ≤ 1048577) (n : Nat) : ∀ i, i + n = l.length →
    Ev (fun k => spec_CountsOk.l0 k l (i : Int)) ((l.drop i).all Man.cntB && decide (l.length = 4)) := by
  induction n with
  | zero =>
    intro i hi
    rw [List.drop_of_length_le (by omega)]
    refine Ev.step (f := fun _ => some (decide (l.length = 4))) (fun k => ?_) ?_
    · simp only [spec_CountsOk.l0]
      rw [if_neg (by omega)]
      congr 1
      rw [Bool.eq_iff_iff]
      simp
      omega
    · simp only [List.all_nil, Bool.true_and]
      exact Ev.now _
  | succ n ih =>
    intro i hi
    have hlt : i < l.length := by omega
    have hw : wrap64 ((i : Int) + 1) = ((i + 1 : Nat) : Int) := by unfold wrap64; omega
    rw [List.drop_eq_getElem_cons hlt, List.all_cons]
    refine Ev.step (f := fun k => if Man.cntB l[i] = true then spec_CountsOk.l0 k l ((i + 1 : Nat) : Int) else some false) (fun k => ?_) ?_
    · simp only [spec_CountsOk.l0]
      rw [if_pos (by omega), if_pos (by omega), rd_at l i hlt, l1In_eq, Option.bind_some, hw]
      rfl
    · cases Man.cntB l[i] with
      | true => simp only [if_true, Bool.true_and]; exact ih (i + 1) (by omega)
      | false => simp only [Bool.false_eq_true, if_false, Bool.false_and]; exact Ev.now _

theorem spec_CountsOk_eq (l : List Int) (hl : l.length ≤ 1048577) : Ev (fun k => spec_CountsOk.f k l) (Man.countsB l) := by
  have h := countsSpec_from l hl l.length 0 (by omega)
  have e : Man.countsB l = ((l.drop 0).all Man.cntB && decide (l.length = 4)) := by
    unfold Man.countsB
    rw [List.drop_zero, Bool.and_comm]
  rw [e]
  exact h

theorem spec_row_all : ((List.range 6).all fun f => (List.range 4).all fun o => (List.range 4).all fun t => decide (spec_l6Row.f 40 f o t = some (rowL f o t, strictB f))) = true := by kernel_rfl
theorem impl_row (f o t : Nat) (hf : f < 6) (ho : o < 4) (ht : t < 4) : Ev (fun k => impl_weightsOf.f k f o t) (rowL f o t) :=
  Ev.of (fun k => impl_weightsOf.mono _ _ _ k) (of_decide_eq_true (List.all_eq_true.1 (List.all_eq_true.1 (List.all_eq_true.1 impl_row_all f (List.mem_range.2 hf)) o (List.mem_range.2 ho)) t (List.mem_range.2 ht)))
theorem spec_row (f o t : Nat) (hf : f < 6) (ho : o < 4) (ht : t < 4) : Ev (fun k => spec_l6Row.f k f o t) (rowL f o t, strictB f) :=
  Ev.of (fun k => spec_l6Row.mono _ _ _ k) (of_decide_eq_true (List.all_eq_true.1 (List.all_eq_true.1 (List.all_eq_true.1 spec_row_all f (List.mem_range.2 hf)) o (List.mem_range.2 ho)) t (List.mem_range.2 ht)))
theorem impl_strict (f o t : Nat) (hf : f < 6) : impl_isStrict.f f o t = some (strictB f) := by
  unfold impl_isStrict.f strictB
  have : f = 0 ∨ f = 1 ∨ f = 2 ∨ f = 3 ∨ f = 4 ∨ f = 5 := by omega
  rcases this with rfl | rfl | rfl | rfl | rfl | rfl <;> rfl

theorem wt_bound (f : Nat) (b c : Bool) : -2 ≤ wt f (bit b) (bit c) ∧ wt f (bit b) (bit c) ≤ 2 := by
  unfold wt bit
  cases b <;> cases c <;> simp <;> (repeat' split) <;> omega
theorem row_bound (f o t : Nat) : ∀ x ∈ rowL f o t, -2 ≤ x ∧ x ≤ 2 := by
  intro x hx
  unfold rowL at hx
  obtain ⟨s, _, rfl⟩ := List.mem_map.1 hx
  exact wt_bound f _ _

theorem spec_dot_from (r l : List Int) (hlen : r.length = l.length) (hl : l.length ≤ 100) (hr : ∀ x ∈ r, -2 ≤ x ∧ x ≤ 2) (hx : ∀ x ∈ l, -1000000 ≤ x ∧ x ≤ 1000000) (n : Nat) : ∀ (i : Nat) (s : Int), i + n = l.length → -2000000 * (i : Int) ≤ s → s ≤ 2000000 * (i : Int) →
    Ev (fun k => spec_l6Dot.l0 k r l s (i : Int)) (s + dotL (l.drop i) (r.drop i)) := by
  induction n with
  | zero =>
    intro i s hi h1 h2
    rw [List.drop_of_length_le (by omega), show dotL [] (r.drop i) = 0 by unfold dotL; rfl, Int.add_zero]
    refine Ev.step (f := fun _ => some s) (fun k => ?_) (Ev.now _)
    simp only [spec_l6Dot.l0]
    rw [if_neg (by omega)]
  | succ n ih =>
    intro i s hi h1 h2
    have hlt : i < l.length := by omega
    have hlr : i < r.length := by omega
    have b1 := hr r[i] (List.getElem_mem hlr)
    have b2 := hx l[i] (List.getElem_mem hlt)
    have hb := mul_bound b2 b1
    rw [Int.mul_comm] at hb
    have hw : wrap64 ((i : Int) + 1) = ((i + 1 : Nat) : Int) := by unfold wrap64; omega
    rw [List.drop_eq_getElem_cons hlt, List.drop_eq_getElem_cons hlr, dotL]
    have ih := ih (i + 1) (s + r[i] * l[i]) (by omega) (by omega) (by omega)
    rw [show s + (l[i] * r[i] + dotL (l.drop (i + 1)) (r.drop (i + 1))) = s + r[i] * l[i] + dotL (l.drop (i + 1)) (r.drop (i + 1)) by rw [Int.mul_comm l[i] r[i]]; omega]
    refine Ev.step (fun k => ?_) ih
    simp only [spec_l6Dot.l0]
    rw [if_pos (by omega), if_pos (by omega), if_pos (by omega), rd_at r i hlr, rd_at l i hlt, w64 (n := r[i] * l[i]) (by omega) (by omega), w64 (by omega) (by omega), hw]

theorem impl_dot_from (r l : List Int) (hlen : r.length = l.length) (hl : l.length ≤ 100) (hr : ∀ x ∈ r, -2 ≤ x ∧ x ≤ 2) (hx : ∀ x ∈ l, -1000000 ≤ x ∧ x ≤ 1000000) (n : Nat) : ∀ (i : Nat) (s : Int), i + n = l.length → -2000000 * (i : Int) ≤ s → s ≤ 2000000 * (i : Int) →
    Ev (fun k => impl_weighed.l0 k r s l (l.length : Int) (i : Int)) (s + dotL (l.drop i) (r.drop i)) := by
  induction n with
  | zero =>
    intro i s hi h1 h2
    rw [List.drop_of_length_le (by omega), show dotL [] (r.drop i) = 0 by unfold dotL; rfl, Int.add_zero]
    refine Ev.step (f := fun _ => some s) (fun k => ?_) (Ev.now _)
    simp only [impl_weighed.l0]
    rw [if_neg (by omega)]
  | succ n ih =>
    intro i s hi h1 h2
    have hlt : i < l.length := by omega
    have hlr : i < r.length := by omega
    have b1 := hr r[i] (List.getElem_mem hlr)
    have b2 := hx l[i] (List.getElem_mem hlt)
    have hb := mul_bound b2 b1
    have hw : wrap64 ((i : Int) + 1) = ((i + 1 : Nat) : Int) := by unfold wrap64; omega
    rw [List.drop_eq_getElem_cons hlt, List.drop_eq_getElem_cons hlr, dotL]
    have ih := ih (i + 1) (s + l[i] * r[i]) (by omega) (by omega) (by omega)
    rw [show s + (l[i] * r[i] + dotL (l.drop (i + 1)) (r.drop (i + 1))) = s + l[i] * r[i] + dotL (l.drop (i + 1)) (r.drop (i + 1)) by omega]
    refine Ev.step (fun k => ?_) ih
    simp only [impl_weighed.l0]
    rw [if_pos (by omega), if_pos (by omega), if_pos (by omega), if_pos (by omega), rd_at r i hlr, rd_at l i hlt, w64 (n := l[i] * r[i]) (by omega) (by omega), w64 (by omega) (by omega), hw]

/-- Is a sentence so for numbers? -/
def weighV (l : List Int) (f o t : Nat) : Bool := if strictB f = true then decide (0 < dotL l (rowL f o t)) else decide (0 ≤ dotL l (rowL f o t))
def weighSoB (l : List Int) (f o t : Int) : Bool := Man.countsB l && (decide (OkWeigh f o t) && weighV l f.toNat o.toNat t.toNat)

theorem counts_bound {l : List Int} (h : Man.countsB l = true) : l.length = 4 ∧ ∀ x ∈ l, 0 ≤ x ∧ x ≤ 99999 := by
  unfold Man.countsB at h
  simp only [Bool.and_eq_true, decide_eq_true_eq] at h
  refine ⟨h.1, fun x hx => ?_⟩
  have := List.all_eq_true.1 h.2 x hx
  unfold Man.cntB at this
  exact of_decide_eq_true this

theorem impl_weighSo_eq (l : List Int) (hl : l.length = 4) (hx : ∀ x ∈ l, -1000000 ≤ x ∧ x ≤ 1000000) (f o t : Nat) (hf : f < 6) (ho : o < 4) (ht : t < 4) : Ev (fun k => impl_weighSo.f k l f o t) (weighV l f o t) := by
  unfold impl_weighSo.f weighV
  refine Ev.bind (impl_row f o t hf ho ht) ?_
  have hd := impl_dot_from (rowL f o t) l (by rw [row_len, hl]) (by omega) (row_bound f o t) hx l.length 0 0 (by omega) (by omega) (by omega)
  rw [Int.zero_add, List.drop_zero, List.drop_zero] at hd
  refine Ev.bind (g := fun k => impl_weighed.f k l (rowL f o t)) hd ?_
  simp only [impl_strict f o t hf, Option.bind_some]
  cases strictB f <;> simp <;> exact Ev.now _

theorem impl_WeighSo_eq (l : List Int) (f o t : Int) : Ev (fun k => impl_WeighSo.f k l f o t) (weighSoB l f o t) := by
  unfold impl_WeighSo.f weighSoB
  have hc : impl_areCounts.f l = some (Man.countsB l) := rfl
  simp only [hc, Option.bind_some]
  cases h : Man.countsB l with
  | false => simp only [Bool.false_eq_true, if_false, Bool.false_and]; exact Ev.now _
  | true =>
    simp only [if_true, Bool.true_and, impl_isWeigh_eq, Option.bind_some]
    by_cases hw : OkWeigh f o t
    · obtain ⟨f', o', t', rfl, rfl, rfl, hf, ho, ht⟩ := weigh_nat hw
      obtain ⟨h4, hx⟩ := counts_bound h
      simp only [decide_eq_true hw, if_true, Bool.true_and, Int.toNat_natCast]
      exact Ev.bind (impl_weighSo_eq l h4 (fun x hx' => by have := hx x hx'; omega) f' o' t' hf ho ht) (Ev.now _)
    · simp only [decide_eq_false hw, Bool.false_eq_true, if_false, Bool.false_and]
      exact Ev.now _

theorem spec_WeighSo_eq (l : List Int) (hl : l.length ≤ 1048577) (f o t : Int) : Ev (fun k => spec_WeighSo.f k l f o t) (weighSoB l f o t) := by
  unfold spec_WeighSo.f weighSoB
  refine Ev.bind (spec_CountsOk_eq l hl) ?_
  cases h : Man.countsB l with
  | false =>
    simp only [Bool.false_eq_true, if_false, Bool.false_and]
    exact ev1 (fun k => by simp only [spec_WeighSo.j0, if_true])
  | true =>
    simp only [if_true, Bool.true_and, spec_WeighOk_eq, Option.bind_some]
    by_cases hw : OkWeigh f o t
    · obtain ⟨f', o', t', rfl, rfl, rfl, hf, ho, ht⟩ := weigh_nat hw
      obtain ⟨h4, hx⟩ := counts_bound h
      simp only [decide_eq_true hw, Bool.not_true, Bool.true_and, Int.toNat_natCast]
      have hd := spec_dot_from (rowL f' o' t') l (by rw [row_len, h4]) (by omega) (row_bound f' o' t') (fun x hx' => by have := hx x hx'; omega) l.length 0 0 (by omega) (by omega) (by omega)
      rw [Int.zero_add, List.drop_zero, List.drop_zero] at hd
      refine Ev.step (f := fun k => (spec_l6Row.f k f' o' t').bind fun bt172 => ((spec_l6Dot.f k bt172.1 l).bind fun t176 => (if t176 > 0 then (some true) else (if t176 = 0 then (some (!bt172.2)) else (some false))))) (fun k => by simp only [spec_WeighSo.j0, Bool.false_eq_true, if_false]) (Ev.bind (spec_row f' o' t' hf ho ht) (Ev.bind (g := fun k => spec_l6Dot.f k (rowL f' o' t') l) hd ?_))
      unfold weighV
      by_cases h1 : dotL l (rowL f' o' t') > 0
      · simp only [if_pos h1, decide_eq_true (show 0 < dotL l (rowL f' o' t') from h1), decide_eq_true (show 0 ≤ dotL l (rowL f' o' t') by omega)]
        split <;> exact Ev.now _
      · simp only [if_neg h1, decide_eq_false (show ¬ 0 < dotL l (rowL f' o' t') by omega)]
        by_cases h2 : dotL l (rowL f' o' t') = 0
        · simp only [if_pos h2, decide_eq_true (show 0 ≤ dotL l (rowL f' o' t') by omega)]
          cases strictB f' <;> exact Ev.now _
        · simp only [if_neg h2, decide_eq_false (show ¬ 0 ≤ dotL l (rowL f' o' t') by omega)]
          cases strictB f' <;> exact Ev.now _
    · simp only [decide_eq_false hw, Bool.not_false, Bool.false_and]
      exact ev1 (fun k => by simp only [spec_WeighSo.j0, if_true])
end Go.Proofs.Ytmbninbecclbiaa.Sem
