/- Rows of weights, sums of products, minors, in plain words; no condition but the bounds that they name. -/
import Derived.KernelRfl
import Derived.Test.YtmkfmbjemdbigaaSemIs
import Derived.Test.YtmkfmbjemdbigaaManA
import Derived.Test.YtmkfmbjemdbigaaPAx9
import Derived.Test.YtmkfmbjemdbigaaPAx8
namespace Go.Proofs.Ytmkfmbjemdbigaa.Sem
open Go.RowKit Go.Proofs.Ytmkfmbjemdbigaa.PA Go.Proofs.YtmkfmbjemdbigaaW.PrintWords Go.Proofs.YtmkfmbjemdbigaaW.PrintLast Go.Proofs.YtmkfmbjemdbigaaW.PrintMore
set_option linter.unusedVariables false
set_option linter.unusedSimpArgs false

def bit (b : Bool) : Int := if b = true then 1 else 0
/-- How much a sort counts for what a sentence compares with 0. -/
def wt (f : Nat) (a b : Int) : Int := if f = 0 then a * (b - 1) else if f = 1 then a * b else if f = 2 then a - b else if f = 3 then a - b else if f = 4 then 2 * a * b - a else a - 2 * a * b
def rowL (f o t : Nat) : List Int := (List.range 4).map fun s => wt f (bit (isB s o)) (bit (isB s t))
def strictB (f : Nat) : Bool := f == 1 || (f == 3 || f == 4)
theorem impl_row_all : ((List.range 6).all fun f => (List.range 4).all fun o => (List.range 4).all fun t => decide (impl_weightsOf.f 40 f o t = some (rowL f o t))) = true := by kernel_rfl
theorem impl_row40 (f o t : Nat) (hf : f < 6) (ho : o < 4) (ht : t < 4) : impl_weightsOf.f 40 f o t = some (rowL f o t) :=
  of_decide_eq_true (List.all_eq_true.1 (List.all_eq_true.1 (List.all_eq_true.1 impl_row_all f (List.mem_range.2 hf)) o (List.mem_range.2 ho)) t (List.mem_range.2 ht))
theorem row_len (f o t : Nat) : (rowL f o t).length = 4 := by unfold rowL; simp
theorem wt_one (f : Nat) (b c : Bool) : -1 ≤ wt f (bit b) (bit c) ∧ wt f (bit b) (bit c) ≤ 1 := by
  unfold wt bit
  cases b <;> cases c <;> simp <;> (repeat' split) <;> omega
theorem row_one (f o t : Nat) : ∀ x ∈ rowL f o t, -1 ≤ x ∧ x ≤ 1 := by
  intro x hx
  unfold rowL at hx
  obtain ⟨s, _, rfl⟩ := List.mem_map.1 hx
  exact wt_one f _ _
/-- The sum of products. -/
def dotL : List Int → List Int → Int
  | a :: xs, b :: ys => a * b + dotL xs ys
  | _, _ => 0
theorem mul_bound {a b : Int} (ha : -1000000 ≤ a ∧ a ≤ 1000000) (hb : -2 ≤ b ∧ b ≤ 2) : -2000000 ≤ a * b ∧ a * b ≤ 2000000 := by
  have h1 : b = -2 ∨ b = -1 ∨ b = 0 ∨ b = 1 ∨ b = 2 := by omega
  rcases h1 with rfl | rfl | rfl | rfl | rfl <;> omega
theorem weighed_from (r l : List Int) (hlen : r.length = l.length) (hl : l.length ≤ 100) (hr : ∀ x ∈ r, -2 ≤ x ∧ x ≤ 2) (hx : ∀ x ∈ l, -1000000 ≤ x ∧ x ≤ 1000000) (n : Nat) : ∀ (i : Nat) (s : Int) (k : Nat), i + n = l.length → -2000000 * (i : Int) ≤ s → s ≤ 2000000 * (i : Int) → n < k →
    impl_weighed.l0 k r s l (l.length : Int) (i : Int) = some (s + dotL (l.drop i) (r.drop i)) := by
  induction n with
  | zero =>
    intro i s k hi h1 h2 hk
    obtain ⟨k, rfl⟩ : ∃ m, k = m + 1 := ⟨k - 1, by omega⟩
    rw [List.drop_of_length_le (by omega), show dotL [] (r.drop i) = 0 by unfold dotL; rfl, Int.add_zero]
    simp only [impl_weighed.l0]
    rw [if_neg (by omega)]
  | succ n ih =>
    intro i s k hi h1 h2 hk
    obtain ⟨k, rfl⟩ : ∃ m, k = m + 1 := ⟨k - 1, by omega⟩
    have hlt : i < l.length := by omega
    have hlr : i < r.length := by omega
    have b1 := hr r[i] (List.getElem_mem hlr)
    have b2 := hx l[i] (List.getElem_mem hlt)
    have hb := mul_bound b2 b1
    have hw : wrap64 ((i : Int) + 1) = ((i + 1 : Nat) : Int) := by unfold wrap64; omega
    rw [List.drop_eq_getElem_cons hlt, List.drop_eq_getElem_cons hlr, dotL]
    have ih := ih (i + 1) (s + l[i] * r[i]) k (by omega) (by omega) (by omega) (by omega)
    rw [show s + (l[i] * r[i] + dotL (l.drop (i + 1)) (r.drop (i + 1))) = s + l[i] * r[i] + dotL (l.drop (i + 1)) (r.drop (i + 1)) by omega]
    simp only [impl_weighed.l0]
    rw [if_pos (by omega), if_pos (by omega), if_pos (by omega), if_pos (by omega), rd_at r i hlr, rd_at l i hlt, w64 (n := l[i] * r[i]) (by omega) (by omega), w64 (by omega) (by omega), hw]
    exact ih
theorem weighed4 (l r : List Int) (hl : l.length = 4) (hr : r.length = 4) (bl : ∀ x ∈ l, -1000000 ≤ x ∧ x ≤ 1000000) (br : ∀ x ∈ r, -2 ≤ x ∧ x ≤ 2) : impl_weighed.f 5 l r = some (dotL l r) := by
  unfold impl_weighed.f
  have := weighed_from r l (by omega) (by omega) br bl 4 0 0 5 (by omega) (by omega) (by omega) (by omega)
  simpa using this
theorem mul_one_bound {a b m : Int} (ha : -1 ≤ a ∧ a ≤ 1) (hb : -m ≤ b ∧ b ≤ m) : -m ≤ a * b ∧ a * b ≤ m := by
  have h1 : a = -1 ∨ a = 0 ∨ a = 1 := by omega
  rcases h1 with rfl | rfl | rfl <;> omega
/-- The determinant. -/
def det (a b c d e f g h i : Int) : Int := a * (e * i - f * h) - b * (d * i - f * g) + c * (d * h - e * g)
theorem detW_eq {a b c d e f g h i : Int} (ha : -1 ≤ a ∧ a ≤ 1) (hb : -1 ≤ b ∧ b ≤ 1) (hc : -1 ≤ c ∧ c ≤ 1) (hd : -1 ≤ d ∧ d ≤ 1) (he : -1 ≤ e ∧ e ≤ 1) (hf : -1 ≤ f ∧ f ≤ 1) (hg : -1 ≤ g ∧ g ≤ 1) (hh : -1 ≤ h ∧ h ≤ 1) (hi : -1 ≤ i ∧ i ≤ 1) :
    Man.detW a b c d e f g h i = det a b c d e f g h i ∧ -6 ≤ det a b c d e f g h i ∧ det a b c d e f g h i ≤ 6 := by
  have m1 := mul_one_bound he hi
  have m2 := mul_one_bound hf hh
  have m3 := mul_one_bound hd hi
  have m4 := mul_one_bound hf hg
  have m5 := mul_one_bound hd hh
  have m6 := mul_one_bound he hg
  unfold Man.detW det
  rw [w64 (n := e * i) (by omega) (by omega), w64 (n := f * h) (by omega) (by omega), w64 (n := d * i) (by omega) (by omega), w64 (n := f * g) (by omega) (by omega), w64 (n := d * h) (by omega) (by omega), w64 (n := e * g) (by omega) (by omega)]
  rw [w64 (n := e * i - f * h) (by omega) (by omega), w64 (n := d * i - f * g) (by omega) (by omega), w64 (n := d * h - e * g) (by omega) (by omega)]
  have n1 := mul_one_bound (m := 2) (b := e * i - f * h) ha (by omega)
  have n2 := mul_one_bound (m := 2) (b := d * i - f * g) hb (by omega)
  have n3 := mul_one_bound (m := 2) (b := d * h - e * g) hc (by omega)
  generalize a * (e * i - f * h) = x at *
  generalize b * (d * i - f * g) = y at *
  generalize c * (d * h - e * g) = z at *
  rw [w64 (n := x) (by omega) (by omega), w64 (n := y) (by omega) (by omega), w64 (n := z) (by omega) (by omega), w64 (n := x - y) (by omega) (by omega), w64 (by omega) (by omega)]
  exact ⟨rfl, by omega, by omega⟩
/-- A row of four. -/
def Four (l : List Int) : Prop := l.length = 4 ∧ ∀ x ∈ l, -1 ≤ x ∧ x ≤ 1
theorem four_form {l : List Int} (h : Four l) : ∃ a b c d : Int, l = [a, b, c, d] ∧ (-1 ≤ a ∧ a ≤ 1) ∧ (-1 ≤ b ∧ b ≤ 1) ∧ (-1 ≤ c ∧ c ≤ 1) ∧ (-1 ≤ d ∧ d ≤ 1) := by
  obtain ⟨hl, hb⟩ := h
  match l, hl with
  | [a, b, c, d], _ => exact ⟨a, b, c, d, rfl, hb a (by simp), hb b (by simp), hb c (by simp), hb d (by simp)⟩
theorem ml_bound {a b c : List Int} (ha : Four a) (hb : Four b) (hc : Four c) : ∀ i, i < 4 → -6 ≤ Man.ml a b c i ∧ Man.ml a b c i ≤ 6 := by
  obtain ⟨a0, a1, a2, a3, rfl, h0, h1, h2, h3⟩ := four_form ha
  obtain ⟨b0, b1, b2, b3, rfl, i0, i1, i2, i3⟩ := four_form hb
  obtain ⟨c0, c1, c2, c3, rfl, j0, j1, j2, j3⟩ := four_form hc
  intro i hi
  have e : i = 0 ∨ i = 1 ∨ i = 2 ∨ i = 3 := by omega
  rcases e with rfl | rfl | rfl | rfl
  · have := detW_eq h1 h2 h3 i1 i2 i3 j1 j2 j3
    show -6 ≤ Man.detW a1 a2 a3 b1 b2 b3 c1 c2 c3 ∧ Man.detW a1 a2 a3 b1 b2 b3 c1 c2 c3 ≤ 6
    rw [this.1]; exact this.2
  · have := detW_eq h0 h2 h3 i0 i2 i3 j0 j2 j3
    show -6 ≤ Man.detW a0 a2 a3 b0 b2 b3 c0 c2 c3 ∧ Man.detW a0 a2 a3 b0 b2 b3 c0 c2 c3 ≤ 6
    rw [this.1]; exact this.2
  · have := detW_eq h0 h1 h3 i0 i1 i3 j0 j1 j3
    show -6 ≤ Man.detW a0 a1 a3 b0 b1 b3 c0 c1 c3 ∧ Man.detW a0 a1 a3 b0 b1 b3 c0 c1 c3 ≤ 6
    rw [this.1]; exact this.2
  · have := detW_eq h0 h1 h2 i0 i1 i2 j0 j1 j2
    show -6 ≤ Man.detW a0 a1 a2 b0 b1 b2 c0 c1 c2 ∧ Man.detW a0 a1 a2 b0 b1 b2 c0 c1 c2 ≤ 6
    rw [this.1]; exact this.2
/-- The line's numbers are small. -/
theorem ol_bound (m : Nat → Int) (h : ∀ i, i < 4 → -6 ≤ m i ∧ m i ≤ 6) : ∀ x ∈ Man.lineL m, -6 ≤ x ∧ x ≤ 6 := by
  have hv : ∀ i, i < 4 → -6 ≤ Man.vl m i ∧ Man.vl m i ≤ 6 := fun i hi => by
    have := h i hi
    unfold Man.vl
    rcases (Man.sg_two i).1 with e | e <;> rw [e] <;> omega
  have ht : ∀ x D : Int, -6 ≤ x ∧ x ≤ 6 → -6 ≤ Int.tdiv x D ∧ Int.tdiv x D ≤ 6 := fun x D hx => by
    have h1 := Int.natAbs_tdiv x D
    have h2 := Nat.div_le_self x.natAbs D.natAbs
    have h4 : (Int.tdiv x D).natAbs ≤ x.natAbs := by rw [h1]; exact h2
    clear h1 h2
    omega
  unfold Man.lineL
  split
  · intro x hx; cases hx
  · split
    · intro x hx; cases hx
    · intro x hx
      unfold Man.ol at hx
      obtain ⟨y, hy, rfl⟩ := List.mem_map.1 hx
      apply ht
      have : y = Man.vl m 0 ∨ y = Man.vl m 1 ∨ y = Man.vl m 2 ∨ y = Man.vl m 3 := by
        have h4 : Man.pl m 4 = [Man.vl m 0, Man.vl m 1, Man.vl m 2, Man.vl m 3] := rfl
        rw [h4] at hy
        simpa using hy
      rcases this with e | e | e | e <;> rw [e] <;> exact hv _ (by omega)
end Go.Proofs.Ytmkfmbjemdbigaa.Sem
