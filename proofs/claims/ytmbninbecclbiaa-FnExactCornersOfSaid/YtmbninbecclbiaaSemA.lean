/- Words printed by the print tool, the unused ones left out, merged into one text by mergew.py. -/
import Derived.Laws.BitsLemmas
import Derived.Test.YtmbninbecclbiaaPAx1
import Derived.KernelRfl
import Derived.Test.YtmbninbecclbiaaPAx15
import Derived.Test.YtmbninbecclbiaaManLine
import Derived.Test.YtmbninbecclbiaaPAx16
import Derived.Test.YtmbninbecclbiaaPAx26
import Derived.Test.YtmbninbecclbiaaPAx13
import Derived.Test.YtmbninbecclbiaaPAx19
import Derived.Test.YtmbninbecclbiaaPAx18
import Derived.Test.YtmbninbecclbiaaPAx33
import Derived.Test.YtmbninbecclbiaaPAx32
import Derived.Test.YtmbninbecclbiaaPAx34
section
/- Small words on numbers and rounds; no condition but the bounds that they name. -/
namespace Go.Proofs.Ytmbninbecclbiaa.Sem
open Go.RowKit Go.Proofs.Ytmbninbecclbiaa.PA Go.Proofs.YtmbninbecclbiaaW.PrintWords Go.Proofs.YtmbninbecclbiaaW.PrintLast Go.Proofs.YtmbninbecclbiaaW.PrintMore
set_option linter.unusedVariables false
set_option linter.unusedSimpArgs false

theorem w64 {n : Int} (h : -9223372036854775808 ≤ n) (h' : n ≤ 9223372036854775807) : wrap64 n = n := by unfold wrap64; omega

theorem ev1 {α : Type} {g : Nat → Option α} {x : α} (h : ∀ k, g (k + 1) = some x) : Ev g x := ⟨1, fun k hk => by
  obtain ⟨j, rfl⟩ : ∃ j, k = j + 1 := ⟨k - 1, by omega⟩
  exact h j⟩

theorem l1In_eq (n a b : Int) : spec_l1In.f n a b = some (decide (a ≤ n ∧ n ≤ b)) := by
  unfold spec_l1In.f
  by_cases h : n ≥ a
  · rw [if_pos h]; simp; omega
  · rw [if_neg h]; simp; omega
theorem set_mid {α : Type} (p : List α) (z v : α) (r : List α) (i : Nat) (h : p.length = i) : (p ++ z :: r).set i v = p ++ v :: r := by
  subst h
  rw [List.set_append, if_neg (by omega), Nat.sub_self]
  rfl
theorem rd_at (l : List Int) (i : Nat) (h : i < l.length) : rd l (i : Int) = l[i] := by
  unfold rd
  rw [List.getD_eq_getElem?_getD, Int.toNat_natCast, List.getElem?_eq_getElem h]
  rfl
end Go.Proofs.Ytmbninbecclbiaa.Sem

end
section
/- Things of a sort of a term: both programs' test, in plain words; for eight sorts and six terms. -/
namespace Go.Proofs.Ytmbninbecclbiaa.Sem
open Go.RowKit Go.Proofs.Ytmbninbecclbiaa.PA Go.Proofs.YtmbninbecclbiaaW.PrintWords Go.Proofs.YtmbninbecclbiaaW.PrintLast Go.Proofs.YtmbninbecclbiaaW.PrintMore
set_option linter.unusedVariables false
set_option linter.unusedSimpArgs false

/-- Are things of a sort of a term? -/
def isB (s t : Nat) : Bool := (s / 2 ^ (t / 2)) % 2 != t % 2
end Go.Proofs.Ytmbninbecclbiaa.Sem

end
section
/- Rows of weights, sums of products, minors, in plain words; no condition but the bounds that they name. -/
namespace Go.Proofs.Ytmbninbecclbiaa.Sem
open Go.RowKit Go.Proofs.Ytmbninbecclbiaa.PA Go.Proofs.YtmbninbecclbiaaW.PrintWords Go.Proofs.YtmbninbecclbiaaW.PrintLast Go.Proofs.YtmbninbecclbiaaW.PrintMore
set_option linter.unusedVariables false
set_option linter.unusedSimpArgs false

def bit (b : Bool) : Int := if b = true then 1 else 0
/-- How much a sort counts for what a sentence compares with 0. -/
def wt (f : Nat) (a b : Int) : Int := if f = 0 then a * (b - 1) else if f = 1 then a * b else if f = 2 then a - b else if f = 3 then a - b else if f = 4 then 2 * a * b - a else a - 2 * a * b
def rowL (f o t : Nat) : List Int := (List.range 4).map fun s => wt f (bit (isB s o)) (bit (isB s t))
def strictB (f : Nat) : Bool := f == 1 || (f == 3 || f == 4)
theorem impl_row_all : ((List.range 6).all fun f => (List.range 4).all fun o => (List.range 4).all fun t => decide (impl_weightsOf.f 40 f o t = some (rowL f o t))) = true := by kernel_rfl
theorem impl_row40 (f o t : Nat) (hf : f < 6) (ho : o < 4) (ht : t < 4) : impl_weightsOf.f 40 f o t = some (rowL f o t) :=
  of_decide_eq_true (List.all_eq_true.1 (List.all_eq_true.1 (List.all_eq_true.1 impl_row_all f (List.mem_range.2 hf)) o (List.mem_range.2 ho)) t (List.mem_range.2 ht))
theorem row_len (f o t : Nat) : (rowL f o t).length = 4 := by unfold rowL; simp
theorem wt_one (f : Nat) (b c : Bool) : -1 ≤ wt f (bit b) (bit c) ∧ wt f (bit b) (bit c) ≤ 1 := by
  unfold wt bit
  cases b <;> cases c <;> simp <;> (repeat' split) <;> omega
theorem row_one (f o t : Nat) : ∀ x ∈ rowL f o t, -1 ≤ x ∧ x ≤ 1 := by
  intro x hx
  unfold rowL at hx
  obtain ⟨s, _, rfl⟩ := List.mem_map.1 hx
  exact wt_one f _ _
/-- The sum of products. -/
def dotL : List Int → List Int → Int
  | a :: xs, b :: ys => a * b + dotL xs ys
  | _, _ => 0
theorem mul_bound {a b : Int} (ha : -1000000 ≤ a ∧ a ≤ 1000000) (hb : -2 ≤ b ∧ b ≤ 2) : -2000000 ≤ a * b ∧ a * b ≤ 2000000 := by
  have h1 : b = -2 ∨ b = -1 ∨ b = 0 ∨ b = 1 ∨ b = 2 := by omega
  rcases h1 with rfl | rfl | rfl | rfl | rfl <;> omega
theorem weighed_from (r l : List Int) (hlen : r.length = l.length) (hl : l.length ≤ 100) (hr : ∀ x ∈ r, -2 ≤ x ∧ x ≤ 2) (hx : ∀ x ∈ l, -1000000 ≤ x ∧ x ≤ 1000000) (n : Nat) : ∀ (i : Nat) (s : Int) (k : Nat), i + n = l.length → -2000000 * (i : Int) ≤ s → s ≤ 2000000 * (i : Int) → n < k →
    impl_weighed.l0 k r s l (l.length : Int) (i : Int) = some (s + dotL (l.drop i) (r.drop i)) := by
  induction n with
  | zero =>
    intro i s k hi h1 h2 hk
    obtain ⟨k, rfl⟩ : ∃ m, k = m + 1 := ⟨k - 1, by omega⟩
    rw [List.drop_of_length_le (by omega), show dotL [] (r.drop i) = 0 by unfold dotL; rfl, Int.add_zero]
    simp only [impl_weighed.l0]
    rw [if_neg (by omega)]
  | succ n ih =>
    intro i s k hi h1 h2 hk
    obtain ⟨k, rfl⟩ : ∃ m, k = m + 1 := ⟨k - 1, by omega⟩
    have hlt : i < l.length := by omega
    have hlr : i < r.length := by omega
    have b1 := hr r[i] (List.getElem_mem hlr)
    have b2 := hx l[i] (List.getElem_mem hlt)
    have hb := mul_bound b2 b1
    have hw : wrap64 ((i : Int) + 1) = ((i + 1 : Nat) : Int) := by unfold wrap64; omega
    rw [List.drop_eq_getElem_cons hlt, List.drop_eq_getElem_cons hlr, dotL]
    have ih := ih (i + 1) (s + l[i] * r[i]) k (by omega) (by omega) (by omega) (by omega)
    rw [show s + (l[i] * r[i] + dotL (l.drop (i + 1)) (r.drop (i + 1))) = s + l[i] * r[i] + dotL (l.drop (i + 1)) (r.drop (i + 1)) by omega]
    simp only [impl_weighed.l0]
    rw [if_pos (by omega), if_pos (by omega), if_pos (by omega), if_pos (by omega), rd_at r i hlr, rd_at l i hlt, w64 (n := l[i] * r[i]) (by omega) (by omega), w64 (by omega) (by omega), hw]
    exact ih
theorem weighed4 (l r : List Int) (hl : l.length = 4) (hr : r.length = 4) (bl : ∀ x ∈ l, -1000000 ≤ x ∧ x ≤ 1000000) (br : ∀ x ∈ r, -2 ≤ x ∧ x ≤ 2) : impl_weighed.f 5 l r = some (dotL l r) := by
  unfold impl_weighed.f
  have := weighed_from r l (by omega) (by omega) br bl 4 0 0 5 (by omega) (by omega) (by omega) (by omega)
  simpa using this
theorem mul_one_bound {a b m : Int} (ha : -1 ≤ a ∧ a ≤ 1) (hb : -m ≤ b ∧ b ≤ m) : -m ≤ a * b ∧ a * b ≤ m := by
  have h1 : a = -1 ∨ a = 0 ∨ a = 1 := by omega
  rcases h1 with rfl | rfl | rfl <;> omega
/-- The determinant. -/
def det (a b c d e f g h i : Int) : Int := a * (e * i - f * h) - b * (d * i - f * g) + c * (d * h - e * g)
theorem detW_eq {a b c d e f g h i : Int} (ha : -1 ≤ a ∧ a ≤ 1) (hb : -1 ≤ b ∧ b ≤ 1) (hc : -1 ≤ c ∧ c ≤ 1) (hd : -1 ≤ d ∧ d ≤ 1) (he : -1 ≤ e ∧ e ≤ 1) (hf : -1 ≤ f ∧ f ≤ 1) (hg : -1 ≤ g ∧ g ≤ 1) (hh : -1 ≤ h ∧ h ≤ 1) (hi : -1 ≤ i ∧ i ≤ 1) :
    Man.detW a b c d e f g h i = det a b c d e f g h i ∧ -6 ≤ det a b c d e f g h i ∧ det a b c d e f g h i ≤ 6 := by
  have m1 := mul_one_bound he hi
  have m2 := mul_one_bound hf hh
  have m3 := mul_one_bound hd hi
  have m4 := mul_one_bound hf hg
  have m5 := mul_one_bound hd hh
  have m6 := mul_one_bound he hg
  unfold Man.detW det
  rw [w64 (n := e * i) (by omega) (by omega), w64 (n := f * h) (by omega) (by omega), w64 (n := d * i) (by omega) (by omega), w64 (n := f * g) (by omega) (by omega), w64 (n := d * h) (by omega) (by omega), w64 (n := e * g) (by omega) (by omega)]
  rw [w64 (n := e * i - f * h) (by omega) (by omega), w64 (n := d * i - f * g) (by omega) (by omega), w64 (n := d * h - e * g) (by omega) (by omega)]
  have n1 := mul_one_bound (m := 2) (b := e * i - f * h) ha (by omega)
  have n2 := mul_one_bound (m := 2) (b := d * i - f * g) hb (by omega)
  have n3 := mul_one_bound (m := 2) (b := d * h - e * g) hc (by omega)
  generalize a * (e * i - f * h) = x at *
  generalize b * (d * i - f * g) = y at *
  generalize c * (d * h - e * g) = z at *
  rw [w64 (n := x) (by omega) (by omega), w64 (n := y) (by omega) (by omega), w64 (n := z) (by omega) (by omega), w64 (n := x - y) (by omega) (by omega), w64 (by omega) (by omega)]
  exact ⟨rfl, by omega, by omega⟩
/-- A row of four. -/
def Four (l : List Int) : Prop := l.length = 4 ∧ ∀ x ∈ l, -1 ≤ x ∧ x ≤ 1
theorem four_form {l : List Int} (h : Four l) : ∃ a b c d : Int, l = [a, b, c, d] ∧ (-1 ≤ a ∧ a ≤ 1) ∧ (-1 ≤ b ∧ b ≤ 1) ∧ (-1 ≤ c ∧ c ≤ 1) ∧ (-1 ≤ d ∧ d ≤ 1) := by
  obtain ⟨hl, hb⟩ := h
  match l, hl with
  | [a, b, c, d], _ => exact ⟨a, b, c, d, rfl, hb a (by simp), hb b (by simp), hb c (by simp), hb d (by simp)⟩
theorem ml_bound {a b c : List Int} (ha : Four a) (hb : Four b) (hc : Four c) : ∀ i, i < 4 → -6 ≤ Man.ml a b c i ∧ Man.ml a b c i ≤ 6 := by
  obtain ⟨a0, a1, a2, a3, rfl, h0, h1, h2, h3⟩ := four_form ha
  obtain ⟨b0, b1, b2, b3, rfl, i0, i1, i2, i3⟩ := four_form hb
  obtain ⟨c0, c1, c2, c3, rfl, j0, j1, j2, j3⟩ := four_form hc
  intro i hi
  have e : i = 0 ∨ i = 1 ∨ i = 2 ∨ i = 3 := by omega
  rcases e with rfl | rfl | rfl | rfl
  · have := detW_eq h1 h2 h3 i1 i2 i3 j1 j2 j3
    show -6 ≤ Man.detW a1 a2 a3 b1 b2 b3 c1 c2 c3 ∧ Man.detW a1 a2 a3 b1 b2 b3 c1 c2 c3 ≤ 6
    rw [this.1]; exact this.2
  · have := detW_eq h0 h2 h3 i0 i2 i3 j0 j2 j3
    show -6 ≤ Man.detW a0 a2 a3 b0 b2 b3 c0 c2 c3 ∧ Man.detW a0 a2 a3 b0 b2 b3 c0 c2 c3 ≤ 6
    rw [this.1]; exact this.2
  · have := detW_eq h0 h1 h3 i0 i1 i3 j0 j1 j3
    show -6 ≤ Man.detW a0 a1 a3 b0 b1 b3 c0 c1 c3 ∧ Man.detW a0 a1 a3 b0 b1 b3 c0 c1 c3 ≤ 6
    rw [this.1]; exact this.2
  · have := detW_eq h0 h1 h2 i0 i1 i2 j0 j1 j2
    show -6 ≤ Man.detW a0 a1 a2 b0 b1 b2 c0 c1 c2 ∧ Man.detW a0 a1 a2 b0 b1 b2 c0 c1 c2 ≤ 6
    rw [this.1]; exact this.2
/-- The line's numbers are small. -/
theorem ol_bound (m : Nat → Int) (h : ∀ i, i < 4 → -6 ≤ m i ∧ m i ≤ 6) : ∀ x ∈ Man.lineL m, -6 ≤ x ∧ x ≤ 6 := by
  have hv : ∀ i, i < 4 → -6 ≤ Man.vl m i ∧ Man.vl m i ≤ 6 := fun i hi => by
    have := h i hi
    unfold Man.vl
    rcases (Man.sg_two i).1 with e | e <;> rw [e] <;> omega
  have ht : ∀ x D : Int, -6 ≤ x ∧ x ≤ 6 → -6 ≤ Int.tdiv x D ∧ Int.tdiv x D ≤ 6 := fun x D hx => by
    have h1 := Int.natAbs_tdiv x D
    have h2 := Nat.div_le_self x.natAbs D.natAbs
    have h4 : (Int.tdiv x D).natAbs ≤ x.natAbs := by rw [h1]; exact h2
    clear h1 h2
    omega
  unfold Man.lineL
  split
  · intro x hx; cases hx
  · split
    · intro x hx; cases hx
    · intro x hx
      unfold Man.ol at hx
      obtain ⟨y, hy, rfl⟩ := List.mem_map.1 hx
      apply ht
      have : y = Man.vl m 0 ∨ y = Man.vl m 1 ∨ y = Man.vl m 2 ∨ y = Man.vl m 3 := by
        have h4 : Man.pl m 4 = [Man.vl m 0, Man.vl m 1, Man.vl m 2, Man.vl m 3] := rfl
        rw [h4] at hy
        simpa using hy
      rcases this with e | e | e | e <;> rw [e] <;> exact hv _ (by omega)
end Go.Proofs.Ytmbninbecclbiaa.Sem

end
section
/- Which sentences compare numbers, in plain words; no condition. -/
namespace Go.Proofs.Ytmbninbecclbiaa.Sem
open Go.RowKit Go.Proofs.Ytmbninbecclbiaa.PA Go.Proofs.YtmbninbecclbiaaW.PrintWords Go.Proofs.YtmbninbecclbiaaW.PrintLast Go.Proofs.YtmbninbecclbiaaW.PrintMore
set_option linter.unusedVariables false
set_option linter.unusedSimpArgs false

def OkWeigh (f o t : Int) : Prop := 0 ≤ f ∧ f ≤ 5 ∧ 0 ≤ o ∧ o ≤ 3 ∧ 0 ≤ t ∧ t ≤ 3
instance (f o t : Int) : Decidable (OkWeigh f o t) := by unfold OkWeigh; infer_instance

theorem spec_WeighOk_eq (f o t : Int) : spec_WeighOk.f f o t = some (decide (OkWeigh f o t)) := by
  unfold spec_WeighOk.f OkWeigh
  simp only [l1In_eq, Option.bind_some, decide_eq_true_eq]
  by_cases h1 : 0 ≤ f ∧ f ≤ 5
  · rw [if_pos h1]
    by_cases h2 : 0 ≤ o ∧ o ≤ 3
    · rw [if_pos h2]; exact congrArg some (decide_eq_decide.mpr (by omega))
    · rw [if_neg h2]; exact congrArg some (decide_eq_false (by omega)).symm
  · rw [if_neg h1]; exact congrArg some (decide_eq_false (by omega)).symm

theorem impl_isWeigh_eq (f o t : Int) : impl_isWeigh.f f o t = some (decide (OkWeigh f o t)) := by
  unfold impl_isWeigh.f OkWeigh
  by_cases h1 : f ≥ 0
  · rw [if_pos h1]
    by_cases h2 : f ≤ 5
    · rw [if_pos h2]
      by_cases h3 : o ≥ 0
      · rw [if_pos h3]
        by_cases h4 : o ≤ 3
        · rw [if_pos h4]
          by_cases h5 : t ≥ 0
          · rw [if_pos h5]; exact congrArg some (decide_eq_decide.mpr (by omega))
          · rw [if_neg h5]; exact congrArg some (decide_eq_false (by omega)).symm
        · rw [if_neg h4]; exact congrArg some (decide_eq_false (by omega)).symm
      · rw [if_neg h3]; exact congrArg some (decide_eq_false (by omega)).symm
    · rw [if_neg h2]; exact congrArg some (decide_eq_false (by omega)).symm
  · rw [if_neg h1]; exact congrArg some (decide_eq_false (by omega)).symm

theorem weigh_nat {f o t : Int} (h : OkWeigh f o t) : ∃ f' o' t' : Nat, f = f' ∧ o = o' ∧ t = t' ∧ f' < 6 ∧ o' < 4 ∧ t' < 4 := by
  unfold OkWeigh at h
  exact ⟨f.toNat, o.toNat, t.toNat, by omega, by omega, by omega, by omega, by omega, by omega⟩

end Go.Proofs.Ytmbninbecclbiaa.Sem

end
section
/- Cones of rows in four dimensions: a strict row that is > 0 somewhere in the cone is > 0 at a corner. Plain maths, no program. -/
set_option linter.unusedVariables false
namespace Go.Proofs.Ytmbninbecclbiaa.Cone
structure V where
  a : Int
  b : Int
  c : Int
  d : Int
theorem V.ext {x y : V} (h0 : x.a = y.a) (h1 : x.b = y.b) (h2 : x.c = y.c) (h3 : x.d = y.d) : x = y := by
  cases x; cases y; cases h0; cases h1; cases h2; cases h3; rfl
def dot (x y : V) : Int := x.a * y.a + x.b * y.b + x.c * y.c + x.d * y.d
def mnr (x y z : V) : V :=
  ⟨x.b * (y.c * z.d - y.d * z.c) - x.c * (y.b * z.d - y.d * z.b) + x.d * (y.b * z.c - y.c * z.b),
   -(x.a * (y.c * z.d - y.d * z.c) - x.c * (y.a * z.d - y.d * z.a) + x.d * (y.a * z.c - y.c * z.a)),
   x.a * (y.b * z.d - y.d * z.b) - x.b * (y.a * z.d - y.d * z.a) + x.d * (y.a * z.b - y.b * z.a),
   -(x.a * (y.b * z.c - y.c * z.b) - x.b * (y.a * z.c - y.c * z.a) + x.c * (y.a * z.b - y.b * z.a))⟩
structure Par (x y : V) : Prop where
  ab : x.a * y.b = x.b * y.a
  ac : x.a * y.c = x.c * y.a
  ad : x.a * y.d = x.d * y.a
  bc : x.b * y.c = x.c * y.b
  bd : x.b * y.d = x.d * y.b
  cd : x.c * y.d = x.d * y.c
def Zero (x : V) : Prop := x.a = 0 ∧ x.b = 0 ∧ x.c = 0 ∧ x.d = 0
def e0 : V := ⟨1, 0, 0, 0⟩
def e1 : V := ⟨0, 1, 0, 0⟩
def e2 : V := ⟨0, 0, 1, 0⟩
def e3 : V := ⟨0, 0, 0, 1⟩
theorem dot_mnr0 (x y z : V) : dot x (mnr x y z) = 0 := by unfold dot mnr; grind
theorem dot_mnr1 (x y z : V) : dot y (mnr x y z) = 0 := by unfold dot mnr; grind
theorem dot_mnr2 (x y z : V) : dot z (mnr x y z) = 0 := by unfold dot mnr; grind
theorem par_ker {x y z v : V} (h0 : dot x v = 0) (h1 : dot y v = 0) (h2 : dot z v = 0) : Par (mnr x y z) v := by
  unfold dot at h0 h1 h2
  constructor <;> simp only [mnr]
  · have : ∀ p q r : Int, p * (x.a * v.a + x.b * v.b + x.c * v.c + x.d * v.d) = 0 := by intro p q r; rw [h0, Int.mul_zero]
    grind
  · grind
  · grind
  · grind
  · grind
  · grind
end Go.Proofs.Ytmbninbecclbiaa.Cone

namespace Go.Proofs.Ytmbninbecclbiaa.Cone
theorem dot_e0 (x : V) : dot e0 x = x.a := by unfold dot e0; grind
theorem dot_e1 (x : V) : dot e1 x = x.b := by unfold dot e1; grind
theorem dot_e2 (x : V) : dot e2 x = x.c := by unfold dot e2; grind
theorem dot_e3 (x : V) : dot e3 x = x.d := by unfold dot e3; grind
end Go.Proofs.Ytmbninbecclbiaa.Cone

end
section
/- Rows of sentences and rows of rows under the laws' own functions: sizes, copies, comparing, marking; in plain words; no condition but a row's length. -/
namespace Go.Proofs.Ytmbninbecclbiaa.Sem
open Go.RowKit Go.Proofs.Ytmbninbecclbiaa.PA Go.Proofs.YtmbninbecclbiaaW.PrintWords Go.Proofs.YtmbninbecclbiaaW.PrintLast Go.Proofs.YtmbninbecclbiaaW.PrintMore
set_option linter.unusedVariables false
set_option linter.unusedSimpArgs false

theorem ev_some {α : Type} {g : Nat → Option α} {x : α} (h : Ev g x) : ∃ k, g k = Option.some x := by
  obtain ⟨k, hk⟩ := h
  exact ⟨k, hk k (Nat.le_refl _)⟩
theorem toSay_eq (f o t : Int) : laws_toSay.f f o t = some (f, o, t) := rfl
/-- A sentence of the laws' own type, copied. -/
def conv (x : S24) : S29 := ⟨x.f0, x.f1, x.f2⟩

theorem set_midS {α : Type} (p : List α) (z v : α) (r : List α) (i : Nat) (h : p.length = i) : (p ++ z :: r).set i v = p ++ v :: r := by
  subst h
  rw [List.set_append, if_neg (by omega), Nat.sub_self]
  rfl

theorem toSayS_from (l : List S24) (hl : l.length ≤ 1048576) (n : Nat) : ∀ i, i + n = l.length →
    Ev (fun k => laws_toSayS.l0 k l ((l.take i).map conv ++ List.replicate n z29) (i : Int)) (l.map conv) := by
  induction n with
  | zero =>
    intro i hi
    refine Ev.step (f := fun _ => some (l.map conv)) (fun k => ?_) (Ev.now _)
    simp only [laws_toSayS.l0]
    rw [if_neg (by omega), List.take_of_length_le (by omega), List.replicate_zero, List.append_nil]
  | succ n ih =>
    intro i hi
    have ih := ih (i + 1) (by omega)
    have hlt : i < l.length := by omega
    have hw : wrap64 ((i : Int) + 1) = ((i + 1 : Nat) : Int) := by unfold wrap64; omega
    have hlen : ((l.take i).map conv).length = i := by rw [List.length_map, List.length_take]; omega
    have hrd : rd_T24 l (i : Int) = l[i] := by
      unfold rd_T24
      rw [List.getD_eq_getElem?_getD, Int.toNat_natCast, List.getElem?_eq_getElem hlt]
      rfl
    have hnew : ((l.take i).map conv ++ List.replicate (n + 1) z29).set i (conv l[i]) = (l.take (i + 1)).map conv ++ List.replicate n z29 := by
      rw [List.replicate_succ, set_midS _ _ _ _ _ hlen, List.take_succ_eq_append_getElem hlt, List.map_append, List.append_assoc]
      rfl
    refine Ev.step (f := fun k => laws_toSayS.l0 k l ((l.take (i + 1)).map conv ++ List.replicate n z29) ((i + 1 : Nat) : Int)) (fun k => ?_) ih
    simp only [laws_toSayS.l0]
    rw [if_pos (by omega), if_pos (by omega), hrd, toSay_eq, Option.bind_some, if_pos (by rw [List.length_append, hlen, List.length_replicate]; omega), hw, Int.toNat_natCast]
    show laws_toSayS.l0 k l (((l.take i).map conv ++ List.replicate (n + 1) z29).set i (conv l[i])) _ = _
    rw [hnew]

theorem toSayS_eq (l : List S24) (hl : l.length ≤ 1048576) : Ev (fun k => laws_toSayS.f k l) (l.map conv) := by
  unfold laws_toSayS.f
  simp only [if_pos (show (0 : Int) ≤ (l.length : Int) by omega), Int.toNat_natCast, if_pos (show l.length ≤ 11728124029610 by omega)]
  exact toSayS_from l hl l.length 0 (by omega)

theorem eqSay_self (f o t : Int) : laws_eqSay.f f o t f o t = some true := by unfold laws_eqSay.f; rw [if_pos rfl, if_pos rfl, if_pos rfl]

theorem eqSayS_from (l : List S29) (hl : l.length ≤ 1048576) (n : Nat) : ∀ i, i + n = l.length → Ev (fun k => laws_eqSayS.l0 k l l (i : Int)) true := by
  induction n with
  | zero =>
    intro i hi
    refine Ev.step (f := fun _ => some true) (fun k => ?_) (Ev.now _)
    simp only [laws_eqSayS.l0]
    rw [if_neg (by omega)]
  | succ n ih =>
    intro i hi
    have hw : wrap64 ((i : Int) + 1) = ((i + 1 : Nat) : Int) := by unfold wrap64; omega
    refine Ev.step (f := fun k => laws_eqSayS.l0 k l l ((i + 1 : Nat) : Int)) (fun k => ?_) (ih (i + 1) (by omega))
    simp only [laws_eqSayS.l0]
    rw [if_pos (by omega), if_pos (by omega), if_pos (by omega), eqSay_self, Option.bind_some, if_pos rfl, hw]

theorem eqSayS_self (l : List S29) (hl : l.length ≤ 1048576) : Ev (fun k => laws_eqSayS.f k l l) true := by
  unfold laws_eqSayS.f
  simp only [if_true]
  exact eqSayS_from l hl l.length 0 (by omega)
theorem szSayS_eq (l : List S24) (hl : l.length ≤ 9223372036854775807) : laws_szSayS.f l 1048576 = some (if 1048576 < (l.length : Int) then -1 else 1048576 - (l.length : Int)) := by
  unfold laws_szSayS.f
  have hw : wrap64 (1048576 - (l.length : Int)) = 1048576 - (l.length : Int) := by unfold wrap64; omega
  rw [hw]
  by_cases h : 1048576 < (l.length : Int)
  · rw [if_pos (by omega), if_pos h]
  · rw [if_neg (by omega), if_neg h]
theorem markSayS_ev (n : Nat) : ∀ (x : List S29) (i : Nat) (a : Int), x.length ≤ 1048576 → i + n = x.length → 0 ≤ a → a ≤ 3 * (i : Int) + 1 → ∃ r y, 0 ≤ r ∧ Ev (fun k => laws_markSayS.l0 k x a (i : Int)) (r, y) := by
  induction n with
  | zero =>
    intro x i a hl hi h0 h1
    refine ⟨a, x, h0, ev1 fun k => ?_⟩
    simp only [laws_markSayS.l0]
    rw [if_neg (by omega)]
  | succ n ih =>
    intro x i a hl hi h0 h1
    have hw : wrap64 ((i : Int) + 1) = ((i + 1 : Nat) : Int) := by unfold wrap64; omega
    have w1 : wrap64 (a + 1) = a + 1 := by unfold wrap64; omega
    have w2 : wrap64 (a + 1 + 1) = a + 1 + 1 := by unfold wrap64; omega
    have w3 : wrap64 (a + 1 + 1 + 1) = a + 1 + 1 + 1 := by unfold wrap64; omega
    obtain ⟨r, y, hr, h⟩ := ih ((((x.set i ⟨a, (rd_T29 x (i : Int)).f1, (rd_T29 x (i : Int)).f2⟩).set i ⟨(rd_T29 (x.set i ⟨a, (rd_T29 x (i : Int)).f1, (rd_T29 x (i : Int)).f2⟩) (i : Int)).f0, a + 1, (rd_T29 (x.set i ⟨a, (rd_T29 x (i : Int)).f1, (rd_T29 x (i : Int)).f2⟩) (i : Int)).f2⟩).set i ⟨(rd_T29 ((x.set i ⟨a, (rd_T29 x (i : Int)).f1, (rd_T29 x (i : Int)).f2⟩).set i ⟨(rd_T29 (x.set i ⟨a, (rd_T29 x (i : Int)).f1, (rd_T29 x (i : Int)).f2⟩) (i : Int)).f0, a + 1, (rd_T29 (x.set i ⟨a, (rd_T29 x (i : Int)).f1, (rd_T29 x (i : Int)).f2⟩) (i : Int)).f2⟩) (i : Int)).f0, (rd_T29 ((x.set i ⟨a, (rd_T29 x (i : Int)).f1, (rd_T29 x (i : Int)).f2⟩).set i ⟨(rd_T29 (x.set i ⟨a, (rd_T29 x (i : Int)).f1, (rd_T29 x (i : Int)).f2⟩) (i : Int)).f0, a + 1, (rd_T29 (x.set i ⟨a, (rd_T29 x (i : Int)).f1, (rd_T29 x (i : Int)).f2⟩) (i : Int)).f2⟩) (i : Int)).f1, a + 1 + 1⟩)) (i + 1) (a + 1 + 1 + 1) (by simp only [List.length_set]; exact hl) (by simp only [List.length_set]; omega) (by omega) (by omega)
    refine ⟨r, y, hr, Ev.step (f := _) (fun k => ?_) h⟩
    simp only [laws_markSayS.l0]
    rw [if_pos (by omega), if_pos (by omega)]
    simp only [Option.bind_some, w1, w2, w3, hw, Int.toNat_natCast]
theorem markSayS_eq (x : List S29) (hl : x.length ≤ 1048576) : ∃ r y, 0 ≤ r ∧ Ev (fun k => laws_markSayS.f k x 1) (r, y) := markSayS_ev x.length x 0 1 hl (by omega) (by omega) (by omega)
theorem eqIntS4 {x : List Int} (hx : x.length = 4) : Ev (fun k => laws_eqIntS.f k x x) true := by
  unfold laws_eqIntS.f
  simp only [if_true]
  have go : ∀ (n i : Nat), i + n = x.length → Ev (fun k => laws_eqIntS.l0 k x x (i : Int)) true := by
    intro n
    induction n with
    | zero =>
      intro i hi
      refine ev1 fun k => ?_
      simp only [laws_eqIntS.l0]
      rw [if_neg (by omega)]
    | succ n ih =>
      intro i hi
      have hw : wrap64 ((i : Int) + 1) = ((i + 1 : Nat) : Int) := by unfold wrap64; omega
      refine Ev.step (f := fun k => laws_eqIntS.l0 k x x ((i + 1 : Nat) : Int)) (fun k => ?_) (ih (i + 1) (by omega))
      simp only [laws_eqIntS.l0]
      rw [if_pos (by omega), if_pos (by omega), if_pos (by omega), if_pos trivial, hw]
  exact go x.length 0 (by omega)
theorem rdL2_get (l : List (List Int)) (i : Nat) (h : i < l.length) : rd_L2 l (i : Int) = l[i] := by
  unfold rd_L2
  rw [List.getD_eq_getElem?_getD, Int.toNat_natCast, List.getElem?_eq_getElem h]
  rfl
theorem eqIntSS_self (o : List (List Int)) (hl : o.length ≤ 1048576) (h4 : ∀ x ∈ o, x.length = 4) : Ev (fun k => laws_eqIntSS.f k o o) true := by
  unfold laws_eqIntSS.f
  simp only [if_true]
  have go : ∀ (n i : Nat), i + n = o.length → Ev (fun k => laws_eqIntSS.l0 k o o (i : Int)) true := by
    intro n
    induction n with
    | zero =>
      intro i hi
      refine ev1 fun k => ?_
      simp only [laws_eqIntSS.l0]
      rw [if_neg (by omega)]
    | succ n ih =>
      intro i hi
      have hlt : i < o.length := by omega
      have hw : wrap64 ((i : Int) + 1) = ((i + 1 : Nat) : Int) := by unfold wrap64; omega
      have hb : Ev (fun k => (laws_eqIntS.f k o[i] o[i]).bind fun t502 => if t502 = true then laws_eqIntSS.l0 k o o ((i + 1 : Nat) : Int) else some false) true := Ev.bind (eqIntS4 (h4 _ (List.getElem_mem hlt))) (by simp only [if_true]; exact ih (i + 1) (by omega))
      refine Ev.step (f := _) (fun k => ?_) hb
      simp only [laws_eqIntSS.l0]
      rw [if_pos (by omega), if_pos (by omega), if_pos (by omega), rdL2_get o i hlt, hw]
  exact go o.length 0 (by omega)
/-- Four numbers, one after the other. -/
def mk4 (a : Int) : List Int := [a, a + 1, a + 2, a + 3]
theorem markIntS4 (x : List Int) (hx : x.length = 4) (a : Int) (h0 : 0 ≤ a) (h1 : a ≤ 100000000) : laws_markIntS.f 5 x a = some (a + 4, mk4 a) := by
  match x, hx with
  | [p, q, r, s], _ =>
    have w1 : wrap64 (a + 1) = a + 1 := by unfold wrap64; omega
    have w2 : wrap64 (a + 1 + 1) = a + 2 := by unfold wrap64; omega
    have w3 : wrap64 (a + 2 + 1) = a + 3 := by unfold wrap64; omega
    have w4 : wrap64 (a + 3 + 1) = a + 4 := by unfold wrap64; omega
    have v1 : wrap64 1 = 1 := by unfold wrap64; omega
    have v2 : wrap64 2 = 2 := by unfold wrap64; omega
    have v3 : wrap64 3 = 3 := by unfold wrap64; omega
    have v4 : wrap64 4 = 4 := by unfold wrap64; omega
    unfold laws_markIntS.f mk4
    simp [laws_markIntS.l0, w1, w2, w3, w4, v1, v2, v3, v4]
theorem heldIntS4 (a : Int) (h0 : 0 ≤ a) (h1 : a ≤ 100000000) : Ev (fun k => laws_heldIntS.f k (mk4 a) a) (a + 4) := by
  have w1 : wrap64 (a + 1) = a + 1 := by unfold wrap64; omega
  have w2 : wrap64 (a + 1 + 1) = a + 2 := by unfold wrap64; omega
  have w3 : wrap64 (a + 2 + 1) = a + 3 := by unfold wrap64; omega
  have w4 : wrap64 (a + 3 + 1) = a + 4 := by unfold wrap64; omega
  have v1 : wrap64 1 = 1 := by unfold wrap64; omega
  have v2 : wrap64 2 = 2 := by unfold wrap64; omega
  have v3 : wrap64 3 = 3 := by unfold wrap64; omega
  have v4 : wrap64 4 = 4 := by unfold wrap64; omega
  refine ⟨5, fun k hk => ?_⟩
  obtain ⟨j, rfl⟩ : ∃ j, k = j + 5 := ⟨k - 5, by omega⟩
  show laws_heldIntS.f (j + 5) (mk4 a) a = some (a + 4)
  have r0 : rd [a, a + 1, a + 2, a + 3] 0 = a := rfl
  have r1 : rd [a, a + 1, a + 2, a + 3] 1 = a + 1 := rfl
  have r2 : rd [a, a + 1, a + 2, a + 3] 2 = a + 2 := rfl
  have r3 : rd [a, a + 1, a + 2, a + 3] 3 = a + 3 := rfl
  unfold laws_heldIntS.f mk4
  simp [laws_heldIntS.l0, w1, w2, w3, w4, v1, v2, v3, v4, r0, r1, r2, r3]
/-- Rows marked one after the other. -/
def markN (o : List (List Int)) : Nat → List (List Int)
  | 0 => o
  | i + 1 => (markN o i).set i (mk4 (1 + 4 * (i : Int)))
theorem markN_len (o : List (List Int)) : ∀ i, (markN o i).length = o.length
  | 0 => rfl
  | i + 1 => by rw [markN, List.length_set, markN_len o i]
theorem markN_at (o : List (List Int)) : ∀ (i j : Nat), j < o.length → rd_L2 (markN o i) (j : Int) = if j < i then mk4 (1 + 4 * (j : Int)) else rd_L2 o (j : Int)
  | 0, j, _ => by rw [if_neg (by omega)]; rfl
  | i + 1, j, hj => by
    have ih := markN_at o i j hj
    have hl := markN_len o i
    unfold rd_L2 at ih ⊢
    rw [List.getD_eq_getElem?_getD, Int.toNat_natCast] at ih ⊢
    rw [markN]
    by_cases e : j = i
    · subst e
      rw [List.getElem?_set_self (by omega), if_pos (by omega)]
      rfl
    · rw [List.getElem?_set_ne (fun h => e h.symm), ih]
      by_cases h : j < i
      · rw [if_pos h, if_pos (by omega)]
      · rw [if_neg h, if_neg (by omega)]
theorem heldIntSS_mark (o : List (List Int)) (hl : o.length ≤ 1048576) : Ev (fun k => laws_heldIntSS.f k (markN o o.length) 1) (1 + 4 * (o.length : Int)) := by
  have hm := markN_len o o.length
  have go : ∀ (n i : Nat), i + n = o.length → Ev (fun k => laws_heldIntSS.l0 k (markN o o.length) (1 + 4 * (i : Int)) (i : Int)) (1 + 4 * (o.length : Int)) := by
    intro n
    induction n with
    | zero =>
      intro i hi
      refine ev1 fun k => ?_
      simp only [laws_heldIntSS.l0]
      rw [if_neg (by omega), show i = o.length by omega]
    | succ n ih =>
      intro i hi
      have hlt : i < o.length := by omega
      have hw : wrap64 ((i : Int) + 1) = ((i + 1 : Nat) : Int) := by unfold wrap64; omega
      have hb : Ev (fun k => (laws_heldIntS.f k (mk4 (1 + 4 * (i : Int))) (1 + 4 * (i : Int))).bind fun t510 => if t510 < 0 then some (-1) else laws_heldIntSS.l0 k (markN o o.length) t510 ((i + 1 : Nat) : Int)) (1 + 4 * (o.length : Int)) := by
        refine Ev.bind (heldIntS4 _ (by omega) (by omega)) ?_
        simp only [if_neg (show ¬ (1 + 4 * (i : Int) + 4 < 0) by omega)]
        have := ih (i + 1) (by omega)
        rw [show 1 + 4 * (i : Int) + 4 = 1 + 4 * ((i + 1 : Nat) : Int) by omega]
        exact this
      refine Ev.step (f := _) (fun k => ?_) hb
      simp only [laws_heldIntSS.l0]
      rw [if_pos (by omega), if_pos (by omega), markN_at o o.length i hlt, if_pos hlt, hw]
  exact go o.length 0 (by omega)
end Go.Proofs.Ytmbninbecclbiaa.Sem

end
