/- Words printed by the print tool, the unused ones left out, merged into one text by mergew.py. -/
import Derived.Laws.BitsLemmas
import Derived.Test.YtmbninbecclbiaaPAx1
import Derived.KernelRfl
import Derived.Test.YtmbninbecclbiaaPAx17
import Derived.Test.YtmbninbecclbiaaManA
import Derived.Test.YtmbninbecclbiaaPAx18
import Derived.Test.YtmbninbecclbiaaPAx15
import Derived.Test.YtmbninbecclbiaaPAx2
import Derived.Test.YtmbninbecclbiaaPAx3
import Derived.Test.YtmbninbecclbiaaPAx9
import Derived.Test.YtmbninbecclbiaaPAx19
import Derived.Test.YtmbninbecclbiaaPAx16
section
/- Small words on numbers and rounds; no condition but the bounds that they name. -/
namespace Go.Proofs.Ytmbninbecclbiaa.Sem
open Go.RowKit Go.Proofs.Ytmbninbecclbiaa.PA Go.Proofs.YtmbninbecclbiaaW.PrintWords Go.Proofs.YtmbninbecclbiaaW.PrintLast Go.Proofs.YtmbninbecclbiaaW.PrintMore
set_option linter.unusedVariables false
set_option linter.unusedSimpArgs false

theorem w64 {n : Int} (h : -9223372036854775808 ≤ n) (h' : n ≤ 9223372036854775807) : wrap64 n = n := by unfold wrap64; omega

theorem ev1 {α : Type} {g : Nat → Option α} {x : α} (h : ∀ k, g (k + 1) = some x) : Ev g x := ⟨1, fun k hk => by
  obtain ⟨j, rfl⟩ : ∃ j, k = j + 1 := ⟨k - 1, by omega⟩
  exact h j⟩

theorem l1In_eq (n a b : Int) : spec_l1In.f n a b = some (decide (a ≤ n ∧ n ≤ b)) := by
  unfold spec_l1In.f
  by_cases h : n ≥ a
  · rw [if_pos h]; simp; omega
  · rw [if_neg h]; simp; omega
theorem set_mid {α : Type} (p : List α) (z v : α) (r : List α) (i : Nat) (h : p.length = i) : (p ++ z :: r).set i v = p ++ v :: r := by
  subst h
  rw [List.set_append, if_neg (by omega), Nat.sub_self]
  rfl
theorem rd_at (l : List Int) (i : Nat) (h : i < l.length) : rd l (i : Int) = l[i] := by
  unfold rd
  rw [List.getD_eq_getElem?_getD, Int.toNat_natCast, List.getElem?_eq_getElem h]
  rfl
end Go.Proofs.Ytmbninbecclbiaa.Sem

end
section
/- Things of a sort of a term: both programs' test, in plain words; for eight sorts and six terms. -/
namespace Go.Proofs.Ytmbninbecclbiaa.Sem
open Go.RowKit Go.Proofs.Ytmbninbecclbiaa.PA Go.Proofs.YtmbninbecclbiaaW.PrintWords Go.Proofs.YtmbninbecclbiaaW.PrintLast Go.Proofs.YtmbninbecclbiaaW.PrintMore
set_option linter.unusedVariables false
set_option linter.unusedSimpArgs false

/-- Are things of a sort of a term? -/
def isB (s t : Nat) : Bool := (s / 2 ^ (t / 2)) % 2 != t % 2
end Go.Proofs.Ytmbninbecclbiaa.Sem

end
section
/- Rows of weights, sums of products, minors, in plain words; no condition but the bounds that they name. -/
namespace Go.Proofs.Ytmbninbecclbiaa.Sem
open Go.RowKit Go.Proofs.Ytmbninbecclbiaa.PA Go.Proofs.YtmbninbecclbiaaW.PrintWords Go.Proofs.YtmbninbecclbiaaW.PrintLast Go.Proofs.YtmbninbecclbiaaW.PrintMore
set_option linter.unusedVariables false
set_option linter.unusedSimpArgs false

def bit (b : Bool) : Int := if b = true then 1 else 0
/-- How much a sort counts for what a sentence compares with 0. -/
def wt (f : Nat) (a b : Int) : Int := if f = 0 then a * (b - 1) else if f = 1 then a * b else if f = 2 then a - b else if f = 3 then a - b else if f = 4 then 2 * a * b - a else a - 2 * a * b
def rowL (f o t : Nat) : List Int := (List.range 4).map fun s => wt f (bit (isB s o)) (bit (isB s t))
def strictB (f : Nat) : Bool := f == 1 || (f == 3 || f == 4)
theorem impl_row_all : ((List.range 6).all fun f => (List.range 4).all fun o => (List.range 4).all fun t => decide (impl_weightsOf.f 40 f o t = some (rowL f o t))) = true := by kernel_rfl
theorem impl_row40 (f o t : Nat) (hf : f < 6) (ho : o < 4) (ht : t < 4) : impl_weightsOf.f 40 f o t = some (rowL f o t) :=
  of_decide_eq_true (List.all_eq_true.1 (List.all_eq_true.1 (List.all_eq_true.1 impl_row_all f (List.mem_range.2 hf)) o (List.mem_range.2 ho)) t (List.mem_range.2 ht))
theorem row_len (f o t : Nat) : (rowL f o t).length = 4 := by unfold rowL; simp
theorem wt_one (f : Nat) (b c : Bool) : -1 ≤ wt f (bit b) (bit c) ∧ wt f (bit b) (bit c) ≤ 1 := by
  unfold wt bit
  cases b <;> cases c <;> simp <;> (repeat' split) <;> omega
theorem row_one (f o t : Nat) : ∀ x ∈ rowL f o t, -1 ≤ x ∧ x ≤ 1 := by
  intro x hx
  unfold rowL at hx
  obtain ⟨s, _, rfl⟩ := List.mem_map.1 hx
  exact wt_one f _ _
/-- The sum of products. -/
def dotL : List Int → List Int → Int
  | a :: xs, b :: ys => a * b + dotL xs ys
  | _, _ => 0
theorem mul_bound {a b : Int} (ha : -1000000 ≤ a ∧ a ≤ 1000000) (hb : -2 ≤ b ∧ b ≤ 2) : -2000000 ≤ a * b ∧ a * b ≤ 2000000 := by
  have h1 : b = -2 ∨ b = -1 ∨ b = 0 ∨ b = 1 ∨ b = 2 := by omega
  rcases h1 with rfl | rfl | rfl | rfl | rfl <;> omega
theorem weighed_from (r l : List Int) (hlen : r.length = l.length) (hl : l.length ≤ 100) (hr : ∀ x ∈ r, -2 ≤ x ∧ x ≤ 2) (hx : ∀ x ∈ l, -1000000 ≤ x ∧ x ≤ 1000000) (n : Nat) : ∀ (i : Nat) (s : Int) (k : Nat), i + n = l.length → -2000000 * (i : Int) ≤ s → s ≤ 2000000 * (i : Int) → n < k →
    impl_weighed.l0 k r s l (l.length : Int) (i : Int) = some (s + dotL (l.drop i) (r.drop i)) := by
  induction n with
  | zero =>
    intro i s k hi h1 h2 hk
    obtain ⟨k, rfl⟩ : ∃ m, k = m + 1 := ⟨k - 1, by omega⟩
    rw [List.drop_of_length_le (by omega), show dotL [] (r.drop i) = 0 by unfold dotL; rfl, Int.add_zero]
    simp only [impl_weighed.l0]
    rw [if_neg (by omega)]
  | succ n ih =>
    intro i s k hi h1 h2 hk
    obtain ⟨k, rfl⟩ : ∃ m, k = m + 1 := ⟨k - 1, by omega⟩
    have hlt : i < l.length := by omega
    have hlr : i < r.length := by omega
    have b1 := hr r[i] (List.getElem_mem hlr)
    have b2 := hx l[i] (List.getElem_mem hlt)
    have hb := mul_bound b2 b1
    have hw : wrap64 ((i : Int) + 1) = ((i + 1 : Nat) : Int) := by unfold wrap64; omega
    rw [List.drop_eq_getElem_cons hlt, List.drop_eq_getElem_cons hlr, dotL]
    have ih := ih (i + 1) (s + l[i] * r[i]) k (by omega) (by omega) (by omega) (by omega)
    rw [show s + (l[i] * r[i] + dotL (l.drop (i + 1)) (r.drop (i + 1))) = s + l[i] * r[i] + dotL (l.drop (i + 1)) (r.drop (i + 1)) by omega]
    simp only [impl_weighed.l0]
    rw [if_pos (by omega), if_pos (by omega), if_pos (by omega), if_pos (by omega), rd_at r i hlr, rd_at l i hlt, w64 (n := l[i] * r[i]) (by omega) (by omega), w64 (by omega) (by omega), hw]
    exact ih
theorem weighed4 (l r : List Int) (hl : l.length = 4) (hr : r.length = 4) (bl : ∀ x ∈ l, -1000000 ≤ x ∧ x ≤ 1000000) (br : ∀ x ∈ r, -2 ≤ x ∧ x ≤ 2) : impl_weighed.f 5 l r = some (dotL l r) := by
  unfold impl_weighed.f
  have := weighed_from r l (by omega) (by omega) br bl 4 0 0 5 (by omega) (by omega) (by omega) (by omega)
  simpa using this
theorem mul_one_bound {a b m : Int} (ha : -1 ≤ a ∧ a ≤ 1) (hb : -m ≤ b ∧ b ≤ m) : -m ≤ a * b ∧ a * b ≤ m := by
  have h1 : a = -1 ∨ a = 0 ∨ a = 1 := by omega
  rcases h1 with rfl | rfl | rfl <;> omega
/-- The determinant. -/
def det (a b c d e f g h i : Int) : Int := a * (e * i - f * h) - b * (d * i - f * g) + c * (d * h - e * g)
theorem detW_eq {a b c d e f g h i : Int} (ha : -1 ≤ a ∧ a ≤ 1) (hb : -1 ≤ b ∧ b ≤ 1) (hc : -1 ≤ c ∧ c ≤ 1) (hd : -1 ≤ d ∧ d ≤ 1) (he : -1 ≤ e ∧ e ≤ 1) (hf : -1 ≤ f ∧ f ≤ 1) (hg : -1 ≤ g ∧ g ≤ 1) (hh : -1 ≤ h ∧ h ≤ 1) (hi : -1 ≤ i ∧ i ≤ 1) :
    Man.detW a b c d e f g h i = det a b c d e f g h i ∧ -6 ≤ det a b c d e f g h i ∧ det a b c d e f g h i ≤ 6 := by
  have m1 := mul_one_bound he hi
  have m2 := mul_one_bound hf hh
  have m3 := mul_one_bound hd hi
  have m4 := mul_one_bound hf hg
  have m5 := mul_one_bound hd hh
  have m6 := mul_one_bound he hg
  unfold Man.detW det
  rw [w64 (n := e * i) (by omega) (by omega), w64 (n := f * h) (by omega) (by omega), w64 (n := d * i) (by omega) (by omega), w64 (n := f * g) (by omega) (by omega), w64 (n := d * h) (by omega) (by omega), w64 (n := e * g) (by omega) (by omega)]
  rw [w64 (n := e * i - f * h) (by omega) (by omega), w64 (n := d * i - f * g) (by omega) (by omega), w64 (n := d * h - e * g) (by omega) (by omega)]
  have n1 := mul_one_bound (m := 2) (b := e * i - f * h) ha (by omega)
  have n2 := mul_one_bound (m := 2) (b := d * i - f * g) hb (by omega)
  have n3 := mul_one_bound (m := 2) (b := d * h - e * g) hc (by omega)
  generalize a * (e * i - f * h) = x at *
  generalize b * (d * i - f * g) = y at *
  generalize c * (d * h - e * g) = z at *
  rw [w64 (n := x) (by omega) (by omega), w64 (n := y) (by omega) (by omega), w64 (n := z) (by omega) (by omega), w64 (n := x - y) (by omega) (by omega), w64 (by omega) (by omega)]
  exact ⟨rfl, by omega, by omega⟩
/-- A row of four. -/
def Four (l : List Int) : Prop := l.length = 4 ∧ ∀ x ∈ l, -1 ≤ x ∧ x ≤ 1
theorem four_form {l : List Int} (h : Four l) : ∃ a b c d : Int, l = [a, b, c, d] ∧ (-1 ≤ a ∧ a ≤ 1) ∧ (-1 ≤ b ∧ b ≤ 1) ∧ (-1 ≤ c ∧ c ≤ 1) ∧ (-1 ≤ d ∧ d ≤ 1) := by
  obtain ⟨hl, hb⟩ := h
  match l, hl with
  | [a, b, c, d], _ => exact ⟨a, b, c, d, rfl, hb a (by simp), hb b (by simp), hb c (by simp), hb d (by simp)⟩
theorem ml_bound {a b c : List Int} (ha : Four a) (hb : Four b) (hc : Four c) : ∀ i, i < 4 → -6 ≤ Man.ml a b c i ∧ Man.ml a b c i ≤ 6 := by
  obtain ⟨a0, a1, a2, a3, rfl, h0, h1, h2, h3⟩ := four_form ha
  obtain ⟨b0, b1, b2, b3, rfl, i0, i1, i2, i3⟩ := four_form hb
  obtain ⟨c0, c1, c2, c3, rfl, j0, j1, j2, j3⟩ := four_form hc
  intro i hi
  have e : i = 0 ∨ i = 1 ∨ i = 2 ∨ i = 3 := by omega
  rcases e with rfl | rfl | rfl | rfl
  · have := detW_eq h1 h2 h3 i1 i2 i3 j1 j2 j3
    show -6 ≤ Man.detW a1 a2 a3 b1 b2 b3 c1 c2 c3 ∧ Man.detW a1 a2 a3 b1 b2 b3 c1 c2 c3 ≤ 6
    rw [this.1]; exact this.2
  · have := detW_eq h0 h2 h3 i0 i2 i3 j0 j2 j3
    show -6 ≤ Man.detW a0 a2 a3 b0 b2 b3 c0 c2 c3 ∧ Man.detW a0 a2 a3 b0 b2 b3 c0 c2 c3 ≤ 6
    rw [this.1]; exact this.2
  · have := detW_eq h0 h1 h3 i0 i1 i3 j0 j1 j3
    show -6 ≤ Man.detW a0 a1 a3 b0 b1 b3 c0 c1 c3 ∧ Man.detW a0 a1 a3 b0 b1 b3 c0 c1 c3 ≤ 6
    rw [this.1]; exact this.2
  · have := detW_eq h0 h1 h2 i0 i1 i2 j0 j1 j2
    show -6 ≤ Man.detW a0 a1 a2 b0 b1 b2 c0 c1 c2 ∧ Man.detW a0 a1 a2 b0 b1 b2 c0 c1 c2 ≤ 6
    rw [this.1]; exact this.2
/-- The line's numbers are small. -/
theorem ol_bound (m : Nat → Int) (h : ∀ i, i < 4 → -6 ≤ m i ∧ m i ≤ 6) : ∀ x ∈ Man.lineL m, -6 ≤ x ∧ x ≤ 6 := by
  have hv : ∀ i, i < 4 → -6 ≤ Man.vl m i ∧ Man.vl m i ≤ 6 := fun i hi => by
    have := h i hi
    unfold Man.vl
    rcases (Man.sg_two i).1 with e | e <;> rw [e] <;> omega
  have ht : ∀ x D : Int, -6 ≤ x ∧ x ≤ 6 → -6 ≤ Int.tdiv x D ∧ Int.tdiv x D ≤ 6 := fun x D hx => by
    have h1 := Int.natAbs_tdiv x D
    have h2 := Nat.div_le_self x.natAbs D.natAbs
    have h4 : (Int.tdiv x D).natAbs ≤ x.natAbs := by rw [h1]; exact h2
    clear h1 h2
    omega
  unfold Man.lineL
  split
  · intro x hx; cases hx
  · split
    · intro x hx; cases hx
    · intro x hx
      unfold Man.ol at hx
      obtain ⟨y, hy, rfl⟩ := List.mem_map.1 hx
      apply ht
      have : y = Man.vl m 0 ∨ y = Man.vl m 1 ∨ y = Man.vl m 2 ∨ y = Man.vl m 3 := by
        have h4 : Man.pl m 4 = [Man.vl m 0, Man.vl m 1, Man.vl m 2, Man.vl m 3] := rfl
        rw [h4] at hy
        simpa using hy
      rcases this with e | e | e | e <;> rw [e] <;> exact hv _ (by omega)
end Go.Proofs.Ytmbninbecclbiaa.Sem

end
section
/- Which sentences compare numbers, in plain words; no condition. -/
namespace Go.Proofs.Ytmbninbecclbiaa.Sem
open Go.RowKit Go.Proofs.Ytmbninbecclbiaa.PA Go.Proofs.YtmbninbecclbiaaW.PrintWords Go.Proofs.YtmbninbecclbiaaW.PrintLast Go.Proofs.YtmbninbecclbiaaW.PrintMore
set_option linter.unusedVariables false
set_option linter.unusedSimpArgs false

def OkWeigh (f o t : Int) : Prop := 0 ≤ f ∧ f ≤ 5 ∧ 0 ≤ o ∧ o ≤ 3 ∧ 0 ≤ t ∧ t ≤ 3
instance (f o t : Int) : Decidable (OkWeigh f o t) := by unfold OkWeigh; infer_instance

theorem spec_WeighOk_eq (f o t : Int) : spec_WeighOk.f f o t = some (decide (OkWeigh f o t)) := by
  unfold spec_WeighOk.f OkWeigh
  simp only [l1In_eq, Option.bind_some, decide_eq_true_eq]
  by_cases h1 : 0 ≤ f ∧ f ≤ 5
  · rw [if_pos h1]
    by_cases h2 : 0 ≤ o ∧ o ≤ 3
    · rw [if_pos h2]; exact congrArg some (decide_eq_decide.mpr (by omega))
    · rw [if_neg h2]; exact congrArg some (decide_eq_false (by omega)).symm
  · rw [if_neg h1]; exact congrArg some (decide_eq_false (by omega)).symm

theorem impl_isWeigh_eq (f o t : Int) : impl_isWeigh.f f o t = some (decide (OkWeigh f o t)) := by
  unfold impl_isWeigh.f OkWeigh
  by_cases h1 : f ≥ 0
  · rw [if_pos h1]
    by_cases h2 : f ≤ 5
    · rw [if_pos h2]
      by_cases h3 : o ≥ 0
      · rw [if_pos h3]
        by_cases h4 : o ≤ 3
        · rw [if_pos h4]
          by_cases h5 : t ≥ 0
          · rw [if_pos h5]; exact congrArg some (decide_eq_decide.mpr (by omega))
          · rw [if_neg h5]; exact congrArg some (decide_eq_false (by omega)).symm
        · rw [if_neg h4]; exact congrArg some (decide_eq_false (by omega)).symm
      · rw [if_neg h3]; exact congrArg some (decide_eq_false (by omega)).symm
    · rw [if_neg h2]; exact congrArg some (decide_eq_false (by omega)).symm
  · rw [if_neg h1]; exact congrArg some (decide_eq_false (by omega)).symm

theorem weigh_nat {f o t : Int} (h : OkWeigh f o t) : ∃ f' o' t' : Nat, f = f' ∧ o = o' ∧ t = t' ∧ f' < 6 ∧ o' < 4 ∧ t' < 4 := by
  unfold OkWeigh at h
  exact ⟨f.toNat, o.toNat, t.toNat, by omega, by omega, by omega, by omega, by omega, by omega⟩

end Go.Proofs.Ytmbninbecclbiaa.Sem

end
section
/- Cones of rows in four dimensions: a strict row that is > 0 somewhere in the cone is > 0 at a corner. Plain maths, no program. -/
set_option linter.unusedVariables false
namespace Go.Proofs.Ytmbninbecclbiaa.Cone
structure V where
  a : Int
  b : Int
  c : Int
  d : Int
theorem V.ext {x y : V} (h0 : x.a = y.a) (h1 : x.b = y.b) (h2 : x.c = y.c) (h3 : x.d = y.d) : x = y := by
  cases x; cases y; cases h0; cases h1; cases h2; cases h3; rfl
def dot (x y : V) : Int := x.a * y.a + x.b * y.b + x.c * y.c + x.d * y.d
def mnr (x y z : V) : V :=
  ⟨x.b * (y.c * z.d - y.d * z.c) - x.c * (y.b * z.d - y.d * z.b) + x.d * (y.b * z.c - y.c * z.b),
   -(x.a * (y.c * z.d - y.d * z.c) - x.c * (y.a * z.d - y.d * z.a) + x.d * (y.a * z.c - y.c * z.a)),
   x.a * (y.b * z.d - y.d * z.b) - x.b * (y.a * z.d - y.d * z.a) + x.d * (y.a * z.b - y.b * z.a),
   -(x.a * (y.b * z.c - y.c * z.b) - x.b * (y.a * z.c - y.c * z.a) + x.c * (y.a * z.b - y.b * z.a))⟩
structure Par (x y : V) : Prop where
  ab : x.a * y.b = x.b * y.a
  ac : x.a * y.c = x.c * y.a
  ad : x.a * y.d = x.d * y.a
  bc : x.b * y.c = x.c * y.b
  bd : x.b * y.d = x.d * y.b
  cd : x.c * y.d = x.d * y.c
def Zero (x : V) : Prop := x.a = 0 ∧ x.b = 0 ∧ x.c = 0 ∧ x.d = 0
def e0 : V := ⟨1, 0, 0, 0⟩
def e1 : V := ⟨0, 1, 0, 0⟩
def e2 : V := ⟨0, 0, 1, 0⟩
def e3 : V := ⟨0, 0, 0, 1⟩
theorem dot_mnr0 (x y z : V) : dot x (mnr x y z) = 0 := by unfold dot mnr; grind
theorem dot_mnr1 (x y z : V) : dot y (mnr x y z) = 0 := by unfold dot mnr; grind
theorem dot_mnr2 (x y z : V) : dot z (mnr x y z) = 0 := by unfold dot mnr; grind
theorem par_ker {x y z v : V} (h0 : dot x v = 0) (h1 : dot y v = 0) (h2 : dot z v = 0) : Par (mnr x y z) v := by
  unfold dot at h0 h1 h2
  constructor <;> simp only [mnr]
  · have : ∀ p q r : Int, p * (x.a * v.a + x.b * v.b + x.c * v.c + x.d * v.d) = 0 := by intro p q r; rw [h0, Int.mul_zero]
    grind
  · grind
  · grind
  · grind
  · grind
  · grind
end Go.Proofs.Ytmbninbecclbiaa.Cone

namespace Go.Proofs.Ytmbninbecclbiaa.Cone
theorem dot_e0 (x : V) : dot e0 x = x.a := by unfold dot e0; grind
theorem dot_e1 (x : V) : dot e1 x = x.b := by unfold dot e1; grind
theorem dot_e2 (x : V) : dot e2 x = x.c := by unfold dot e2; grind
theorem dot_e3 (x : V) : dot e3 x = x.d := by unfold dot e3; grind
end Go.Proofs.Ytmbninbecclbiaa.Cone

end
section
/- WeighSo of both programs, in plain words: a sum of four products, held against 0; for rows of numbers. -/
namespace Go.Proofs.Ytmbninbecclbiaa.Sem
open Go.RowKit Go.Proofs.Ytmbninbecclbiaa.PA Go.Proofs.YtmbninbecclbiaaW.PrintWords Go.Proofs.YtmbninbecclbiaaW.PrintLast Go.Proofs.YtmbninbecclbiaaW.PrintMore
set_option linter.unusedVariables false
set_option linter.unusedSimpArgs false

theorem countsSpec_from (l : List Int) (hl : l.length ≤ 1048577) (n : Nat) : ∀ i, i + n = l.length →
    Ev (fun k => spec_CountsOk.l0 k l (i : Int)) ((l.drop i).all Man.cntB && decide (l.length = 4)) := by
  induction n with
  | zero =>
    intro i hi
    rw [List.drop_of_length_le (by omega)]
    refine Ev.step (f := fun _ => some (decide (l.length = 4))) (fun k => ?_) ?_
    · simp only [spec_CountsOk.l0]
      rw [if_neg (by omega)]
      congr 1
      rw [Bool.eq_iff_iff]
      simp
      omega
    · simp only [List.all_nil, Bool.true_and]
      exact Ev.now _
  | succ n ih =>
    intro i hi
    have hlt : i < l.length := by omega
    have hw : wrap64 ((i : Int) + 1) = ((i + 1 : Nat) : Int) := by unfold wrap64; omega
    rw [List.drop_eq_getElem_cons hlt, List.all_cons]
    refine Ev.step (f := fun k => if Man.cntB l[i] = true then spec_CountsOk.l0 k l ((i + 1 : Nat) : Int) else some false) (fun k => ?_) ?_
    · simp only [spec_CountsOk.l0]
      rw [if_pos (by omega), if_pos (by omega), rd_at l i hlt, l1In_eq, Option.bind_some, hw]
      rfl
    · cases Man.cntB l[i] with
      | true => simp only [if_true, Bool.true_and]; exact ih (i + 1) (by omega)
      | false => simp only [Bool.false_eq_true, if_false, Bool.false_and]; exact Ev.now _

theorem spec_CountsOk_eq (l : List Int) (hl : l.length ≤ 1048577) : Ev (fun k => spec_CountsOk.f k l) (Man.countsB l) := by
  have h := countsSpec_from l hl l.length 0 (by omega)
  have e : Man.countsB l = ((l.drop 0).all Man.cntB && decide (l.length = 4)) := by
    unfold Man.countsB
    rw [List.drop_zero, Bool.and_comm]
  rw [e]
  exact h

theorem spec_row_all : ((List.range 6).all fun f => (List.range 4).all fun o => (List.range 4).all fun t => decide (spec_l6Row.f 40 f o t = some (rowL f o t, strictB f))) = true := by kernel_rfl
theorem impl_row (f o t : Nat) (hf : f < 6) (ho : o < 4) (ht : t < 4) : Ev (fun k => impl_weightsOf.f k f o t) (rowL f o t) :=
  Ev.of (fun k => impl_weightsOf.mono _ _ _ k) (of_decide_eq_true (List.all_eq_true.1 (List.all_eq_true.1 (List.all_eq_true.1 impl_row_all f (List.mem_range.2 hf)) o (List.mem_range.2 ho)) t (List.mem_range.2 ht)))
theorem spec_row (f o t : Nat) (hf : f < 6) (ho : o < 4) (ht : t < 4) : Ev (fun k => spec_l6Row.f k f o t) (rowL f o t, strictB f) :=
  Ev.of (fun k => spec_l6Row.mono _ _ _ k) (of_decide_eq_true (List.all_eq_true.1 (List.all_eq_true.1 (List.all_eq_true.1 spec_row_all f (List.mem_range.2 hf)) o (List.mem_range.2 ho)) t (List.mem_range.2 ht)))
theorem impl_strict (f o t : Nat) (hf : f < 6) : impl_isStrict.f f o t = some (strictB f) := by
  unfold impl_isStrict.f strictB
  have : f = 0 ∨ f = 1 ∨ f = 2 ∨ f = 3 ∨ f = 4 ∨ f = 5 := by omega
  rcases this with rfl | rfl | rfl | rfl | rfl | rfl <;> rfl

theorem wt_bound (f : Nat) (b c : Bool) : -2 ≤ wt f (bit b) (bit c) ∧ wt f (bit b) (bit c) ≤ 2 := by
  unfold wt bit
  cases b <;> cases c <;> simp <;> (repeat' split) <;> omega
theorem row_bound (f o t : Nat) : ∀ x ∈ rowL f o t, -2 ≤ x ∧ x ≤ 2 := by
  intro x hx
  unfold rowL at hx
  obtain ⟨s, _, rfl⟩ := List.mem_map.1 hx
  exact wt_bound f _ _

theorem spec_dot_from (r l : List Int) (hlen : r.length = l.length) (hl : l.length ≤ 100) (hr : ∀ x ∈ r, -2 ≤ x ∧ x ≤ 2) (hx : ∀ x ∈ l, -1000000 ≤ x ∧ x ≤ 1000000) (n : Nat) : ∀ (i : Nat) (s : Int), i + n = l.length → -2000000 * (i : Int) ≤ s → s ≤ 2000000 * (i : Int) →
    Ev (fun k => spec_l6Dot.l0 k r l s (i : Int)) (s + dotL (l.drop i) (r.drop i)) := by
  induction n with
  | zero =>
    intro i s hi h1 h2
    rw [List.drop_of_length_le (by omega), show dotL [] (r.drop i) = 0 by unfold dotL; rfl, Int.add_zero]
    refine Ev.step (f := fun _ => some s) (fun k => ?_) (Ev.now _)
    simp only [spec_l6Dot.l0]
    rw [if_neg (by omega)]
  | succ n ih =>
    intro i s hi h1 h2
    have hlt : i < l.length := by omega
    have hlr : i < r.length := by omega
    have b1 := hr r[i] (List.getElem_mem hlr)
    have b2 := hx l[i] (List.getElem_mem hlt)
    have hb := mul_bound b2 b1
    rw [Int.mul_comm] at hb
    have hw : wrap64 ((i : Int) + 1) = ((i + 1 : Nat) : Int) := by unfold wrap64; omega
    rw [List.drop_eq_getElem_cons hlt, List.drop_eq_getElem_cons hlr, dotL]
    have ih := ih (i + 1) (s + r[i] * l[i]) (by omega) (by omega) (by omega)
    rw [show s + (l[i] * r[i] + dotL (l.drop (i + 1)) (r.drop (i + 1))) = s + r[i] * l[i] + dotL (l.drop (i + 1)) (r.drop (i + 1)) by rw [Int.mul_comm l[i] r[i]]; omega]
    refine Ev.step (fun k => ?_) ih
    simp only [spec_l6Dot.l0]
    rw [if_pos (by omega), if_pos (by omega), if_pos (by omega), rd_at r i hlr, rd_at l i hlt, w64 (n := r[i] * l[i]) (by omega) (by omega), w64 (by omega) (by omega), hw]

theorem impl_dot_from (r l : List Int) (hlen : r.length = l.length) (hl : l.length ≤ 100) (hr : ∀ x ∈ r, -2 ≤ x ∧ x ≤ 2) (hx : ∀ x ∈ l, -1000000 ≤ x ∧ x ≤ 1000000) (n : Nat) : ∀ (i : Nat) (s : Int), i + n = l.length → -2000000 * (i : Int) ≤ s → s ≤ 2000000 * (i : Int) →
    Ev (fun k => impl_weighed.l0 k r s l (l.length : Int) (i : Int)) (s + dotL (l.drop i) (r.drop i)) := by
  induction n with
  | zero =>
    intro i s hi h1 h2
    rw [List.drop_of_length_le (by omega), show dotL [] (r.drop i) = 0 by unfold dotL; rfl, Int.add_zero]
    refine Ev.step (f := fun _ => some s) (fun k => ?_) (Ev.now _)
    simp only [impl_weighed.l0]
    rw [if_neg (by omega)]
  | succ n ih =>
    intro i s hi h1 h2
    have hlt : i < l.length := by omega
    have hlr : i < r.length := by omega
    have b1 := hr r[i] (List.getElem_mem hlr)
    have b2 := hx l[i] (List.getElem_mem hlt)
    have hb := mul_bound b2 b1
    have hw : wrap64 ((i : Int) + 1) = ((i + 1 : Nat) : Int) := by unfold wrap64; omega
    rw [List.drop_eq_getElem_cons hlt, List.drop_eq_getElem_cons hlr, dotL]
    have ih := ih (i + 1) (s + l[i] * r[i]) (by omega) (by omega) (by omega)
    rw [show s + (l[i] * r[i] + dotL (l.drop (i + 1)) (r.drop (i + 1))) = s + l[i] * r[i] + dotL (l.drop (i + 1)) (r.drop (i + 1)) by omega]
    refine Ev.step (fun k => ?_) ih
    simp only [impl_weighed.l0]
    rw [if_pos (by omega), if_pos (by omega), if_pos (by omega), if_pos (by omega), rd_at r i hlr, rd_at l i hlt, w64 (n := l[i] * r[i]) (by omega) (by omega), w64 (by omega) (by omega), hw]

/-- Is a sentence so for numbers? -/
def weighV (l : List Int) (f o t : Nat) : Bool := if strictB f = true then decide (0 < dotL l (rowL f o t)) else decide (0 ≤ dotL l (rowL f o t))
def weighSoB (l : List Int) (f o t : Int) : Bool := Man.countsB l && (decide (OkWeigh f o t) && weighV l f.toNat o.toNat t.toNat)

theorem counts_bound {l : List Int} (h : Man.countsB l = true) : l.length = 4 ∧ ∀ x ∈ l, 0 ≤ x ∧ x ≤ 99999 := by
  unfold Man.countsB at h
  simp only [Bool.and_eq_true, decide_eq_true_eq] at h
  refine ⟨h.1, fun x hx => ?_⟩
  have := List.all_eq_true.1 h.2 x hx
  unfold Man.cntB at this
  exact of_decide_eq_true this

theorem impl_weighSo_eq (l : List Int) (hl : l.length = 4) (hx : ∀ x ∈ l, -1000000 ≤ x ∧ x ≤ 1000000) (f o t : Nat) (hf : f < 6) (ho : o < 4) (ht : t < 4) : Ev (fun k => impl_weighSo.f k l f o t) (weighV l f o t) := by
  unfold impl_weighSo.f weighV
  refine Ev.bind (impl_row f o t hf ho ht) ?_
  have hd := impl_dot_from (rowL f o t) l (by rw [row_len, hl]) (by omega) (row_bound f o t) hx l.length 0 0 (by omega) (by omega) (by omega)
  rw [Int.zero_add, List.drop_zero, List.drop_zero] at hd
  refine Ev.bind (g := fun k => impl_weighed.f k l (rowL f o t)) hd ?_
  simp only [impl_strict f o t hf, Option.bind_some]
  cases strictB f <;> simp <;> exact Ev.now _

theorem spec_WeighSo_eq (l : List Int) (hl : l.length ≤ 1048577) (f o t : Int) : Ev (fun k => spec_WeighSo.f k l f o t) (weighSoB l f o t) := by
  unfold spec_WeighSo.f weighSoB
  refine Ev.bind (spec_CountsOk_eq l hl) ?_
  cases h : Man.countsB l with
  | false =>
    simp only [Bool.false_eq_true, if_false, Bool.false_and]
    exact ev1 (fun k => by simp only [spec_WeighSo.j0, if_true])
  | true =>
    simp only [if_true, Bool.true_and, spec_WeighOk_eq, Option.bind_some]
    by_cases hw : OkWeigh f o t
    · obtain ⟨f', o', t', rfl, rfl, rfl, hf, ho, ht⟩ := weigh_nat hw
      obtain ⟨h4, hx⟩ := counts_bound h
      simp only [decide_eq_true hw, Bool.not_true, Bool.true_and, Int.toNat_natCast]
      have hd := spec_dot_from (rowL f' o' t') l (by rw [row_len, h4]) (by omega) (row_bound f' o' t') (fun x hx' => by have := hx x hx'; omega) l.length 0 0 (by omega) (by omega) (by omega)
      rw [Int.zero_add, List.drop_zero, List.drop_zero] at hd
      refine Ev.step (f := fun k => (spec_l6Row.f k f' o' t').bind fun bt172 => ((spec_l6Dot.f k bt172.1 l).bind fun t176 => (if t176 > 0 then (some true) else (if t176 = 0 then (some (!bt172.2)) else (some false))))) (fun k => by simp only [spec_WeighSo.j0, Bool.false_eq_true, if_false]) (Ev.bind (spec_row f' o' t' hf ho ht) (Ev.bind (g := fun k => spec_l6Dot.f k (rowL f' o' t') l) hd ?_))
      unfold weighV
      by_cases h1 : dotL l (rowL f' o' t') > 0
      · simp only [if_pos h1, decide_eq_true (show 0 < dotL l (rowL f' o' t') from h1), decide_eq_true (show 0 ≤ dotL l (rowL f' o' t') by omega)]
        split <;> exact Ev.now _
      · simp only [if_neg h1, decide_eq_false (show ¬ 0 < dotL l (rowL f' o' t') by omega)]
        by_cases h2 : dotL l (rowL f' o' t') = 0
        · simp only [if_pos h2, decide_eq_true (show 0 ≤ dotL l (rowL f' o' t') by omega)]
          cases strictB f' <;> exact Ev.now _
        · simp only [if_neg h2, decide_eq_false (show ¬ 0 ≤ dotL l (rowL f' o' t') by omega)]
          cases strictB f' <;> exact Ev.now _
    · simp only [decide_eq_false hw, Bool.not_false, Bool.false_and]
      exact ev1 (fun k => by simp only [spec_WeighSo.j0, if_true])
end Go.Proofs.Ytmbninbecclbiaa.Sem

end
