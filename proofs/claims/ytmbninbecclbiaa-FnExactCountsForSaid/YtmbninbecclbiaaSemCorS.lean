/- The spec's corners are those of the loops over three bounds. -/
import Derived.Test.YtmbninbecclbiaaSemCor
import Derived.Test.YtmbninbecclbiaaManL6F
import Derived.Test.YtmbninbecclbiaaPAx6
import Derived.Test.YtmbninbecclbiaaPAx5
import Derived.Test.YtmbninbecclbiaaPAx3
namespace Go.Proofs.Ytmbninbecclbiaa.Cor
open Go.RowKit Go.Proofs.Ytmbninbecclbiaa.PA Go.Proofs.YtmbninbecclbiaaW.PrintWords Go.Proofs.YtmbninbecclbiaaW.PrintLast Go.Proofs.YtmbninbecclbiaaW.PrintMore
set_option linter.unusedVariables false
set_option linter.unusedSimpArgs false
open Cone (V dot mnr Zero Par)

/-- An answer at all depths from some depth on. -/
def Ev {α : Type} (f : Nat → Option α) (r : α) : Prop := ∃ K, ∀ k, K ≤ k → f k = some r
theorem Ev.one {α : Type} {f : Nat → Option α} {r : α} (h : ∀ k, f (k + 1) = some r) : Ev f r := ⟨1, fun k hk => by obtain ⟨j, rfl⟩ : ∃ j, k = j + 1 := ⟨k - 1, by omega⟩; exact h j⟩
theorem Ev.step {α : Type} {f g : Nat → Option α} {r : α} (h : Ev f r) (e : ∀ k, g (k + 1) = f k) : Ev g r := by
  obtain ⟨K, hK⟩ := h
  refine ⟨K + 1, fun k hk => ?_⟩
  obtain ⟨j, rfl⟩ : ∃ j, k = j + 1 := ⟨k - 1, by omega⟩
  rw [e]
  exact hK j (by omega)
theorem Ev.bind {α β : Type} {f : Nat → Option α} {h : Nat → α → Option β} {a : α} {r : β} (ha : Ev f a) (hr : Ev (fun k => h k a) r) : Ev (fun k => (f k).bind (h k)) r := by
  obtain ⟨K, hK⟩ := ha
  obtain ⟨L, hL⟩ := hr
  refine ⟨K + L, fun k hk => ?_⟩
  show (f k).bind (h k) = some r
  rw [hK k (by omega)]
  exact hL k (by omega)
theorem Ev.from {α : Type} {f : Nat → Option α} {r : α} (K : Nat) (h : ∀ k, K ≤ k → f k = some r) : Ev f r := ⟨K, h⟩
def Six (x : List Int) : Prop := x.length = 4 ∧ ∀ y ∈ x, -6 ≤ y ∧ y ≤ 6
theorem Six.form {x : List Int} (h : Six x) : ∃ a b c d : Int, x = [a, b, c, d] ∧ (-6 ≤ a ∧ a ≤ 6) ∧ (-6 ≤ b ∧ b ≤ 6) ∧ (-6 ≤ c ∧ c ≤ 6) ∧ (-6 ≤ d ∧ d ≤ 6) := by
  obtain ⟨hl, hb⟩ := h
  match x, hl with
  | [a, b, c, d], _ => exact ⟨a, b, c, d, rfl, hb a (by simp), hb b (by simp), hb c (by simp), hb d (by simp)⟩
theorem Six.mk4 {a b c d : Int} (h0 : -6 ≤ a ∧ a ≤ 6) (h1 : -6 ≤ b ∧ b ≤ 6) (h2 : -6 ≤ c ∧ c ≤ 6) (h3 : -6 ≤ d ∧ d ≤ 6) : Six [a, b, c, d] := by
  refine ⟨rfl, fun y hy => ?_⟩
  rcases (show y = a ∨ y = b ∨ y = c ∨ y = d by simpa using hy) with e | e | e | e <;> rw [e] <;> assumption
theorem Six.of_four {x : List Int} (h : Sem.Four x) : Six x := ⟨h.1, fun y hy => by have := h.2 y hy; omega⟩
theorem six_mul {a b : Int} (ha : -6 ≤ a ∧ a ≤ 6) (hb : -6 ≤ b ∧ b ≤ 6) : -36 ≤ a * b ∧ a * b ≤ 36 := by
  rcases (show b = -6 ∨ b = -5 ∨ b = -4 ∨ b = -3 ∨ b = -2 ∨ b = -1 ∨ b = 0 ∨ b = 1 ∨ b = 2 ∨ b = 3 ∨ b = 4 ∨ b = 5 ∨ b = 6 by omega) with rfl | rfl | rfl | rfl | rfl | rfl | rfl | rfl | rfl | rfl | rfl | rfl | rfl <;> omega
theorem dot_bound {x y : List Int} (hx : Six x) (hy : Six y) : -144 ≤ Sem.dotL x y ∧ Sem.dotL x y ≤ 144 := by
  obtain ⟨a, b, c, d, rfl, h0, h1, h2, h3⟩ := hx.form
  obtain ⟨e, f, g, h, rfl, i0, i1, i2, i3⟩ := hy.form
  have p0 := six_mul h0 i0
  have p1 := six_mul h1 i1
  have p2 := six_mul h2 i2
  have p3 := six_mul h3 i3
  show -144 ≤ a * e + (b * f + (c * g + (d * h + 0))) ∧ a * e + (b * f + (c * g + (d * h + 0))) ≤ 144
  omega
theorem dotS_from (x y : List Int) (hx : Six x) (hy : Six y) (n : Nat) : ∀ (i : Nat) (s : Int) (k : Nat), i + n = 4 → -36 * (i : Int) ≤ s → s ≤ 36 * (i : Int) → n < k →
    spec_l6Dot.l0 k x y s (i : Int) = some (s + Sem.dotL (x.drop i) (y.drop i)) := by
  have lx := hx.1
  have ly := hy.1
  induction n with
  | zero =>
    intro i s k hi h1 h2 hk
    obtain ⟨k, rfl⟩ : ∃ m, k = m + 1 := ⟨k - 1, by omega⟩
    rw [List.drop_of_length_le (show x.length ≤ i by omega), show Sem.dotL [] (y.drop i) = 0 by unfold Sem.dotL; rfl, Int.add_zero]
    simp only [spec_l6Dot.l0]
    rw [if_neg (by omega)]
  | succ n ih =>
    intro i s k hi h1 h2 hk
    obtain ⟨k, rfl⟩ : ∃ m, k = m + 1 := ⟨k - 1, by omega⟩
    have hlx : i < x.length := by omega
    have hly : i < y.length := by omega
    have hb := six_mul (hx.2 x[i] (List.getElem_mem hlx)) (hy.2 y[i] (List.getElem_mem hly))
    have hw : wrap64 ((i : Int) + 1) = ((i + 1 : Nat) : Int) := by unfold wrap64; omega
    rw [List.drop_eq_getElem_cons hlx, List.drop_eq_getElem_cons hly, Sem.dotL]
    have ih := ih (i + 1) (s + x[i] * y[i]) k (by omega) (by omega) (by omega) (by omega)
    rw [← Int.add_assoc]
    simp only [spec_l6Dot.l0]
    rw [if_pos (by omega), if_pos (by omega), if_pos (by omega), Sem.rd_at x i hlx, Sem.rd_at y i hly, Sem.w64 (n := x[i] * y[i]) (by omega) (by omega), Sem.w64 (by omega) (by omega), hw]
    exact ih
theorem dotS_ev {x y : List Int} (hx : Six x) (hy : Six y) : Ev (fun k => spec_l6Dot.f k x y) (Sem.dotL x y) := by
  refine Ev.from 5 fun k hk => ?_
  have := dotS_from x y hx hy 4 0 0 k rfl (by omega) (by omega) (by omega)
  simpa [spec_l6Dot.f] using this
/-- Euclid's rounds. -/
theorem euclid_ev (x0 : List Int) (x4 : Int) (r : List Int) (n : Nat) : ∀ x3 x5 : Int, 0 ≤ x3 → 0 ≤ x5 → x5 ≤ n → Ev (fun k => spec_l6Lower.l0 k x0 (Int.gcd x3 x5 : Int) (wrap64 (x4 + 1))) r → Ev (fun k => spec_l6Lower.l1 k x0 x3 x4 x5) r := by
  induction n with
  | zero =>
    intro x3 x5 h3 h5 hn h
    obtain rfl : x5 = 0 := by omega
    refine h.step fun k => ?_
    show spec_l6Lower.l1 (k + 1) x0 x3 x4 0 = _
    simp only [spec_l6Lower.l1]
    rw [if_neg (by omega), Int.gcd_zero_right, show ((x3.natAbs : Nat) : Int) = x3 by omega]
  | succ n ih =>
    intro x3 x5 h3 h5 hn h
    by_cases h0 : x5 = 0
    · subst h0
      refine h.step fun k => ?_
      show spec_l6Lower.l1 (k + 1) x0 x3 x4 0 = _
      simp only [spec_l6Lower.l1]
      rw [if_neg (by omega), Int.gcd_zero_right, show ((x3.natAbs : Nat) : Int) = x3 by omega]
    · have t1 := Int.tmod_nonneg x5 h3
      have t2 := Int.tmod_lt_of_pos x3 (show 0 < x5 by omega)
      refine (ih x5 (Int.tmod x3 x5) h5 t1 (by omega) (by rw [Man.gcd_step]; exact h)).step fun k => ?_
      show spec_l6Lower.l1 (k + 1) x0 x3 x4 x5 = _
      simp only [spec_l6Lower.l1]
      rw [if_pos (by omega), if_neg h0]
theorem lower_l0 (x : List Int) (hx : Six x) (r : List Int) (i : Nat) (hi : i < 4) (d : Nat) (h : Ev (fun k => spec_l6Lower.l0 k x (Nat.gcd d (rd x (i : Int)).natAbs : Nat) ((i + 1 : Nat) : Int)) r) : Ev (fun k => spec_l6Lower.l0 k x (d : Int) (i : Int)) r := by
  have hlx : i < x.length := by have := hx.1; omega
  have hb := hx.2 x[i] (List.getElem_mem hlx)
  rw [← Sem.rd_at x i hlx] at hb
  have hw : wrap64 ((i : Int) + 1) = ((i + 1 : Nat) : Int) := by unfold wrap64; omega
  have h1 := euclid_ev x (i : Int) r 6 (d : Int) ((rd x (i : Int)).natAbs : Int) (by omega) (by omega) (by omega) (by
    rw [hw]
    have e : Int.gcd (d : Int) ((rd x (i : Int)).natAbs : Int) = Nat.gcd d (rd x (i : Int)).natAbs := by unfold Int.gcd; simp
    rw [e]
    exact h)
  have h2 : Ev (fun k => spec_l6Lower.j1 k x (d : Int) (i : Int) ((rd x (i : Int)).natAbs : Int)) r := h1.step fun k => rfl
  refine h2.step fun k => ?_
  show spec_l6Lower.l0 (k + 1) x (d : Int) (i : Int) = _
  simp only [spec_l6Lower.l0]
  rw [if_pos (by omega), if_pos (by omega)]
  by_cases hs : rd x (i : Int) < 0
  · rw [if_pos hs, Sem.w64 (by omega) (by omega), show ((rd x (i : Int)).natAbs : Int) = -(rd x (i : Int)) by omega]
  · rw [if_neg hs, show ((rd x (i : Int)).natAbs : Int) = rd x (i : Int) by omega]
theorem lower_l2 (x : List Int) (hx : Six x) (d : Int) (hd : d ≠ 0) (n : Nat) : ∀ i : Nat, i + n = 4 → Ev (fun k => spec_l6Lower.l2 k x d ((x.map fun y => Int.tdiv y d).take i) (i : Int)) (x.map fun y => Int.tdiv y d) := by
  have lx := hx.1
  induction n with
  | zero =>
    intro i hi
    refine Ev.one fun k => ?_
    simp only [spec_l6Lower.l2]
    rw [if_neg (by omega), List.take_of_length_le (by rw [List.length_map]; omega)]
  | succ n ih =>
    intro i hi
    have hlx : i < x.length := by omega
    have hb := hx.2 x[i] (List.getElem_mem hlx)
    have hw : wrap64 ((i : Int) + 1) = ((i + 1 : Nat) : Int) := by unfold wrap64; omega
    refine (ih (i + 1) (by omega)).step fun k => ?_
    show spec_l6Lower.l2 (k + 1) x d _ (i : Int) = _
    have ht : -6 ≤ Int.tdiv x[i] d ∧ Int.tdiv x[i] d ≤ 6 := by
      have h1 := Int.natAbs_tdiv x[i] d
      have h2 := Nat.div_le_self x[i].natAbs d.natAbs
      have h4 : (Int.tdiv x[i] d).natAbs ≤ x[i].natAbs := by rw [h1]; exact h2
      clear h1 h2
      omega
    have et : (x.map fun y => Int.tdiv y d).take (i + 1) = (x.map fun y => Int.tdiv y d).take i ++ [Int.tdiv x[i] d] := by
      rw [List.take_succ_eq_append_getElem (by rw [List.length_map]; omega), List.getElem_map]
    simp only [spec_l6Lower.l2]
    rw [if_pos (by omega), if_pos (by omega), if_neg hd, if_pos (by rw [List.length_take, List.length_map]; omega), Sem.rd_at x i hlx, Sem.w64 (by omega) (by omega), hw, et]
def gx (x : List Int) : Nat := gcd4 (rd x 0).natAbs (rd x 1).natAbs (rd x 2).natAbs (rd x 3).natAbs
def lowL (x : List Int) : List Int := x.map fun y => Int.tdiv y (gx x : Int)
theorem lower_ev {x : List Int} (hx : Six x) (hg : gx x ≠ 0) : Ev (fun k => spec_l6Lower.f k x) (lowL x) := by
  have h2 := lower_l2 x hx (gx x : Int) (by omega) 4 0 rfl
  have h0 : Ev (fun k => spec_l6Lower.l0 k x (gx x : Int) ((4 : Nat) : Int)) (lowL x) := by
    refine h2.step fun k => ?_
    show spec_l6Lower.l0 (k + 1) x _ _ = _
    simp only [spec_l6Lower.l0]
    rw [if_neg (by have := hx.1; omega)]
    rfl
  have h := lower_l0 x hx _ 0 (by omega) 0 (lower_l0 x hx _ 1 (by omega) _ (lower_l0 x hx _ 2 (by omega) _ (lower_l0 x hx _ 3 (by omega) _ h0)))
  exact h
end Go.Proofs.Ytmbninbecclbiaa.Cor
