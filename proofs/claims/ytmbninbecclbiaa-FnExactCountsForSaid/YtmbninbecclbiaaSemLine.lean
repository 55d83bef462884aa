/- What lineOf answers, in plain words: the one row of numbers from 0 on, that no number but 1 divides, on the line of a minor. -/
import Derived.Test.YtmbninbecclbiaaSemA
import Derived.Test.YtmbninbecclbiaaManCor
namespace Go.Proofs.Ytmbninbecclbiaa.Cor
open Go.RowKit Go.Proofs.Ytmbninbecclbiaa.PA Go.Proofs.YtmbninbecclbiaaW.PrintWords Go.Proofs.YtmbninbecclbiaaW.PrintLast Go.Proofs.YtmbninbecclbiaaW.PrintMore
set_option linter.unusedVariables false
set_option linter.unusedSimpArgs false

def gcd4 (a b c d : Nat) : Nat := Nat.gcd (Nat.gcd (Nat.gcd (Nat.gcd 0 a) b) c) d
theorem gcd4_mul (k a b c d : Nat) : gcd4 (k * a) (k * b) (k * c) (k * d) = k * gcd4 a b c d := by
  unfold gcd4
  rw [Nat.gcd_zero_left, Nat.gcd_zero_left, Nat.gcd_mul_left, Nat.gcd_mul_left, Nat.gcd_mul_left]
theorem gcd4_dvd (a b c d : Nat) : gcd4 a b c d ∣ a ∧ gcd4 a b c d ∣ b ∧ gcd4 a b c d ∣ c ∧ gcd4 a b c d ∣ d := by
  unfold gcd4
  rw [Nat.gcd_zero_left]
  exact ⟨Nat.dvd_trans (Nat.gcd_dvd_left _ _) (Nat.dvd_trans (Nat.gcd_dvd_left _ _) (Nat.gcd_dvd_left _ _)), Nat.dvd_trans (Nat.gcd_dvd_left _ _) (Nat.dvd_trans (Nat.gcd_dvd_left _ _) (Nat.gcd_dvd_right _ _)), Nat.dvd_trans (Nat.gcd_dvd_left _ _) (Nat.gcd_dvd_right _ _), Nat.gcd_dvd_right _ _⟩
theorem gcd4_zero (a b c d : Nat) : gcd4 a b c d = 0 ↔ a = 0 ∧ b = 0 ∧ c = 0 ∧ d = 0 := by
  unfold gcd4
  rw [Nat.gcd_zero_left, Nat.gcd_eq_zero_iff, Nat.gcd_eq_zero_iff, Nat.gcd_eq_zero_iff]
  omega
theorem gl_eq (m : Nat → Int) : Man.gl m 4 = gcd4 (Man.vl m 0).natAbs (Man.vl m 1).natAbs (Man.vl m 2).natAbs (Man.vl m 3).natAbs := rfl
theorem min_neg (a b c d : Int) : Go.Lib.minOf [a, b, c, d] < 0 ↔ a < 0 ∨ b < 0 ∨ c < 0 ∨ d < 0 := by
  unfold Go.Lib.minOf
  simp only [List.headD, List.foldl]
  omega
/-- The row's numbers are from 0 on, and none but 1 divides them. -/
structure Prim (x0 x1 x2 x3 : Int) : Prop where
  n0 : 0 ≤ x0
  n1 : 0 ≤ x1
  n2 : 0 ≤ x2
  n3 : 0 ≤ x3
  g : gcd4 x0.natAbs x1.natAbs x2.natAbs x3.natAbs = 1
theorem mul_tdiv {D v : Int} (h : D ∣ v) : v = D * Int.tdiv v D := (Int.mul_tdiv_cancel' h).symm
theorem line_some (m : Nat → Int) (h : Man.lineL m ≠ []) : ∃ D x0 x1 x2 x3 : Int, D ≠ 0 ∧ Man.lineL m = [x0, x1, x2, x3] ∧ Prim x0 x1 x2 x3 ∧ Man.vl m 0 = D * x0 ∧ Man.vl m 1 = D * x1 ∧ Man.vl m 2 = D * x2 ∧ Man.vl m 3 = D * x3 := by
  unfold Man.lineL at h ⊢
  split at h
  · exact absurd rfl h
  · next hg =>
    split at h
    · exact absurd rfl h
    · next hm =>
      rw [if_neg hg, if_neg hm]
      have eo : Man.ol m = [Int.tdiv (Man.vl m 0) (Man.dl m), Int.tdiv (Man.vl m 1) (Man.dl m), Int.tdiv (Man.vl m 2) (Man.dl m), Int.tdiv (Man.vl m 3) (Man.dl m)] := rfl
      rw [eo, min_neg] at hm
      have hd : Man.dl m = (Man.gl m 4 : Int) ∨ Man.dl m = -(Man.gl m 4 : Int) := by
        unfold Man.dl
        split
        · exact Or.inr rfl
        · exact Or.inl rfl
      have hD : Man.dl m ≠ 0 := by omega
      obtain ⟨v0, e0⟩ : ∃ v, v = Man.vl m 0 := ⟨_, rfl⟩
      obtain ⟨v1, e1⟩ : ∃ v, v = Man.vl m 1 := ⟨_, rfl⟩
      obtain ⟨v2, e2⟩ : ∃ v, v = Man.vl m 2 := ⟨_, rfl⟩
      obtain ⟨v3, e3⟩ : ∃ v, v = Man.vl m 3 := ⟨_, rfl⟩
      have hgl := gl_eq m
      rw [eo]
      rw [← e0, ← e1, ← e2, ← e3] at hgl hm ⊢
      have hdv := gcd4_dvd v0.natAbs v1.natAbs v2.natAbs v3.natAbs
      rw [← hgl] at hdv
      have hdiv : ∀ v : Int, Man.gl m 4 ∣ v.natAbs → Man.dl m ∣ v := by
        intro v hv
        have : (Man.gl m 4 : Int) ∣ v := Int.ofNat_dvd_left.2 hv
        rcases hd with e | e <;> rw [e]
        · exact this
        · exact Int.neg_dvd.2 this
      have m0 := mul_tdiv (hdiv v0 hdv.1)
      have m1 := mul_tdiv (hdiv v1 hdv.2.1)
      have m2 := mul_tdiv (hdiv v2 hdv.2.2.1)
      have m3 := mul_tdiv (hdiv v3 hdv.2.2.2)
      refine ⟨Man.dl m, _, _, _, _, hD, rfl, ⟨by omega, by omega, by omega, by omega, ?_⟩, m0, m1, m2, m3⟩
      have hDa : (Man.dl m).natAbs = Man.gl m 4 := by omega
      have a0 : v0.natAbs = Man.gl m 4 * (Int.tdiv v0 (Man.dl m)).natAbs := by rw [← hDa, ← Int.natAbs_mul, ← m0]
      have a1 : v1.natAbs = Man.gl m 4 * (Int.tdiv v1 (Man.dl m)).natAbs := by rw [← hDa, ← Int.natAbs_mul, ← m1]
      have a2 : v2.natAbs = Man.gl m 4 * (Int.tdiv v2 (Man.dl m)).natAbs := by rw [← hDa, ← Int.natAbs_mul, ← m2]
      have a3 : v3.natAbs = Man.gl m 4 * (Int.tdiv v3 (Man.dl m)).natAbs := by rw [← hDa, ← Int.natAbs_mul, ← m3]
      have hk : Man.gl m 4 = Man.gl m 4 * gcd4 (Int.tdiv v0 (Man.dl m)).natAbs (Int.tdiv v1 (Man.dl m)).natAbs (Int.tdiv v2 (Man.dl m)).natAbs (Int.tdiv v3 (Man.dl m)).natAbs := by
        rw [← gcd4_mul, ← a0, ← a1, ← a2, ← a3]
        exact hgl
      exact (Nat.eq_of_mul_eq_mul_left (Nat.pos_of_ne_zero hg) (by rw [Nat.mul_one]; exact hk)).symm
/-- Numbers that are multiples of a row that no number divides are its multiples by their divisor. -/
theorem abs_of {v0 v1 v2 v3 x0 x1 x2 x3 vj xj : Int} (hp : Prim x0 x1 x2 x3) (h0 : v0 * xj = vj * x0) (h1 : v1 * xj = vj * x1) (h2 : v2 * xj = vj * x2) (h3 : v3 * xj = vj * x3) :
    (gcd4 v0.natAbs v1.natAbs v2.natAbs v3.natAbs) * xj.natAbs = vj.natAbs := by
  have k0 : xj.natAbs * v0.natAbs = vj.natAbs * x0.natAbs := by rw [← Int.natAbs_mul, ← Int.natAbs_mul, ← h0, Int.mul_comm]
  have k1 : xj.natAbs * v1.natAbs = vj.natAbs * x1.natAbs := by rw [← Int.natAbs_mul, ← Int.natAbs_mul, ← h1, Int.mul_comm]
  have k2 : xj.natAbs * v2.natAbs = vj.natAbs * x2.natAbs := by rw [← Int.natAbs_mul, ← Int.natAbs_mul, ← h2, Int.mul_comm]
  have k3 : xj.natAbs * v3.natAbs = vj.natAbs * x3.natAbs := by rw [← Int.natAbs_mul, ← Int.natAbs_mul, ← h3, Int.mul_comm]
  have e := gcd4_mul xj.natAbs v0.natAbs v1.natAbs v2.natAbs v3.natAbs
  rw [k0, k1, k2, k3, gcd4_mul, hp.g, Nat.mul_one] at e
  rw [Nat.mul_comm]
  exact e.symm
/-- All of them have one sign. -/
theorem mul_form {v0 v1 v2 v3 x0 x1 x2 x3 : Int} (hp : Prim x0 x1 x2 x3) (hab : v0 * x1 = v1 * x0) (hac : v0 * x2 = v2 * x0) (had : v0 * x3 = v3 * x0) (hbc : v1 * x2 = v2 * x1) (hbd : v1 * x3 = v3 * x1) (hcd : v2 * x3 = v3 * x2) :
    ∃ D : Int, D.natAbs = gcd4 v0.natAbs v1.natAbs v2.natAbs v3.natAbs ∧ v0 = D * x0 ∧ v1 = D * x1 ∧ v2 = D * x2 ∧ v3 = D * x3 := by
  have g0 := abs_of (vj := v0) (xj := x0) hp rfl hab.symm hac.symm had.symm
  have g1 := abs_of (vj := v1) (xj := x1) hp hab rfl hbc.symm hbd.symm
  have g2 := abs_of (vj := v2) (xj := x2) hp hac hbc rfl hcd.symm
  have g3 := abs_of (vj := v3) (xj := x3) hp had hbd hcd rfl
  generalize gcd4 v0.natAbs v1.natAbs v2.natAbs v3.natAbs = g at *
  have hx : x0 ≠ 0 ∨ x1 ≠ 0 ∨ x2 ≠ 0 ∨ x3 ≠ 0 := by
    by_cases h : x0 = 0 ∧ x1 = 0 ∧ x2 = 0 ∧ x3 = 0
    · have := hp.g
      rw [h.1, h.2.1, h.2.2.1, h.2.2.2] at this
      exact absurd this (by decide)
    · omega
  have n0 := hp.n0
  have n1 := hp.n1
  have n2 := hp.n2
  have n3 := hp.n3
  have key : ∀ (vj xj : Int), xj ≠ 0 → 0 ≤ xj → g * xj.natAbs = vj.natAbs → ∃ D : Int, D.natAbs = g ∧ vj = D * xj := by
    intro vj xj hne h0 hg
    have e : xj = (xj.natAbs : Int) := by omega
    have e2 : (g : Int) * xj = (vj.natAbs : Int) := by rw [← hg, e]; simp
    by_cases hs : 0 ≤ vj
    · exact ⟨g, by simp, by rw [e2]; omega⟩
    · exact ⟨-g, by simp, by rw [Int.neg_mul, e2]; omega⟩
  have ex : ∀ {p q x y D : Int}, x ≠ 0 → p = D * x → q * x = p * y → q = D * y := by
    intro p q x y D hne hp h
    rw [hp, Int.mul_assoc, Int.mul_comm x y, ← Int.mul_assoc] at h
    exact Int.eq_of_mul_eq_mul_right hne h
  rcases hx with h | h | h | h
  · obtain ⟨D, hD, e⟩ := key v0 x0 h n0 g0
    exact ⟨D, hD, e, ex h e hab.symm, ex h e hac.symm, ex h e had.symm⟩
  · obtain ⟨D, hD, e⟩ := key v1 x1 h n1 g1
    exact ⟨D, hD, ex h e hab, e, ex h e hbc.symm, ex h e hbd.symm⟩
  · obtain ⟨D, hD, e⟩ := key v2 x2 h n2 g2
    exact ⟨D, hD, ex h e hac, ex h e hbc, e, ex h e hcd.symm⟩
  · obtain ⟨D, hD, e⟩ := key v3 x3 h n3 g3
    exact ⟨D, hD, ex h e had, ex h e hbd, ex h e hcd, e⟩
theorem tdiv_self_mul {D x : Int} (h : D ≠ 0) : Int.tdiv (D * x) D = x := Int.mul_tdiv_cancel_left x h
/-- A line's row: found again from any row on it that no number divides. -/
theorem line_of (m : Nat → Int) {x0 x1 x2 x3 : Int} (hp : Prim x0 x1 x2 x3) (hz : ¬ (Man.vl m 0 = 0 ∧ Man.vl m 1 = 0 ∧ Man.vl m 2 = 0 ∧ Man.vl m 3 = 0))
    (hab : Man.vl m 0 * x1 = Man.vl m 1 * x0) (hac : Man.vl m 0 * x2 = Man.vl m 2 * x0) (had : Man.vl m 0 * x3 = Man.vl m 3 * x0) (hbc : Man.vl m 1 * x2 = Man.vl m 2 * x1) (hbd : Man.vl m 1 * x3 = Man.vl m 3 * x1) (hcd : Man.vl m 2 * x3 = Man.vl m 3 * x2) :
    Man.lineL m = [x0, x1, x2, x3] := by
  obtain ⟨D, hD, e0, e1, e2, e3⟩ := mul_form hp hab hac had hbc hbd hcd
  rw [← gl_eq] at hD
  have hD0 : D ≠ 0 := by
    intro h
    rw [h] at e0 e1 e2 e3
    exact hz ⟨by omega, by omega, by omega, by omega⟩
  have n0 := hp.n0
  have n1 := hp.n1
  have n2 := hp.n2
  have n3 := hp.n3
  have hdl : Man.dl m = D := by
    have hpl : Man.pl m 4 = [Man.vl m 0, Man.vl m 1, Man.vl m 2, Man.vl m 3] := rfl
    unfold Man.dl
    rw [hpl]
    by_cases hs : 0 < D
    · have q0 := Int.mul_nonneg (Int.le_of_lt hs) n0
      have q1 := Int.mul_nonneg (Int.le_of_lt hs) n1
      have q2 := Int.mul_nonneg (Int.le_of_lt hs) n2
      have q3 := Int.mul_nonneg (Int.le_of_lt hs) n3
      rw [if_neg (by rw [min_neg]; omega)]
      omega
    · have hs' : 0 ≤ -D := by omega
      have q0 := Int.mul_nonneg hs' n0
      have q1 := Int.mul_nonneg hs' n1
      have q2 := Int.mul_nonneg hs' n2
      have q3 := Int.mul_nonneg hs' n3
      rw [Int.neg_mul] at q0 q1 q2 q3
      rw [if_pos (by rw [min_neg]; omega)]
      omega
  have eo : Man.ol m = [x0, x1, x2, x3] := by
    show [Int.tdiv (Man.vl m 0) (Man.dl m), Int.tdiv (Man.vl m 1) (Man.dl m), Int.tdiv (Man.vl m 2) (Man.dl m), Int.tdiv (Man.vl m 3) (Man.dl m)] = _
    rw [hdl, e0, e1, e2, e3, tdiv_self_mul hD0, tdiv_self_mul hD0, tdiv_self_mul hD0, tdiv_self_mul hD0]
  unfold Man.lineL
  rw [if_neg (by omega), eo, if_neg (by rw [min_neg]; omega)]
end Go.Proofs.Ytmbninbecclbiaa.Cor
