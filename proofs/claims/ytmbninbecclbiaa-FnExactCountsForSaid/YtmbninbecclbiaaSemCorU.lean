/- The spec's corners of rows are those that impl.cornersOf finds. -/
import Derived.Test.YtmbninbecclbiaaSemCorT
namespace Go.Proofs.Ytmbninbecclbiaa.Cor
open Go.RowKit Go.Proofs.Ytmbninbecclbiaa.PA Go.Proofs.YtmbninbecclbiaaW.PrintWords Go.Proofs.YtmbninbecclbiaaW.PrintLast Go.Proofs.YtmbninbecclbiaaW.PrintMore
set_option linter.unusedVariables false
set_option linter.unusedSimpArgs false
open Cone (V dot mnr Zero Par)

theorem nonneg_units {rows : List (List Int)} (hu : ∀ r ∈ ManR.units, r ∈ rows) {y : List Int} (hy : y.length = 4) (h : ∀ r ∈ rows, 0 ≤ Sem.dotL r y) : 0 ≤ rd y 0 ∧ 0 ≤ rd y 1 ∧ 0 ≤ rd y 2 ∧ 0 ≤ rd y 3 := by
  have h0 := h _ (hu [1, 0, 0, 0] (by decide))
  have h1 := h _ (hu [0, 1, 0, 0] (by decide))
  have h2 := h _ (hu [0, 0, 1, 0] (by decide))
  have h3 := h _ (hu [0, 0, 0, 1] (by decide))
  match y, hy with
  | [a, b, c, d], _ =>
    have h0 : 0 ≤ 1 * a + (0 * b + (0 * c + (0 * d + 0))) := h0
    have h1 : 0 ≤ 0 * a + (1 * b + (0 * c + (0 * d + 0))) := h1
    have h2 : 0 ≤ 0 * a + (0 * b + (1 * c + (0 * d + 0))) := h2
    have h3 : 0 ≤ 0 * a + (0 * b + (0 * c + (1 * d + 0))) := h3
    show 0 ≤ a ∧ 0 ≤ b ∧ 0 ≤ c ∧ 0 ≤ d
    omega
/-- The two rows on a line that no number divides. -/
theorem low_form (v0 v1 v2 v3 : Int) (hg : gx [v0, v1, v2, v3] ≠ 0) (s : Nat) (hs : s < 2) : ∃ y0 y1 y2 y3 t : Int, lowL (sgS [v0, v1, v2, v3] s) = [y0, y1, y2, y3] ∧ t = (1 - 2 * (s : Int)) * (gx [v0, v1, v2, v3] : Int) ∧ v0 = t * y0 ∧ v1 = t * y1 ∧ v2 = t * y2 ∧ v3 = t * y3 ∧ gcd4 y0.natAbs y1.natAbs y2.natAbs y3.natAbs = 1 := by
  have eg : gx (sgS [v0, v1, v2, v3] s) = gx [v0, v1, v2, v3] := by
    show gcd4 (v0 * (1 - 2 * (s : Int))).natAbs (v1 * (1 - 2 * (s : Int))).natAbs (v2 * (1 - 2 * (s : Int))).natAbs (v3 * (1 - 2 * (s : Int))).natAbs = gcd4 v0.natAbs v1.natAbs v2.natAbs v3.natAbs
    have e : ∀ y : Int, (y * (1 - 2 * (s : Int))).natAbs = y.natAbs := by
      intro y
      rcases (show s = 0 ∨ s = 1 by omega) with rfl | rfl <;> omega
    rw [e, e, e, e]
  have hgd : gx [v0, v1, v2, v3] = gcd4 v0.natAbs v1.natAbs v2.natAbs v3.natAbs := rfl
  have hdv := gcd4_dvd v0.natAbs v1.natAbs v2.natAbs v3.natAbs
  rw [← hgd] at hdv
  generalize gx [v0, v1, v2, v3] = g at *
  have el : lowL (sgS [v0, v1, v2, v3] s) = [Int.tdiv (v0 * (1 - 2 * (s : Int))) (g : Int), Int.tdiv (v1 * (1 - 2 * (s : Int))) (g : Int), Int.tdiv (v2 * (1 - 2 * (s : Int))) (g : Int), Int.tdiv (v3 * (1 - 2 * (s : Int))) (g : Int)] := by
    unfold lowL; rw [eg]; rfl
  have hv : ∀ v : Int, g ∣ v.natAbs → v = ((1 - 2 * (s : Int)) * (g : Int)) * Int.tdiv (v * (1 - 2 * (s : Int))) (g : Int) := by
    intro v hv
    have h1 : (g : Int) ∣ v := Int.ofNat_dvd_left.2 hv
    have h2 : (g : Int) ∣ v * (1 - 2 * (s : Int)) := Int.dvd_mul_of_dvd_left h1
    rw [Int.mul_assoc, ← mul_tdiv h2]
    rcases (show s = 0 ∨ s = 1 by omega) with rfl | rfl <;> omega
  have e0 := hv v0 hdv.1
  have e1 := hv v1 hdv.2.1
  have e2 := hv v2 hdv.2.2.1
  have e3 := hv v3 hdv.2.2.2
  refine ⟨_, _, _, _, _, el, rfl, e0, e1, e2, e3, ?_⟩
  have ht : ((1 - 2 * (s : Int)) * (g : Int)).natAbs = g := by rcases (show s = 0 ∨ s = 1 by omega) with rfl | rfl <;> omega
  generalize Int.tdiv (v0 * (1 - 2 * (s : Int))) (g : Int) = y0 at *
  generalize Int.tdiv (v1 * (1 - 2 * (s : Int))) (g : Int) = y1 at *
  generalize Int.tdiv (v2 * (1 - 2 * (s : Int))) (g : Int) = y2 at *
  generalize Int.tdiv (v3 * (1 - 2 * (s : Int))) (g : Int) = y3 at *
  generalize (1 - 2 * (s : Int)) * (g : Int) = t at *
  rw [e0, e1, e2, e3, Int.natAbs_mul, Int.natAbs_mul, Int.natAbs_mul, Int.natAbs_mul, gcd4_mul, ht] at hgd
  exact (Nat.eq_of_mul_eq_mul_left (Nat.pos_of_ne_zero hg) (by rw [Nat.mul_one]; exact hgd)).symm
theorem par_mul {p q x y t : Int} (hp : p = t * x) (hq : q = t * y) : p * y = q * x := by subst hp; subst hq; grind
section
variable {a b c : List Int} (m : Nat → Int)
theorem gx_ul : gx (Man.ul m 4) = Man.gl m 4 := rfl
theorem ul_eq : Man.ul m 4 = [Man.vl m 0, Man.vl m 1, Man.vl m 2, Man.vl m 3] := rfl
theorem low_good {rows : List (List Int)} (hu : ∀ r ∈ ManR.units, r ∈ rows) (hg : gx (Man.ul m 4) ≠ 0) (s : Nat) (hs : s < 2) (h : ∀ r ∈ rows, 0 ≤ Sem.dotL r (lowL (sgS (Man.ul m 4) s))) : lowL (sgS (Man.ul m 4) s) = Man.lineL m := by
  rw [ul_eq] at hg h ⊢
  obtain ⟨y0, y1, y2, y3, t, el, et, e0, e1, e2, e3, hy⟩ := low_form _ _ _ _ hg s hs
  rw [el] at h ⊢
  have hn := nonneg_units hu rfl h
  have hp : Prim y0 y1 y2 y3 := ⟨hn.1, hn.2.1, hn.2.2.1, hn.2.2.2, hy⟩
  refine (line_of m hp ?_ (par_mul e0 e1) (par_mul e0 e2) (par_mul e0 e3) (par_mul e1 e2) (par_mul e1 e3) (par_mul e2 e3)).symm
  rintro ⟨z0, z1, z2, z3⟩
  rw [z0, z1, z2, z3] at hg
  exact hg (by decide)
theorem line_low (hx : Man.lineL m ≠ []) : ∃ s, s < 2 ∧ lowL (sgS (Man.ul m 4) s) = Man.lineL m := by
  obtain ⟨D, x0, x1, x2, x3, hD, hl, hp, e0, e1, e2, e3⟩ := line_some _ hx
  have hg : gx (Man.ul m 4) = D.natAbs := by
    rw [ul_eq, e0, e1, e2, e3]
    show gcd4 (D * x0).natAbs (D * x1).natAbs (D * x2).natAbs (D * x3).natAbs = _
    rw [Int.natAbs_mul, Int.natAbs_mul, Int.natAbs_mul, Int.natAbs_mul, gcd4_mul, hp.g, Nat.mul_one]
  rw [ul_eq] at hg ⊢
  have one : ∀ s : Nat, s < 2 → (1 - 2 * (s : Int)) * (D.natAbs : Int) = D → lowL (sgS [Man.vl m 0, Man.vl m 1, Man.vl m 2, Man.vl m 3] s) = Man.lineL m := by
    intro s hs he
    obtain ⟨y0, y1, y2, y3, t, el, et, f0, f1, f2, f3, hy⟩ := low_form _ _ _ _ (by rw [hg]; omega) s hs
    rw [hg, he] at et
    subst et
    rw [el, hl]
    have c : ∀ {p x y : Int}, p = t * x → p = t * y → y = x := fun h1 h2 => (Int.eq_of_mul_eq_mul_left hD (h1.symm.trans h2)).symm
    rw [c e0 f0, c e1 f1, c e2 f2, c e3 f3]
  by_cases hs : 0 < D
  · exact ⟨0, by omega, one 0 (by omega) (by omega)⟩
  · exact ⟨1, by omega, one 1 (by omega) (by omega)⟩
end
/-- Two rows that no number divides, on one line. -/
theorem prim_same {x0 x1 x2 x3 y0 y1 y2 y3 : Int} (hx : Prim x0 x1 x2 x3) (hy : Prim y0 y1 y2 y3) (h : (y0 * y0 + y1 * y1 + y2 * y2 + y3 * y3) * (x0 * x0 + x1 * x1 + x2 * x2 + x3 * x3) = (y0 * x0 + y1 * x1 + y2 * x2 + y3 * x3) * (y0 * x0 + y1 * x1 + y2 * x2 + y3 * x3)) :
    y0 = x0 ∧ y1 = x1 ∧ y2 = x2 ∧ y3 = x3 := by
  have sq : ∀ z : Int, 0 ≤ z * z := fun z => by
    by_cases q : 0 ≤ z
    · exact Int.mul_nonneg q q
    · have := Int.mul_nonneg (show 0 ≤ -z by omega) (show 0 ≤ -z by omega)
      rw [Int.neg_mul_neg] at this
      exact this
  have hs : (y0 * x1 - y1 * x0) * (y0 * x1 - y1 * x0) + (y0 * x2 - y2 * x0) * (y0 * x2 - y2 * x0) + (y0 * x3 - y3 * x0) * (y0 * x3 - y3 * x0) + (y1 * x2 - y2 * x1) * (y1 * x2 - y2 * x1) + (y1 * x3 - y3 * x1) * (y1 * x3 - y3 * x1) + (y2 * x3 - y3 * x2) * (y2 * x3 - y3 * x2) = 0 := by grind
  have s1 := sq (y0 * x1 - y1 * x0)
  have s2 := sq (y0 * x2 - y2 * x0)
  have s3 := sq (y0 * x3 - y3 * x0)
  have s4 := sq (y1 * x2 - y2 * x1)
  have s5 := sq (y1 * x3 - y3 * x1)
  have s6 := sq (y2 * x3 - y3 * x2)
  have z : ∀ {z : Int}, z * z = 0 → z = 0 := fun h => (Int.mul_eq_zero.1 h).elim id id
  have t1 := z (show (y0 * x1 - y1 * x0) * (y0 * x1 - y1 * x0) = 0 by omega)
  have t2 := z (show (y0 * x2 - y2 * x0) * (y0 * x2 - y2 * x0) = 0 by omega)
  have t3 := z (show (y0 * x3 - y3 * x0) * (y0 * x3 - y3 * x0) = 0 by omega)
  have t4 := z (show (y1 * x2 - y2 * x1) * (y1 * x2 - y2 * x1) = 0 by omega)
  have t5 := z (show (y1 * x3 - y3 * x1) * (y1 * x3 - y3 * x1) = 0 by omega)
  have t6 := z (show (y2 * x3 - y3 * x2) * (y2 * x3 - y3 * x2) = 0 by omega)
  obtain ⟨D, hD, e0, e1, e2, e3⟩ := mul_form (v0 := y0) (v1 := y1) (v2 := y2) (v3 := y3) hx (by omega) (by omega) (by omega) (by omega) (by omega) (by omega)
  rw [hy.g] at hD
  rcases (show D = 1 ∨ D = -1 by omega) with rfl | rfl
  · omega
  · have a0 := hx.n0
    have a1 := hx.n1
    have a2 := hx.n2
    have a3 := hx.n3
    have b0 := hy.n0
    have b1 := hy.n1
    have b2 := hy.n2
    have b3 := hy.n3
    omega
/-- A row that the loops keep. -/
structure Kept4 (x : List Int) : Prop where
  six : Six x
  prim : Prim (rd x 0) (rd x 1) (rd x 2) (rd x 3)
theorem far_iff {x o : List Int} (hx : Kept4 x) (ho : Kept4 o) : farS x o = true ↔ o ≠ x := by
  have e1 := dot_pt ho.six.1 ho.six.1
  have e2 := dot_pt hx.six.1 hx.six.1
  have e3 := dot_pt ho.six.1 hx.six.1
  unfold farS
  rw [e1, e2, e3, bne_iff_ne]
  constructor
  · intro h e
    subst e
    exact h rfl
  · intro h e
    have := prim_same hx.prim ho.prim e
    obtain ⟨x0, x1, x2, x3, rfl, _⟩ := hx.six.form
    obtain ⟨o0, o1, o2, o3, rfl, _⟩ := ho.six.form
    have this : o0 = x0 ∧ o1 = x1 ∧ o2 = x2 ∧ o3 = x3 := this
    exact h (by rw [this.1, this.2.1, this.2.2.1, this.2.2.2])
theorem line_kept {a b c : List Int} (ha : Sem.Four a) (hb : Sem.Four b) (hc : Sem.Four c) (hx : Man.lineL (Man.ml a b c) ≠ []) : Kept4 (Man.lineL (Man.ml a b c)) := by
  have ho := line_on ha hb hc rfl hx
  exact ⟨⟨ho.len, Sem.ol_bound _ (Sem.ml_bound ha hb hc)⟩, ho.prim⟩
theorem dotL_comm {a b : List Int} (ha : a.length = 4) (hb : b.length = 4) : Sem.dotL a b = Sem.dotL b a := by rw [dot_pt ha hb, dot_pt hb ha, dot_comm]
theorem two_step {rows out : List (List Int)} (h4 : ∀ x ∈ rows, Sem.Four x) (hu : ∀ r ∈ ManR.units, r ∈ rows) (ho : ∀ x ∈ out, Kept4 x) {a b c : List Int} (ha : Sem.Four a) (hb : Sem.Four b) (hc : Sem.Four c) (hg : gx (Man.ul (Man.ml a b c) 4) ≠ 0) :
    twoS rows out (Man.ul (Man.ml a b c) 4) = ManR.stepR Sem.dotL rows out a b c := by
  have hgood := fun s hs => low_good (Man.ml a b c) hu hg s hs
  have hline := line_low (Man.ml a b c)
  have hk := line_kept ha hb hc
  have hne : lowL (sgS (Man.ul (Man.ml a b c) 4) 0) ≠ lowL (sgS (Man.ul (Man.ml a b c) 4) 1) := by
    rw [ul_eq] at hg ⊢
    obtain ⟨y0, y1, y2, y3, t, el, et, e0, e1, e2, e3, hy⟩ := low_form _ _ _ _ hg 0 (by omega)
    obtain ⟨z0, z1, z2, z3, u, fl, fu, f0, f1, f2, f3, hz⟩ := low_form _ _ _ _ hg 1 (by omega)
    rw [el, fl]
    intro e
    injection e with q0 e
    injection e with q1 e
    injection e with q2 e
    injection e with q3 e
    subst q0; subst q1; subst q2; subst q3
    have ht : t ≠ 0 := by omega
    have hu' : u = -t := by omega
    subst hu'
    have zz : ∀ {p y : Int}, p = t * y → p = -t * y → y = 0 := by
      intro p y h1 h2
      rw [Int.neg_mul] at h2
      exact (Int.mul_eq_zero.1 (show t * y = 0 by omega)).resolve_left ht
    rw [zz e0 f0, zz e1 f1, zz e2 f2, zz e3 f3] at hy
    exact absurd hy (by decide)
  have l0 : (lowL (sgS (Man.ul (Man.ml a b c) 4) 0)).length = 4 := rfl
  have l1 : (lowL (sgS (Man.ul (Man.ml a b c) 4) 1)).length = 4 := rfl
  have g0 := hgood 0 (by omega)
  have g1 := hgood 1 (by omega)
  have bad : ∀ (o : List (List Int)) (y : List Int), (¬ ∀ r ∈ rows, 0 ≤ Sem.dotL r y) → addS rows o y = o := by
    intro o y h
    unfold addS
    rw [if_neg]
    intro e
    refine h fun r hr => ?_
    rw [Bool.and_eq_true] at e
    exact of_decide_eq_true (List.all_eq_true.1 e.1 r hr)
  unfold twoS ManR.stepR
  by_cases hx : Man.lineL (Man.ml a b c) = []
  · rw [if_pos hx, bad _ _ (fun h => by have := g1 h; rw [this, hx] at l1; cases l1), bad _ _ (fun h => by have := g0 h; rw [this, hx] at l0; cases l0)]
  · rw [if_neg hx]
    have hk := hk hx
    have main : addS rows out (Man.lineL (Man.ml a b c)) = if (rows.any fun x => decide (Sem.dotL (Man.lineL (Man.ml a b c)) x < 0)) = true then out else if (out.any fun x => decide (x = Man.lineL (Man.ml a b c))) = true then out else out ++ [Man.lineL (Man.ml a b c)] := by
      generalize Man.lineL (Man.ml a b c) = x at hk
      by_cases h1 : (rows.any fun y => decide (Sem.dotL x y < 0)) = true
      · rw [if_pos h1]
        refine bad _ _ fun h => ?_
        obtain ⟨r, hr, hd⟩ := List.any_eq_true.1 h1
        have := h r hr
        rw [dotL_comm (h4 r hr).1 hk.six.1] at this
        have := of_decide_eq_true hd
        omega
      · rw [if_neg h1]
        have a1 : (rows.all fun r => decide (Sem.dotL r x ≥ 0)) = true := by
          rw [List.all_eq_true]
          intro r hr
          refine decide_eq_true ?_
          rw [dotL_comm (h4 r hr).1 hk.six.1]
          by_cases q : Sem.dotL x r < 0
          · exact absurd (List.any_eq_true.2 ⟨r, hr, decide_eq_true q⟩) h1
          · omega
        unfold addS
        rw [a1, Bool.true_and]
        by_cases h2 : (out.any fun z => decide (z = x)) = true
        · rw [if_pos h2, if_neg]
          intro e
          obtain ⟨z, hz, hd⟩ := List.any_eq_true.1 h2
          exact (far_iff hk (ho z hz)).1 (List.all_eq_true.1 e z hz) (of_decide_eq_true hd)
        · rw [if_neg h2, if_pos]
          rw [List.all_eq_true]
          intro z hz
          refine (far_iff hk (ho z hz)).2 fun e => h2 (List.any_eq_true.2 ⟨z, hz, decide_eq_true e⟩)
    rw [← main]
    obtain ⟨s, hs, es⟩ := hline hx
    rcases (show s = 0 ∨ s = 1 by omega) with rfl | rfl
    · rw [es, bad (addS rows out (Man.lineL (Man.ml a b c))) (lowL (sgS (Man.ul (Man.ml a b c) 4) 1)) (fun h => hne (es.trans (g1 h).symm))]
    · rw [bad out (lowL (sgS (Man.ul (Man.ml a b c) 4) 0)) (fun h => hne ((g0 h).trans es.symm)), es]
end Go.Proofs.Ytmbninbecclbiaa.Cor
