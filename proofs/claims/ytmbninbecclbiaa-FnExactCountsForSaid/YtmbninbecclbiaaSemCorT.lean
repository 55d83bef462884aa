/- The spec's loops over three bounds, in plain words. -/
import Derived.Test.YtmbninbecclbiaaSemCorS
namespace Go.Proofs.Ytmbninbecclbiaa.Cor
open Go.RowKit Go.Proofs.Ytmbninbecclbiaa.PA Go.Proofs.YtmbninbecclbiaaW.PrintWords Go.Proofs.YtmbninbecclbiaaW.PrintLast Go.Proofs.YtmbninbecclbiaaW.PrintMore
set_option linter.unusedVariables false
set_option linter.unusedSimpArgs false
open Cone (V dot mnr Zero Par)

def farS (y o : List Int) : Bool := (Sem.dotL o o * Sem.dotL y y) != (Sem.dotL o y * Sem.dotL o y)
def addS (rows out : List (List Int)) (y : List Int) : List (List Int) := if ((rows.all fun r => decide (Sem.dotL r y ≥ 0)) && out.all (farS y)) = true then out ++ [y] else out
def sgS (v : List Int) (s : Nat) : List Int := v.map fun x => x * (1 - 2 * (s : Int))
def twoS (rows out : List (List Int)) (v : List Int) : List (List Int) := addS rows (addS rows out (lowL (sgS v 0))) (lowL (sgS v 1))
theorem addS_len (rows out : List (List Int)) (y : List Int) : (addS rows out y).length ≤ out.length + 1 := by
  unfold addS; split
  · simp
  · omega
theorem addS_six (rows out : List (List Int)) (y : List Int) (hy : Six y) (h : ∀ x ∈ out, Six x) : ∀ x ∈ addS rows out y, Six x := by
  unfold addS; split
  · intro x hx
    rcases List.mem_append.1 hx with hx | hx
    · exact h x hx
    · rw [List.mem_singleton.1 hx]; exact hy
  · exact h
section
variable (rows out : List (List Int)) (x4 x5 x6 : Int) (v : List Int) (r : List (List Int))
theorem l6_ev (hout : ∀ x ∈ out, Six x) (hlen : out.length ≤ 100000) (x8 : Int) (y : List Int) (hy : Six y) (n : Nat) : ∀ (i : Nat) (b : Bool), i + n = out.length →
    Ev (fun k => spec_l6Corners.l3 k rows (if (b && (out.drop i).all (farS y)) = true then out ++ [y] else out) x4 x5 x6 v (wrap64 (x8 + 1))) r → Ev (fun k => spec_l6Corners.l6 k rows out x4 x5 x6 v x8 y b (i : Int)) r := by
  induction n with
  | zero =>
    intro i b hi h
    rw [List.drop_of_length_le (by omega), List.all_nil, Bool.and_true] at h
    refine h.step fun k => ?_
    show spec_l6Corners.l6 (k + 1) rows out x4 x5 x6 v x8 y b (i : Int) = _
    simp only [spec_l6Corners.l6]
    rw [if_neg (by omega)]
    cases b
    · rw [if_neg (by simp), if_neg (by simp)]
    · rw [if_pos rfl, if_pos rfl, if_pos (by omega)]
  | succ n ih =>
    intro i b hi h
    have hlt : i < out.length := by omega
    have hw : wrap64 ((i : Int) + 1) = ((i + 1 : Nat) : Int) := by unfold wrap64; omega
    rw [List.drop_eq_getElem_cons hlt, List.all_cons, ← Bool.and_assoc] at h
    cases b with
    | false =>
      rw [Bool.false_and, Bool.false_and] at h
      refine (ih (i + 1) false (by omega) (by rw [Bool.false_and]; exact h)).step fun k => ?_
      show spec_l6Corners.l6 (k + 1) rows out x4 x5 x6 v x8 y false (i : Int) = _
      simp only [spec_l6Corners.l6]
      rw [if_pos (by omega), if_neg (by simp), hw]
    | true =>
      rw [Bool.true_and] at h
      have ho := hout _ (List.getElem_mem hlt)
      have e : rd_L2 out (i : Int) = out[i] := by unfold rd_L2; rw [List.getD_eq_getElem?_getD, List.getElem?_eq_getElem (by omega)]; rfl
      have b1 := dot_bound ho ho
      have b2 := dot_bound hy hy
      have b3 := dot_bound ho hy
      have pb : ∀ {p q : Int}, -144 ≤ p ∧ p ≤ 144 → -144 ≤ q ∧ q ≤ 144 → -20736 ≤ p * q ∧ p * q ≤ 20736 := by
        intro p q hp hq
        have h1 := Int.natAbs_mul p q
        have h2 : p.natAbs * q.natAbs ≤ 144 * 144 := Nat.mul_le_mul (by omega) (by omega)
        omega
      have p1 := pb b1 b2
      have p2 := pb b3 b3
      have hb : Ev (fun k => (spec_l6Dot.f k out[i] out[i]).bind fun t163 => (spec_l6Dot.f k y y).bind fun t164 => (spec_l6Dot.f k out[i] y).bind fun t166 => (spec_l6Dot.f k out[i] y).bind fun t168 => spec_l6Corners.l6 k rows out x4 x5 x6 v x8 y ((wrap64 (t163 * t164)) != (wrap64 (t166 * t168))) ((i + 1 : Nat) : Int)) r := by
        refine Ev.bind (dotS_ev ho ho) ?_
        refine Ev.bind (dotS_ev hy hy) ?_
        refine Ev.bind (dotS_ev ho hy) ?_
        refine Ev.bind (dotS_ev ho hy) ?_
        rw [Sem.w64 (by omega) (by omega), Sem.w64 (by omega) (by omega)]
        exact ih (i + 1) _ (by omega) h
      refine hb.step fun k => ?_
      show spec_l6Corners.l6 (k + 1) rows out x4 x5 x6 v x8 y true (i : Int) = _
      simp only [spec_l6Corners.l6]
      rw [if_pos (by omega), if_pos trivial, if_pos (by omega), e, hw]
theorem l5_ev (hrow : ∀ x ∈ rows, Six x) (hlen : rows.length ≤ 100000) (x8 : Int) (y : List Int) (hy : Six y) (n : Nat) : ∀ (i : Nat) (b : Bool), i + n = rows.length →
    Ev (fun k => spec_l6Corners.l6 k rows out x4 x5 x6 v x8 y (b && (rows.drop i).all fun r => decide (Sem.dotL r y ≥ 0)) 0) r → Ev (fun k => spec_l6Corners.l5 k rows out x4 x5 x6 v x8 y b (i : Int)) r := by
  induction n with
  | zero =>
    intro i b hi h
    rw [List.drop_of_length_le (by omega), List.all_nil, Bool.and_true] at h
    refine h.step fun k => ?_
    show spec_l6Corners.l5 (k + 1) rows out x4 x5 x6 v x8 y b (i : Int) = _
    simp only [spec_l6Corners.l5]
    rw [if_neg (by omega)]
  | succ n ih =>
    intro i b hi h
    have hlt : i < rows.length := by omega
    have hw : wrap64 ((i : Int) + 1) = ((i + 1 : Nat) : Int) := by unfold wrap64; omega
    rw [List.drop_eq_getElem_cons hlt, List.all_cons, ← Bool.and_assoc] at h
    cases b with
    | false =>
      rw [Bool.false_and, Bool.false_and] at h
      refine (ih (i + 1) false (by omega) (by rw [Bool.false_and]; exact h)).step fun k => ?_
      show spec_l6Corners.l5 (k + 1) rows out x4 x5 x6 v x8 y false (i : Int) = _
      simp only [spec_l6Corners.l5]
      rw [if_pos (by omega), if_neg (by simp), hw]
    | true =>
      rw [Bool.true_and] at h
      have ho := hrow _ (List.getElem_mem hlt)
      have e : rd_L2 rows (i : Int) = rows[i] := by unfold rd_L2; rw [List.getD_eq_getElem?_getD, List.getElem?_eq_getElem (by omega)]; rfl
      have hb : Ev (fun k => (spec_l6Dot.f k rows[i] y).bind fun t157 => spec_l6Corners.l5 k rows out x4 x5 x6 v x8 y (decide (t157 ≥ 0)) ((i + 1 : Nat) : Int)) r :=
        Ev.bind (dotS_ev ho hy) (ih (i + 1) _ (by omega) h)
      refine hb.step fun k => ?_
      show spec_l6Corners.l5 (k + 1) rows out x4 x5 x6 v x8 y true (i : Int) = _
      simp only [spec_l6Corners.l5]
      rw [if_pos (by omega), if_pos trivial, if_pos (by omega), e, hw]
theorem l4_ev (hv : Six v) (s : Nat) (hs : s < 2) (n : Nat) : ∀ i : Nat, i + n = 4 →
    Ev (fun k => spec_l6Corners.l4 k rows out x4 x5 x6 v (s : Int) (sgS v s) ((4 : Nat) : Int)) r → Ev (fun k => spec_l6Corners.l4 k rows out x4 x5 x6 v (s : Int) ((sgS v s).take i) (i : Int)) r := by
  have lv := hv.1
  have ls : (sgS v s).length = 4 := by unfold sgS; rw [List.length_map]; exact lv
  induction n with
  | zero =>
    intro i hi h
    obtain rfl : i = 4 := by omega
    rw [List.take_of_length_le (by omega)]
    exact h
  | succ n ih =>
    intro i hi h
    have hlt : i < v.length := by omega
    have hb := hv.2 v[i] (List.getElem_mem hlt)
    have hw : wrap64 ((i : Int) + 1) = ((i + 1 : Nat) : Int) := by unfold wrap64; omega
    refine (ih (i + 1) (by omega) h).step fun k => ?_
    show spec_l6Corners.l4 (k + 1) rows out x4 x5 x6 v (s : Int) _ (i : Int) = _
    have et : (sgS v s).take (i + 1) = (sgS v s).take i ++ [v[i] * (1 - 2 * (s : Int))] := by
      rw [List.take_succ_eq_append_getElem (by omega)]
      unfold sgS
      rw [List.getElem_map]
    have hm : wrap64 (v[i] * wrap64 (1 - wrap64 (2 * (s : Int)))) = v[i] * (1 - 2 * (s : Int)) := by
      rcases (show s = 0 ∨ s = 1 by omega) with rfl | rfl
      · rw [show wrap64 (1 - wrap64 (2 * ((0 : Nat) : Int))) = 1 by unfold wrap64; omega, Sem.w64 (by omega) (by omega)]; omega
      · rw [show wrap64 (1 - wrap64 (2 * ((1 : Nat) : Int))) = -1 by unfold wrap64; omega, Sem.w64 (by omega) (by omega)]; omega
    simp only [spec_l6Corners.l4]
    rw [if_pos (by omega), if_pos (by omega), if_pos (by omega), if_pos (by rw [List.length_take]; omega), Sem.rd_at v i hlt, hm, hw, et]
theorem sgS_six (hv : Six v) (s : Nat) (hs : s < 2) : Six (sgS v s) := by
  obtain ⟨a, b, c, d, rfl, h0, h1, h2, h3⟩ := hv.form
  have e : ∀ y : Int, -6 ≤ y ∧ y ≤ 6 → -6 ≤ y * (1 - 2 * (s : Int)) ∧ y * (1 - 2 * (s : Int)) ≤ 6 := by
    intro y hy
    rcases (show s = 0 ∨ s = 1 by omega) with rfl | rfl <;> omega
  exact Six.mk4 (e _ h0) (e _ h1) (e _ h2) (e _ h3)
theorem lowL_six {x : List Int} (hx : Six x) : Six (lowL x) := by
  obtain ⟨a, b, c, d, rfl, h0, h1, h2, h3⟩ := hx.form
  have ht : ∀ y : Int, -6 ≤ y ∧ y ≤ 6 → ∀ D : Int, -6 ≤ Int.tdiv y D ∧ Int.tdiv y D ≤ 6 := by
    intro y hy D
    have h1 := Int.natAbs_tdiv y D
    have h2 := Nat.div_le_self y.natAbs D.natAbs
    have h4 : (Int.tdiv y D).natAbs ≤ y.natAbs := by rw [h1]; exact h2
    clear h1 h2
    omega
  exact Six.mk4 (ht _ h0 _) (ht _ h1 _) (ht _ h2 _) (ht _ h3 _)
theorem sgS_gx (hv : Six v) (s : Nat) (hs : s < 2) : gx (sgS v s) = gx v := by
  obtain ⟨a, b, c, d, rfl, h0, h1, h2, h3⟩ := hv.form
  show gcd4 (a * (1 - 2 * (s : Int))).natAbs (b * (1 - 2 * (s : Int))).natAbs (c * (1 - 2 * (s : Int))).natAbs (d * (1 - 2 * (s : Int))).natAbs = gcd4 a.natAbs b.natAbs c.natAbs d.natAbs
  have e : ∀ y : Int, (y * (1 - 2 * (s : Int))).natAbs = y.natAbs := by
    intro y
    rcases (show s = 0 ∨ s = 1 by omega) with rfl | rfl <;> omega
  rw [e, e, e, e]
theorem sign_ev (hrow : ∀ x ∈ rows, Six x) (hrl : rows.length ≤ 100000) (hout : ∀ x ∈ out, Six x) (hlen : out.length ≤ 100000) (hv : Six v) (hg : gx v ≠ 0) (s : Nat) (hs : s < 2)
    (h : Ev (fun k => spec_l6Corners.l3 k rows (addS rows out (lowL (sgS v s))) x4 x5 x6 v ((s + 1 : Nat) : Int)) r) : Ev (fun k => spec_l6Corners.l3 k rows out x4 x5 x6 v (s : Int)) r := by
  have hy := sgS_six v hv s hs
  have hw : wrap64 ((s : Int) + 1) = ((s + 1 : Nat) : Int) := by unfold wrap64; omega
  have h6 := l6_ev rows out x4 x5 x6 v r hout hlen (s : Int) _ (lowL_six hy) out.length 0 (true && rows.all fun r => decide (Sem.dotL r (lowL (sgS v s)) ≥ 0)) (by omega) (by rw [hw]; exact h)
  have h5 := l5_ev rows out x4 x5 x6 v r hrow hrl (s : Int) _ (lowL_six hy) rows.length 0 true (by omega) h6
  have h4 : Ev (fun k => (spec_l6Lower.f k (sgS v s)).bind fun t153 => spec_l6Corners.l5 k rows out x4 x5 x6 v (s : Int) t153 true 0) r := Ev.bind (lower_ev hy (by rw [sgS_gx v hv s hs]; exact hg)) h5
  have h4b : Ev (fun k => spec_l6Corners.l4 k rows out x4 x5 x6 v (s : Int) (sgS v s) ((4 : Nat) : Int)) r := h4.step fun k => by
    show spec_l6Corners.l4 (k + 1) rows out x4 x5 x6 v (s : Int) (sgS v s) _ = _
    simp only [spec_l6Corners.l4]
    rw [if_neg (by omega)]
  have h3 := l4_ev rows out x4 x5 x6 v r hv s hs 4 0 rfl h4b
  refine h3.step fun k => ?_
  show spec_l6Corners.l3 (k + 1) rows out x4 x5 x6 v (s : Int) = _
  simp only [spec_l6Corners.l3]
  rw [if_pos (by omega)]
  rfl
theorem l3_ev (hrow : ∀ x ∈ rows, Six x) (hrl : rows.length ≤ 100000) (hout : ∀ x ∈ out, Six x) (hlen : out.length < 100000) (hv : Six v) (hg : gx v ≠ 0)
    (h : Ev (fun k => spec_l6Corners.l2 k rows (twoS rows out v) x4 x5 (wrap64 (x6 + 1))) r) : Ev (fun k => spec_l6Corners.l3 k rows out x4 x5 x6 v 0) r := by
  have h0 := lowL_six (sgS_six v hv 0 (by omega))
  have h1 := addS_len rows out (lowL (sgS v 0))
  refine sign_ev rows out x4 x5 x6 v r hrow hrl hout (by omega) hv hg 0 (by omega) ?_
  refine sign_ev rows _ x4 x5 x6 v r hrow hrl (addS_six rows out _ h0 hout) (by omega) hv hg 1 (by omega) ?_
  refine h.step fun k => ?_
  show spec_l6Corners.l3 (k + 1) rows _ x4 x5 x6 v 2 = _
  simp only [spec_l6Corners.l3]
  rw [if_neg (by omega)]
  rfl
end
end Go.Proofs.Ytmbninbecclbiaa.Cor
