/- spec.l6Corners answers what the loops over three bounds of impl.cornersOf find. -/
import Derived.Test.YtmbninbecclbiaaSemCorU
namespace Go.Proofs.Ytmbninbecclbiaa.Cor
open Go.RowKit Go.Proofs.Ytmbninbecclbiaa.PA Go.Proofs.YtmbninbecclbiaaW.PrintWords Go.Proofs.YtmbninbecclbiaaW.PrintLast Go.Proofs.YtmbninbecclbiaaW.PrintMore
set_option linter.unusedVariables false
set_option linter.unusedSimpArgs false
open Cone (V dot mnr Zero Par)
set_option linter.unusedSectionVars false

theorem kept_step {rows out : List (List Int)} (ho : ∀ x ∈ out, Kept4 x) {a b c : List Int} (ha : Sem.Four a) (hb : Sem.Four b) (hc : Sem.Four c) : ∀ x ∈ ManR.stepR Sem.dotL rows out a b c, Kept4 x := by
  intro x hx
  rcases (mem_step rows out a b c x).1 hx with h | h
  · exact ho x h
  · rw [h.1]; exact line_kept ha hb hc h.2.1
theorem ul_six {a b c : List Int} (ha : Sem.Four a) (hb : Sem.Four b) (hc : Sem.Four c) : Six (Man.ul (Man.ml a b c) 4) := by
  have hm := Sem.ml_bound ha hb hc
  have hv : ∀ i, i < 4 → -6 ≤ Man.vl (Man.ml a b c) i ∧ Man.vl (Man.ml a b c) i ≤ 6 := fun i hi => by
    have := hm i hi
    unfold Man.vl
    rcases (Man.sg_two i).1 with e | e <;> rw [e] <;> omega
  exact Six.mk4 (hv 0 (by omega)) (hv 1 (by omega)) (hv 2 (by omega)) (hv 3 (by omega))
theorem dot_self_zero {v : List Int} (hv : Six v) : Sem.dotL v v = 0 ↔ gx v = 0 := by
  obtain ⟨a, b, c, d, rfl, _⟩ := hv.form
  have sq : ∀ z : Int, 0 ≤ z * z := fun z => by
    by_cases q : 0 ≤ z
    · exact Int.mul_nonneg q q
    · have := Int.mul_nonneg (show 0 ≤ -z by omega) (show 0 ≤ -z by omega)
      rw [Int.neg_mul_neg] at this
      exact this
  have e : gx [a, b, c, d] = gcd4 a.natAbs b.natAbs c.natAbs d.natAbs := rfl
  rw [e, gcd4_zero]
  show a * a + (b * b + (c * c + (d * d + 0))) = 0 ↔ _
  have h0 := sq a
  have h1 := sq b
  have h2 := sq c
  have h3 := sq d
  have z : ∀ {z : Int}, z * z = 0 → z.natAbs = 0 := fun h => by have := (Int.mul_eq_zero.1 h).elim id id; omega
  constructor
  · intro h
    exact ⟨z (by omega), z (by omega), z (by omega), z (by omega)⟩
  · rintro ⟨z0, z1, z2, z3⟩
    rw [show a = 0 by omega, show b = 0 by omega, show c = 0 by omega, show d = 0 by omega]
    rfl
section
variable (rows : List (List Int)) (h4 : ∀ x ∈ rows, Sem.Four x) (hu : ∀ r ∈ ManR.units, r ∈ rows) (hn : rows.length ≤ 10) (r : List (List Int))
include h4 hu hn
theorem rowF (i : Nat) (hi : i < rows.length) : Sem.Four (rd_L2 rows (i : Int)) := h4 _ (ManR.mem_rd rows _ (by omega) (by omega))
theorem kept_l3 {a b : List Int} (ha : Sem.Four a) (hb : Sem.Four b) {o : List (List Int)} (ho : ∀ x ∈ o, Kept4 x) : ∀ j : Nat, j ≤ rows.length → ∀ x ∈ ManR.l3 Sem.dotL rows a b j o, Kept4 x
  | 0, _ => ho
  | j + 1, hj => kept_step (kept_l3 ha hb ho j (by omega)) ha hb (rowF rows h4 hu hn j (by omega))
theorem kept_l2 {a : List Int} (ha : Sem.Four a) {o : List (List Int)} (ho : ∀ x ∈ o, Kept4 x) : ∀ k : Nat, k ≤ rows.length → ∀ x ∈ ManR.l2 Sem.dotL rows a k o, Kept4 x
  | 0, _ => ho
  | k + 1, hk => kept_l3 rows h4 hu hn ha (rowF rows h4 hu hn k (by omega)) (kept_l2 ha ho k (by omega)) k (by omega)
theorem kept_l1 : ∀ i : Nat, i ≤ rows.length → ∀ x ∈ ManR.l1 Sem.dotL rows i, Kept4 x
  | 0, _ => fun x hx => absurd hx List.not_mem_nil
  | i + 1, hi => kept_l2 rows h4 hu hn (rowF rows h4 hu hn i (by omega)) (kept_l1 i (by omega)) i (by omega)
theorem round_ev (n p q : Nat) (hn' : n < rows.length) (hp : p < n) (hq : q < p) (out : List (List Int)) (hk : ∀ x ∈ out, Kept4 x) (hl : out.length < 100000)
    (h : Ev (fun k => spec_l6Corners.l2 k rows (ManR.stepR Sem.dotL rows out (rd_L2 rows (n : Int)) (rd_L2 rows (p : Int)) (rd_L2 rows (q : Int))) (n : Int) (p : Int) ((q + 1 : Nat) : Int)) r) : Ev (fun k => spec_l6Corners.l2 k rows out (n : Int) (p : Int) (q : Int)) r := by
  have ha := rowF rows h4 hu hn n hn'
  have hb := rowF rows h4 hu hn p (by omega)
  have hc := rowF rows h4 hu hn q (by omega)
  have hw : wrap64 ((q : Int) + 1) = ((q + 1 : Nat) : Int) := by unfold wrap64; omega
  have hmin : spec_l6Minor.f (rd_L2 rows (n : Int)) (rd_L2 rows (p : Int)) (rd_L2 rows (q : Int)) = some (Man.ul (Man.ml (rd_L2 rows (n : Int)) (rd_L2 rows (p : Int)) (rd_L2 rows (q : Int))) 4) := by
    show Man.minF _ _ _ = _
    unfold Man.minF
    rw [if_pos (by rw [Man.of_four ha, Man.of_four hb, Man.of_four hc]; rfl)]
  have hs := ul_six ha hb hc
  have go : Ev (fun k => (spec_l6Dot.f k (Man.ul (Man.ml (rd_L2 rows (n : Int)) (rd_L2 rows (p : Int)) (rd_L2 rows (q : Int))) 4) (Man.ul (Man.ml (rd_L2 rows (n : Int)) (rd_L2 rows (p : Int)) (rd_L2 rows (q : Int))) 4)).bind fun t145 => if t145 = 0 then spec_l6Corners.l2 k rows out (n : Int) (p : Int) (wrap64 ((q : Int) + 1)) else spec_l6Corners.l3 k rows out (n : Int) (p : Int) (q : Int) (Man.ul (Man.ml (rd_L2 rows (n : Int)) (rd_L2 rows (p : Int)) (rd_L2 rows (q : Int))) 4) 0) r := by
    refine Ev.bind (dotS_ev hs hs) ?_
    by_cases hz : Sem.dotL (Man.ul (Man.ml (rd_L2 rows (n : Int)) (rd_L2 rows (p : Int)) (rd_L2 rows (q : Int))) 4) (Man.ul (Man.ml (rd_L2 rows (n : Int)) (rd_L2 rows (p : Int)) (rd_L2 rows (q : Int))) 4) = 0
    · have hg := (dot_self_zero hs).1 hz
      have he : ManR.stepR Sem.dotL rows out (rd_L2 rows (n : Int)) (rd_L2 rows (p : Int)) (rd_L2 rows (q : Int)) = out := by
        unfold ManR.stepR
        rw [if_pos]
        unfold Man.lineL
        rw [if_pos (by rw [← gx_ul]; exact hg)]
      rw [he] at h
      simp only [if_pos hz, hw]
      exact h
    · have hg : gx (Man.ul (Man.ml (rd_L2 rows (n : Int)) (rd_L2 rows (p : Int)) (rd_L2 rows (q : Int))) 4) ≠ 0 := fun e => hz ((dot_self_zero hs).2 e)
      simp only [if_neg hz]
      refine l3_ev rows out _ _ _ _ r (fun x hx => Six.of_four (h4 x hx)) (by omega) (fun x hx => (hk x hx).six) hl hs hg ?_
      rw [two_step h4 hu hk ha hb hc hg, hw]
      exact h
  refine go.step fun k => ?_
  show spec_l6Corners.l2 (k + 1) rows out (n : Int) (p : Int) (q : Int) = _
  simp only [spec_l6Corners.l2]
  rw [if_pos (by omega), if_pos (by omega), if_pos (by omega), if_pos (by omega), if_pos (by omega), if_pos (by omega), if_pos (by omega), hmin]
  rfl
theorem l2c_ev (n p : Nat) (hn' : n < rows.length) (hp : p < n) (o : List (List Int)) (hk : ∀ x ∈ o, Kept4 x) (hl : o.length ≤ 10000)
    (h : Ev (fun k => spec_l6Corners.l1 k rows (ManR.l3 Sem.dotL rows (rd_L2 rows (n : Int)) (rd_L2 rows (p : Int)) p o) (n : Int) ((p + 1 : Nat) : Int)) r) (d : Nat) :
    ∀ q : Nat, q + d = p → Ev (fun k => spec_l6Corners.l2 k rows (ManR.l3 Sem.dotL rows (rd_L2 rows (n : Int)) (rd_L2 rows (p : Int)) q o) (n : Int) (p : Int) (q : Int)) r := by
  have hw : wrap64 ((p : Int) + 1) = ((p + 1 : Nat) : Int) := by unfold wrap64; omega
  induction d with
  | zero =>
    intro q hq
    obtain rfl : q = p := by omega
    refine h.step fun k => ?_
    show spec_l6Corners.l2 (k + 1) rows _ (n : Int) (q : Int) (q : Int) = _
    simp only [spec_l6Corners.l2]
    rw [if_neg (by omega), hw]
  | succ d ih =>
    intro q hq
    have h3 := ManR.l3_len Sem.dotL rows (rd_L2 rows (n : Int)) (rd_L2 rows (p : Int)) o q
    exact round_ev rows h4 hu hn r n p q hn' hp (by omega) _ (kept_l3 rows h4 hu hn (rowF rows h4 hu hn n hn') (rowF rows h4 hu hn p (by omega)) hk q (by omega)) (by omega) (ih (q + 1) (by omega))
theorem l1c_ev (n : Nat) (hn' : n < rows.length) (o : List (List Int)) (hk : ∀ x ∈ o, Kept4 x) (hl : o.length ≤ 9000)
    (h : Ev (fun k => spec_l6Corners.l0 k rows (ManR.l2 Sem.dotL rows (rd_L2 rows (n : Int)) n o) ((n + 1 : Nat) : Int)) r) (d : Nat) :
    ∀ p : Nat, p + d = n → Ev (fun k => spec_l6Corners.l1 k rows (ManR.l2 Sem.dotL rows (rd_L2 rows (n : Int)) p o) (n : Int) (p : Int)) r := by
  have hw : wrap64 ((n : Int) + 1) = ((n + 1 : Nat) : Int) := by unfold wrap64; omega
  induction d with
  | zero =>
    intro p hp
    obtain rfl : p = n := by omega
    refine h.step fun k => ?_
    show spec_l6Corners.l1 (k + 1) rows _ (p : Int) (p : Int) = _
    simp only [spec_l6Corners.l1]
    rw [if_neg (by omega), hw]
  | succ d ih =>
    intro p hp
    have h2 := ManR.l2_len Sem.dotL rows (rd_L2 rows (n : Int)) o p (by omega)
    have hb := l2c_ev rows h4 hu hn r n p hn' (by omega) _ (kept_l2 rows h4 hu hn (rowF rows h4 hu hn n hn') hk p (by omega)) (by omega) (ih (p + 1) (by omega)) p 0 (by omega)
    refine hb.step fun k => ?_
    show spec_l6Corners.l1 (k + 1) rows _ (n : Int) (p : Int) = _
    simp only [spec_l6Corners.l1]
    rw [if_pos (by omega)]
    rfl
theorem l0c_ev (d : Nat) : ∀ n : Nat, n + d = rows.length → Ev (fun k => spec_l6Corners.l0 k rows (ManR.l1 Sem.dotL rows n) (n : Int)) (ManR.l1 Sem.dotL rows rows.length) := by
  induction d with
  | zero =>
    intro n hn'
    obtain rfl : n = rows.length := by omega
    refine Ev.one fun k => ?_
    simp only [spec_l6Corners.l0]
    rw [if_neg (by omega)]
  | succ d ih =>
    intro n hn'
    have h1 := ManR.l1_len Sem.dotL rows n (by omega)
    have hb := l1c_ev rows h4 hu hn _ n (by omega) _ (kept_l1 rows h4 hu hn n (by omega)) (by omega) (ih (n + 1) (by omega)) n 0 (by omega)
    refine hb.step fun k => ?_
    show spec_l6Corners.l0 (k + 1) rows _ (n : Int) = _
    simp only [spec_l6Corners.l0]
    rw [if_pos (by omega)]
    rfl
theorem corners_ev : Ev (fun k => spec_l6Corners.f k rows) (ManR.l1 Sem.dotL rows rows.length) := l0c_ev rows h4 hu hn rows.length 0 (by omega)
end
end Go.Proofs.Ytmbninbecclbiaa.Cor
