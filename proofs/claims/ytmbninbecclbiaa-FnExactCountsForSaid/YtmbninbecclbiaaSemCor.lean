/- The corners that the loops over three bounds find, in plain words; bounds that are sums of the units' change nothing. -/
import Derived.Test.YtmbninbecclbiaaSemLine
namespace Go.Proofs.Ytmbninbecclbiaa.Cor
open Go.RowKit Go.Proofs.Ytmbninbecclbiaa.PA Go.Proofs.YtmbninbecclbiaaW.PrintWords Go.Proofs.YtmbninbecclbiaaW.PrintLast Go.Proofs.YtmbninbecclbiaaW.PrintMore
set_option linter.unusedVariables false
set_option linter.unusedSimpArgs false
open Cone (V dot mnr Zero Par)

def pt (l : List Int) : V := ⟨rd l 0, rd l 1, rd l 2, rd l 3⟩
theorem dot_pt {a b : List Int} (ha : a.length = 4) (hb : b.length = 4) : Sem.dotL a b = dot (pt a) (pt b) := by
  match a, ha, b, hb with
  | [a0, a1, a2, a3], _, [b0, b1, b2, b3], _ =>
    show a0 * b0 + (a1 * b1 + (a2 * b2 + (a3 * b3 + 0))) = a0 * b0 + a1 * b1 + a2 * b2 + a3 * b3
    omega
theorem dot_comm (x y : V) : dot x y = dot y x := by unfold dot; grind
theorem vl_mn {a b c : List Int} (ha : Sem.Four a) (hb : Sem.Four b) (hc : Sem.Four c) :
    Man.vl (Man.ml a b c) 0 = (mnr (pt a) (pt b) (pt c)).a ∧ Man.vl (Man.ml a b c) 1 = (mnr (pt a) (pt b) (pt c)).b ∧ Man.vl (Man.ml a b c) 2 = (mnr (pt a) (pt b) (pt c)).c ∧ Man.vl (Man.ml a b c) 3 = (mnr (pt a) (pt b) (pt c)).d := by
  obtain ⟨a0, a1, a2, a3, rfl, h0, h1, h2, h3⟩ := Sem.four_form ha
  obtain ⟨b0, b1, b2, b3, rfl, i0, i1, i2, i3⟩ := Sem.four_form hb
  obtain ⟨c0, c1, c2, c3, rfl, j0, j1, j2, j3⟩ := Sem.four_form hc
  have q0 := (Sem.detW_eq h1 h2 h3 i1 i2 i3 j1 j2 j3).1
  have q1 := (Sem.detW_eq h0 h2 h3 i0 i2 i3 j0 j2 j3).1
  have q2 := (Sem.detW_eq h0 h1 h3 i0 i1 i3 j0 j1 j3).1
  have q3 := (Sem.detW_eq h0 h1 h2 i0 i1 i2 j0 j1 j2).1
  refine ⟨?_, ?_, ?_, ?_⟩
  · show 1 * Man.detW a1 a2 a3 b1 b2 b3 c1 c2 c3 = Sem.det a1 a2 a3 b1 b2 b3 c1 c2 c3
    rw [q0, Int.one_mul]
  · show -1 * Man.detW a0 a2 a3 b0 b2 b3 c0 c2 c3 = -Sem.det a0 a2 a3 b0 b2 b3 c0 c2 c3
    rw [q1]; omega
  · show 1 * Man.detW a0 a1 a3 b0 b1 b3 c0 c1 c3 = Sem.det a0 a1 a3 b0 b1 b3 c0 c1 c3
    rw [q2, Int.one_mul]
  · show -1 * Man.detW a0 a1 a2 b0 b1 b2 c0 c1 c2 = -Sem.det a0 a1 a2 b0 b1 b2 c0 c1 c2
    rw [q3]; omega
/-- What three bounds' line is. -/
structure OnLine (a b c x : List Int) : Prop where
  len : x.length = 4
  prim : Prim (rd x 0) (rd x 1) (rd x 2) (rd x 3)
  ne : ¬ Zero (mnr (pt a) (pt b) (pt c))
  ta : dot (pt a) (pt x) = 0
  tb : dot (pt b) (pt x) = 0
  tc : dot (pt c) (pt x) = 0
theorem line_on {a b c x : List Int} (ha : Sem.Four a) (hb : Sem.Four b) (hc : Sem.Four c) (h : x = Man.lineL (Man.ml a b c)) (hx : Man.lineL (Man.ml a b c) ≠ []) : OnLine a b c x := by
  obtain ⟨D, x0, x1, x2, x3, hD, hl, hp, e0, e1, e2, e3⟩ := line_some _ hx
  obtain ⟨m0, m1, m2, m3⟩ := vl_mn ha hb hc
  rw [m0] at e0
  rw [m1] at e1
  rw [m2] at e2
  rw [m3] at e3
  rw [hl] at h
  subst h
  have d0 : ∀ v : V, dot v (mnr (pt a) (pt b) (pt c)) = 0 → dot v (pt [x0, x1, x2, x3]) = 0 := by
    intro v hv
    have : dot v (mnr (pt a) (pt b) (pt c)) = D * dot v (pt [x0, x1, x2, x3]) := by
      show v.a * (mnr (pt a) (pt b) (pt c)).a + v.b * (mnr (pt a) (pt b) (pt c)).b + v.c * (mnr (pt a) (pt b) (pt c)).c + v.d * (mnr (pt a) (pt b) (pt c)).d = D * (v.a * x0 + v.b * x1 + v.c * x2 + v.d * x3)
      rw [e0, e1, e2, e3]
      grind
    rw [this] at hv
    exact (Int.mul_eq_zero.1 hv).resolve_left hD
  refine ⟨rfl, hp, ?_, d0 _ (Cone.dot_mnr0 _ _ _), d0 _ (Cone.dot_mnr1 _ _ _), d0 _ (Cone.dot_mnr2 _ _ _)⟩
  intro hz
  obtain ⟨z0, z1, z2, z3⟩ := hz
  rw [z0] at e0
  rw [z1] at e1
  rw [z2] at e2
  rw [z3] at e3
  have y0 := (Int.mul_eq_zero.1 e0.symm).resolve_left hD
  have y1 := (Int.mul_eq_zero.1 e1.symm).resolve_left hD
  have y2 := (Int.mul_eq_zero.1 e2.symm).resolve_left hD
  have y3 := (Int.mul_eq_zero.1 e3.symm).resolve_left hD
  have := hp.g
  rw [y0, y1, y2, y3] at this
  exact absurd this (by decide)
theorem on_line {a b c x : List Int} (ha : Sem.Four a) (hb : Sem.Four b) (hc : Sem.Four c) (h : OnLine a b c x) : x = Man.lineL (Man.ml a b c) ∧ Man.lineL (Man.ml a b c) ≠ [] := by
  obtain ⟨hl, hp, hz, ta, tb, tc⟩ := h
  have hpar := Cone.par_ker ta tb tc
  obtain ⟨m0, m1, m2, m3⟩ := vl_mn ha hb hc
  match x, hl with
  | [x0, x1, x2, x3], _ =>
    have := line_of (Man.ml a b c) hp (by rw [m0, m1, m2, m3]; exact hz) (by rw [m0, m1]; exact hpar.ab) (by rw [m0, m2]; exact hpar.ac) (by rw [m0, m3]; exact hpar.ad) (by rw [m1, m2]; exact hpar.bc) (by rw [m1, m3]; exact hpar.bd) (by rw [m2, m3]; exact hpar.cd)
    exact ⟨this.symm, by rw [this]; exact List.cons_ne_nil _ _⟩
section
open ManR
variable (bs : List (List Int))
def Okc (a b c x : List Int) : Prop := x = Man.lineL (Man.ml a b c) ∧ Man.lineL (Man.ml a b c) ≠ [] ∧ ∀ r ∈ bs, ¬ Sem.dotL x r < 0
theorem mem_step (o : List (List Int)) (a b c x : List Int) : x ∈ stepR Sem.dotL bs o a b c ↔ x ∈ o ∨ Okc bs a b c x := by
  unfold stepR Okc
  generalize Man.lineL (Man.ml a b c) = y
  by_cases h1 : y = []
  · rw [if_pos h1]
    exact ⟨Or.inl, fun h => h.elim id (fun h => absurd h1 h.2.1)⟩
  · rw [if_neg h1]
    by_cases h2 : (bs.any fun x => decide (Sem.dotL y x < 0)) = true
    · rw [if_pos h2]
      refine ⟨Or.inl, fun h => h.elim id (fun h => ?_)⟩
      obtain ⟨r, hr, hd⟩ := List.any_eq_true.1 h2
      exact absurd (of_decide_eq_true hd) (h.1 ▸ h.2.2 r hr)
    · rw [if_neg h2]
      have h2' : ∀ r ∈ bs, ¬ Sem.dotL y r < 0 := fun r hr hd => h2 (List.any_eq_true.2 ⟨r, hr, decide_eq_true hd⟩)
      by_cases h3 : (o.any fun x => decide (x = y)) = true
      · rw [if_pos h3]
        obtain ⟨z, hz, he⟩ := List.any_eq_true.1 h3
        refine ⟨Or.inl, fun h => h.elim id (fun h => ?_)⟩
        rw [h.1, ← of_decide_eq_true he]
        exact hz
      · rw [if_neg h3, List.mem_append, List.mem_singleton]
        exact ⟨fun h => h.elim Or.inl (fun h => Or.inr ⟨h, h1, h ▸ h2'⟩), fun h => h.elim Or.inl (fun h => Or.inr h.1)⟩
theorem mem_l3 (a b : List Int) (o : List (List Int)) (x : List Int) : ∀ j : Nat, x ∈ l3 Sem.dotL bs a b j o ↔ x ∈ o ∨ ∃ q : Nat, q < j ∧ Okc bs a b (rd_L2 bs (q : Int)) x
  | 0 => ⟨Or.inl, fun h => h.elim id (fun ⟨q, hq, _⟩ => absurd hq (Nat.not_lt_zero _))⟩
  | j + 1 => by
    show x ∈ stepR Sem.dotL bs _ a b _ ↔ _
    rw [mem_step, mem_l3 a b o x j]
    constructor
    · rintro ((h | ⟨q, hq, h⟩) | h)
      · exact Or.inl h
      · exact Or.inr ⟨q, by omega, h⟩
      · exact Or.inr ⟨j, by omega, h⟩
    · rintro (h | ⟨q, hq, h⟩)
      · exact Or.inl (Or.inl h)
      · by_cases e : q = j
        · exact Or.inr (e ▸ h)
        · exact Or.inl (Or.inr ⟨q, by omega, h⟩)
theorem mem_l2 (a : List Int) (o : List (List Int)) (x : List Int) : ∀ k : Nat, x ∈ l2 Sem.dotL bs a k o ↔ x ∈ o ∨ ∃ p q : Nat, p < k ∧ q < p ∧ Okc bs a (rd_L2 bs (p : Int)) (rd_L2 bs (q : Int)) x
  | 0 => ⟨Or.inl, fun h => h.elim id (fun ⟨p, q, hq, _⟩ => absurd hq (Nat.not_lt_zero _))⟩
  | k + 1 => by
    show x ∈ l3 Sem.dotL bs a _ k _ ↔ _
    rw [mem_l3, mem_l2 a o x k]
    constructor
    · rintro ((h | ⟨p, q, hp, hq, h⟩) | ⟨q, hq, h⟩)
      · exact Or.inl h
      · exact Or.inr ⟨p, q, by omega, hq, h⟩
      · exact Or.inr ⟨k, q, by omega, hq, h⟩
    · rintro (h | ⟨p, q, hp, hq, h⟩)
      · exact Or.inl (Or.inl h)
      · by_cases e : p = k
        · subst e; exact Or.inr ⟨q, hq, h⟩
        · exact Or.inl (Or.inr ⟨p, q, by omega, hq, h⟩)
theorem mem_l1 (x : List Int) : ∀ i : Nat, x ∈ l1 Sem.dotL bs i ↔ ∃ n p q : Nat, n < i ∧ p < n ∧ q < p ∧ Okc bs (rd_L2 bs (n : Int)) (rd_L2 bs (p : Int)) (rd_L2 bs (q : Int)) x
  | 0 => ⟨fun h => absurd h List.not_mem_nil, fun ⟨n, _, _, h, _⟩ => absurd h (Nat.not_lt_zero _)⟩
  | i + 1 => by
    show x ∈ l2 Sem.dotL bs _ i _ ↔ _
    rw [mem_l2, mem_l1 x i]
    constructor
    · rintro (⟨n, p, q, hn, hp, hq, h⟩ | ⟨p, q, hp, hq, h⟩)
      · exact ⟨n, p, q, by omega, hp, hq, h⟩
      · exact ⟨i, p, q, by omega, hp, hq, h⟩
    · rintro ⟨n, p, q, hn, hp, hq, h⟩
      by_cases e : n = i
      · subst e; exact Or.inr ⟨p, q, hp, hq, h⟩
      · exact Or.inl ⟨n, p, q, by omega, hp, hq, h⟩
/-- A corner of bounds. -/
structure Corner (x : List Int) : Prop where
  len : x.length = 4
  prim : Prim (rd x 0) (rd x 1) (rd x 2) (rd x 3)
  good : ∀ r ∈ bs, 0 ≤ dot (pt r) (pt x)
  tight : ∃ a b c, a ∈ bs ∧ b ∈ bs ∧ c ∈ bs ∧ ¬ Zero (mnr (pt a) (pt b) (pt c)) ∧ dot (pt a) (pt x) = 0 ∧ dot (pt b) (pt x) = 0 ∧ dot (pt c) (pt x) = 0
end
theorem swap1 (x y z : V) (h : Zero (mnr y x z)) : Zero (mnr x y z) := by
  have e : ∀ {p q : Int}, p = -q → q = 0 → p = 0 := by intros; omega
  refine ⟨e ?_ h.1, e ?_ h.2.1, e ?_ h.2.2.1, e ?_ h.2.2.2⟩ <;> (unfold mnr; grind)
theorem swap2 (x y z : V) (h : Zero (mnr x z y)) : Zero (mnr x y z) := by
  have e : ∀ {p q : Int}, p = -q → q = 0 → p = 0 := by intros; omega
  refine ⟨e ?_ h.1, e ?_ h.2.1, e ?_ h.2.2.1, e ?_ h.2.2.2⟩ <;> (unfold mnr; grind)
theorem same1 (x z : V) : Zero (mnr x x z) := by refine ⟨?_, ?_, ?_, ?_⟩ <;> (unfold mnr; grind)
theorem same2 (x y : V) : Zero (mnr x y y) := by refine ⟨?_, ?_, ?_, ?_⟩ <;> (unfold mnr; grind)
theorem get_rd {bs : List (List Int)} {a : List Int} (h : a ∈ bs) : ∃ i : Nat, i < bs.length ∧ rd_L2 bs (i : Int) = a := by
  obtain ⟨i, hi, e⟩ := List.mem_iff_getElem.1 h
  refine ⟨i, hi, ?_⟩
  unfold rd_L2
  rw [List.getD_eq_getElem?_getD, List.getElem?_eq_getElem (by omega)]
  exact e
theorem corner_iff (bs : List (List Int)) (h4 : ∀ x ∈ bs, Sem.Four x) (x : List Int) : x ∈ ManR.l1 Sem.dotL bs bs.length ↔ Corner bs x := by
  have hm : ∀ i : Nat, i < bs.length → rd_L2 bs (i : Int) ∈ bs := fun i hi => ManR.mem_rd bs _ (by omega) (by omega)
  have hF : ∀ i : Nat, i < bs.length → Sem.Four (rd_L2 bs (i : Int)) := fun i hi => h4 _ (hm i hi)
  rw [mem_l1]
  constructor
  · rintro ⟨n, p, q, hn, hp, hq, h⟩
    have ho := line_on (hF n (by omega)) (hF p (by omega)) (hF q (by omega)) h.1 h.2.1
    refine ⟨ho.len, ho.prim, fun r hr => ?_, _, _, _, hm n (by omega), hm p (by omega), hm q (by omega), ho.ne, ho.ta, ho.tb, ho.tc⟩
    have := h.2.2 r hr
    rw [dot_pt ho.len (h4 r hr).1, dot_comm] at this
    omega
  · intro hC
    obtain ⟨a, b, c, ha, hb, hc, hz, ta, tb, tc⟩ := hC.tight
    obtain ⟨i, hi, ea⟩ := get_rd ha
    obtain ⟨j, hj, eb⟩ := get_rd hb
    obtain ⟨k, hk, ec⟩ := get_rd hc
    subst ea; subst eb; subst ec
    have key : ∀ i j k : Nat, i < bs.length → j < i → k < j → ¬ Zero (mnr (pt (rd_L2 bs (i : Int))) (pt (rd_L2 bs (j : Int))) (pt (rd_L2 bs (k : Int)))) → dot (pt (rd_L2 bs (i : Int))) (pt x) = 0 → dot (pt (rd_L2 bs (j : Int))) (pt x) = 0 → dot (pt (rd_L2 bs (k : Int))) (pt x) = 0 →
        ∃ n p q : Nat, n < bs.length ∧ p < n ∧ q < p ∧ Okc bs (rd_L2 bs (n : Int)) (rd_L2 bs (p : Int)) (rd_L2 bs (q : Int)) x := by
      intro i j k hi hj hk hz ta tb tc
      obtain ⟨e, hne⟩ := on_line (hF i (by omega)) (hF j (by omega)) (hF k (by omega)) ⟨hC.len, hC.prim, hz, ta, tb, tc⟩
      refine ⟨i, j, k, hi, hj, hk, e, hne, fun r hr => ?_⟩
      have := hC.good r hr
      rw [dot_pt hC.len (h4 r hr).1, dot_comm]
      omega
    have nij : i ≠ j := fun e => hz (e ▸ same1 _ _)
    have njk : j ≠ k := fun e => hz (e ▸ same2 _ _)
    have nik : i ≠ k := fun e => hz (by subst e; exact swap2 _ _ _ (same1 _ _))
    by_cases h1 : j < i
    · by_cases h2 : k < j
      · exact key i j k hi h1 h2 hz ta tb tc
      · by_cases h3 : k < i
        · exact key i k j hi h3 (by omega) (fun h => hz (swap2 _ _ _ h)) ta tc tb
        · exact key k i j hk (by omega) h1 (fun h => hz (swap2 _ _ _ (swap1 _ _ _ h))) tc ta tb
    · by_cases h2 : k < i
      · exact key j i k hj (by omega) h2 (fun h => hz (swap1 _ _ _ h)) tb ta tc
      · by_cases h3 : k < j
        · exact key j k i hj h3 (by omega) (fun h => hz (swap1 _ _ _ (swap2 _ _ _ h))) tb tc ta
        · exact key k j i hk (by omega) (by omega) (fun h => hz (swap1 _ _ _ (swap2 _ _ _ (swap1 _ _ _ h)))) tc tb ta
/-- A bound that is a sum of units' gives way to one of these. -/
theorem exch {a b c x : V} (ha : 0 ≤ a.a ∧ 0 ≤ a.b ∧ 0 ≤ a.c ∧ 0 ≤ a.d) (hx : 0 ≤ x.a ∧ 0 ≤ x.b ∧ 0 ≤ x.c ∧ 0 ≤ x.d) (ht : dot a x = 0) (hz : ¬ Zero (mnr a b c)) :
    ∃ e : V, (e = Cone.e0 ∨ e = Cone.e1 ∨ e = Cone.e2 ∨ e = Cone.e3) ∧ dot e x = 0 ∧ ¬ Zero (mnr e b c) := by
  have p0 := Int.mul_nonneg ha.1 hx.1
  have p1 := Int.mul_nonneg ha.2.1 hx.2.1
  have p2 := Int.mul_nonneg ha.2.2.1 hx.2.2.1
  have p3 := Int.mul_nonneg ha.2.2.2 hx.2.2.2
  unfold dot at ht
  have t0 := Int.mul_eq_zero.1 (show a.a * x.a = 0 by omega)
  have t1 := Int.mul_eq_zero.1 (show a.b * x.b = 0 by omega)
  have t2 := Int.mul_eq_zero.1 (show a.c * x.c = 0 by omega)
  have t3 := Int.mul_eq_zero.1 (show a.d * x.d = 0 by omega)
  have g : ∀ (e : V) (s t : Int), dot e x = t → (s = 0 ∨ t = 0) → ((e = Cone.e0 ∨ e = Cone.e1 ∨ e = Cone.e2 ∨ e = Cone.e3)) → (∃ e : V, (e = Cone.e0 ∨ e = Cone.e1 ∨ e = Cone.e2 ∨ e = Cone.e3) ∧ dot e x = 0 ∧ ¬ Zero (mnr e b c)) ∨ (s * (mnr e b c).a = 0 ∧ s * (mnr e b c).b = 0 ∧ s * (mnr e b c).c = 0 ∧ s * (mnr e b c).d = 0) := by
    intro e s t he hst hu
    rcases hst with h | h
    · right; rw [h]; simp
    · by_cases q : Zero (mnr e b c)
      · right; rw [q.1, q.2.1, q.2.2.1, q.2.2.2]; simp
      · exact Or.inl ⟨e, hu, by rw [he, h], q⟩
  rcases g Cone.e0 _ _ (Cone.dot_e0 x) t0 (Or.inl rfl) with h | q0
  · exact h
  rcases g Cone.e1 _ _ (Cone.dot_e1 x) t1 (Or.inr (Or.inl rfl)) with h | q1
  · exact h
  rcases g Cone.e2 _ _ (Cone.dot_e2 x) t2 (Or.inr (Or.inr (Or.inl rfl))) with h | q2
  · exact h
  rcases g Cone.e3 _ _ (Cone.dot_e3 x) t3 (Or.inr (Or.inr (Or.inr rfl))) with h | q3
  · exact h
  refine absurd ?_ hz
  have sum : ∀ {y p q r s : Int}, y = p + q + r + s → p = 0 → q = 0 → r = 0 → s = 0 → y = 0 := by intros; omega
  refine ⟨sum ?_ q0.1 q1.1 q2.1 q3.1, sum ?_ q0.2.1 q1.2.1 q2.2.1 q3.2.1, sum ?_ q0.2.2.1 q1.2.2.1 q2.2.2.1 q3.2.2.1, sum ?_ q0.2.2.2 q1.2.2.2 q2.2.2.2 q3.2.2.2⟩ <;> (unfold mnr Cone.e0 Cone.e1 Cone.e2 Cone.e3; grind)
theorem corner_same {B B' : List (List Int)} (hs : ∀ r ∈ B', r ∈ B) (hu : ∀ r ∈ ManR.units, r ∈ B') (hp : ∀ r ∈ B, r ∈ B' ∨ (0 ≤ rd r 0 ∧ 0 ≤ rd r 1 ∧ 0 ≤ rd r 2 ∧ 0 ≤ rd r 3)) (x : List Int) : Corner B x ↔ Corner B' x := by
  constructor
  · intro h
    obtain ⟨a, b, c, ha, hb, hc, hz, ta, tb, tc⟩ := h.tight
    have hx : 0 ≤ (pt x).a ∧ 0 ≤ (pt x).b ∧ 0 ≤ (pt x).c ∧ 0 ≤ (pt x).d := ⟨h.prim.n0, h.prim.n1, h.prim.n2, h.prim.n3⟩
    have one : ∀ (a : List Int) (b c : V), a ∈ B → dot (pt a) (pt x) = 0 → ¬ Zero (mnr (pt a) b c) → ∃ a', a' ∈ B' ∧ dot (pt a') (pt x) = 0 ∧ ¬ Zero (mnr (pt a') b c) := by
      intro a b c ha ht hz
      rcases hp a ha with h1 | h1
      · exact ⟨a, h1, ht, hz⟩
      · obtain ⟨e, he, h2, h3⟩ := exch (a := pt a) h1 hx ht hz
        rcases he with rfl | rfl | rfl | rfl
        · exact ⟨[1, 0, 0, 0], hu _ (by decide), h2, h3⟩
        · exact ⟨[0, 1, 0, 0], hu _ (by decide), h2, h3⟩
        · exact ⟨[0, 0, 1, 0], hu _ (by decide), h2, h3⟩
        · exact ⟨[0, 0, 0, 1], hu _ (by decide), h2, h3⟩
    obtain ⟨a', ha', ta', hz⟩ := one a _ _ ha ta hz
    obtain ⟨b', hb', tb', hz⟩ := one b _ _ hb tb (fun h => hz (swap1 _ _ _ h))
    obtain ⟨c', hc', tc', hz⟩ := one c (pt b') (pt a') hc tc (fun h => hz (swap2 _ _ _ (swap1 _ _ _ h)))
    exact ⟨h.len, h.prim, fun r hr => h.good r (hs r hr), c', b', a', hc', hb', ha', hz, tc', tb', ta'⟩
  · intro h
    obtain ⟨a, b, c, ha, hb, hc, hz, ta, tb, tc⟩ := h.tight
    refine ⟨h.len, h.prim, fun r hr => ?_, a, b, c, hs _ ha, hs _ hb, hs _ hc, hz, ta, tb, tc⟩
    rcases hp r hr with h1 | h1
    · exact h.good r h1
    · have p0 := Int.mul_nonneg h1.1 h.prim.n0
      have p1 := Int.mul_nonneg h1.2.1 h.prim.n1
      have p2 := Int.mul_nonneg h1.2.2.1 h.prim.n2
      have p3 := Int.mul_nonneg h1.2.2.2 h.prim.n3
      show 0 ≤ rd r 0 * rd x 0 + rd r 1 * rd x 1 + rd r 2 * rd x 2 + rd r 3 * rd x 3
      omega
end Go.Proofs.Ytmbninbecclbiaa.Cor
