/- SplitOf and Between of both programs, in plain words; no condition but a row's length. -/
import Derived.Test.YtmeamfkjfpaciaaSemTriB
import Derived.Test.YtmeamfkjfpaciaaPAx15
import Derived.Test.YtmeamfkjfpaciaaPAx18
import Derived.Test.YtmeamfkjfpaciaaPAx16
import Derived.Test.YtmeamfkjfpaciaaPAx17
namespace Go.Proofs.Ytmeamfkjfpaciaa.Sem
open Go.RowKit Go.Proofs.Ytmeamfkjfpaciaa.PA Go.Proofs.YtmeamfkjfpaciaaW.PrintWords Go.Proofs.YtmeamfkjfpaciaaW.PrintLast Go.Proofs.YtmeamfkjfpaciaaW.PrintMore
set_option linter.unusedVariables false
set_option linter.unusedSimpArgs false
open Man (hB pl ent triRow preT stayB badIn badTo anyFr upP dnP moP feP faP inP boP)
set_option linter.unusedSectionVars false

theorem and_bits : (decide (Go.bits .and .i64 0 0 = 0) && (decide (Go.bits .and .i64 0 1 = 0) && (decide (Go.bits .and .i64 1 0 = 0) && decide (Go.bits .and .i64 1 1 = 1)))) = true := by kernel_rfl
theorem and_bit (p q : Bool) : Go.bits .and .i64 (if p = true then 1 else 0) (if q = true then 1 else 0) = if (p && q) = true then 1 else 0 := by
  have h := and_bits
  simp only [Bool.and_eq_true, decide_eq_true_eq] at h
  cases p <;> cases q
  · exact h.1
  · exact h.2.1
  · exact h.2.2.1
  · exact h.2.2.2
/-- Is a place fine? -/
def fineB (t : List Int) (i : Nat) : Bool := !(upP t (ra i) (rs i) && dnP t (ra i) (rs i)) || hB t (ra i) (rs i)
def btwB (t : List Int) : Bool := (List.range' 0 21).all (fineB t)
def bi (b : Bool) : Int := if b = true then 1 else 0
theorem mx_bi (p q : Bool) : mx (bi p) (bi q) = bi (p || q) := by
  unfold bi
  cases p <;> cases q <;> decide
theorem ent_bi (p : Nat → Nat → Bool) (a s : Nat) : ent p a s = bi (p a s) := rfl
section
variable {t : List Int} (h : triB t = true)
include h
theorem cell_eq (i : Nat) (hi : i < 21) : (Go.bits .and .i64 (rd (triRow (upP t)) (i : Int)) (rd (triRow (dnP t)) (i : Int)) = rd t (i : Int)) ↔ fineB t i = true := by
  obtain ⟨p1, p2, p3⟩ := ra_at i hi
  have e1 := triRow_at (upP t) (ra i) (rs i) p1 p2
  have e2 := triRow_at (dnP t) (ra i) (rs i) p1 p2
  have e3 := tri_bit h (ra i) (rs i) p1 p2
  rw [p3] at e1 e2 e3
  rw [e1, e2, e3]
  unfold Man.ent fineB
  rw [and_bit]
  cases e : hB t (ra i) (rs i) with
  | true =>
    rw [up_self e, dn_self p2 e]
    simp
  | false =>
    cases upP t (ra i) (rs i) <;> cases dnP t (ra i) (rs i) <;> simp
theorem between_go (d : Nat) : ∀ i, i + d = 21 → Ev (fun k => impl_between.l0 k t (triRow (upP t)) (triRow (dnP t)) (t.length : Int) (i : Int)) ((List.range' i d).all (fineB t)) := by
  have hl := tri_len h
  induction d with
  | zero =>
    intro i hi
    refine ev1 fun k => ?_
    simp only [impl_between.l0]
    rw [if_neg (by omega)]
    rfl
  | succ d ih =>
    intro i hi
    have hw : wrap64 ((i : Int) + 1) = ((i + 1 : Nat) : Int) := by unfold wrap64; omega
    have hc := cell_eq h i (by omega)
    have hu : (triRow (upP t)).length = 21 := triRow_len _
    have hd : (triRow (dnP t)).length = 21 := triRow_len _
    rw [List.range'_succ, List.all_cons]
    cases e : fineB t i with
    | true =>
      rw [Bool.true_and]
      refine Ev.step (f := fun k => impl_between.l0 k t (triRow (upP t)) (triRow (dnP t)) (t.length : Int) ((i + 1 : Nat) : Int)) (fun k => ?_) (ih (i + 1) (by omega))
      simp only [impl_between.l0]
      rw [if_pos (by omega), if_pos (by omega), if_pos (by omega), if_pos (by omega), if_pos (by omega), if_pos (hc.2 e), hw]
    | false =>
      rw [Bool.false_and]
      refine ev1 fun k => ?_
      simp only [impl_between.l0]
      rw [if_pos (by omega), if_pos (by omega), if_pos (by omega), if_pos (by omega), if_pos (by omega), if_neg (fun q => by rw [hc.1 q] at e; exact absurd e (by simp))]
theorem impl_between_ev : Ev (fun k => impl_between.f k t) (btwB t) := by
  unfold impl_between.f
  have e : impl_splitOf.f t = some (triRow (upP t), triRow (dnP t)) := by
    unfold impl_splitOf.f
    rw [if_pos (by rw [tri_len h]; omega)]
  simp only [e, Option.bind_some]
  exact between_go h 21 0 (by omega)
theorem btwB_iff : btwB t = true ↔ Btw t := by
  unfold btwB
  rw [List.all_eq_true]
  constructor
  · intro hb a ha s hs h1 h2
    have hr := Man.pl_range a s ha hs
    obtain ⟨n, hn⟩ := Int.eq_ofNat_of_zero_le hr.1
    have hfa := hb n (by rw [List.mem_range'_1]; omega)
    have hn2 : n < 21 := by omega
    have hra : ∀ a s : Nat, a ≤ 5 → s ≤ a → ∀ n : Nat, n < 21 → pl a s = (n : Int) → ra n = a ∧ rs n = s := by
      intro a s ha hs n hn e
      have q1 : a = 0 ∨ a = 1 ∨ a = 2 ∨ a = 3 ∨ a = 4 ∨ a = 5 := by omega
      have q2 : s = 0 ∨ s = 1 ∨ s = 2 ∨ s = 3 ∨ s = 4 ∨ s = 5 := by omega
      unfold Man.pl at e
      rcases q1 with rfl | rfl | rfl | rfl | rfl | rfl <;> rcases q2 with rfl | rfl | rfl | rfl | rfl | rfl <;> first | (exfalso; omega) | (have e := Int.ofNat.inj e; subst e; exact ⟨rfl, rfl⟩)
    obtain ⟨e1, e2⟩ := hra a s ha hs n hn2 hn
    unfold fineB at hfa
    rw [e1, e2, h1, h2] at hfa
    simpa using hfa
  · intro hb i hi
    rw [List.mem_range'_1] at hi
    obtain ⟨p1, p2, _⟩ := ra_at i (by omega)
    unfold fineB
    cases e1 : upP t (ra i) (rs i) with
    | false => rfl
    | true =>
      cases e2 : dnP t (ra i) (rs i) with
      | false => rfl
      | true => rw [hb _ p1 _ p2 e1 e2]; rfl
/-! ### the reference -/
def q3 (t : List Int) (a lo hi k : Nat) : Bool := !(hB t a lo && hB t a hi) || hB t a k
theorem rd1 (a s : Nat) (ha : a ≤ 5) (hs : s ≤ a) : (rd t (pl a s) = 1 ↔ hB t a s = true) ∧ (rd t (pl a s) = 0 ↔ hB t a s = false) := by
  have := tri_bit h a s ha hs
  rw [this]
  cases hB t a s <;> simp
theorem l3_go (a lo hi : Nat) (ha : a ≤ 5) (h2 : hi ≤ a) (h1 : lo ≤ hi) (r : Bool) (hn : Ev (fun k => spec_Between.l2 k t (a : Int) (lo : Int) ((hi + 1 : Nat) : Int)) r) (d : Nat) : ∀ k, lo ≤ k → k + d = hi + 1 → Ev (fun n => spec_Between.l3 n t (a : Int) (lo : Int) (hi : Int) (k : Int)) ((List.range' k d).all (q3 t a lo hi) && r) := by
  have hl := tri_len h
  have hw1 : wrap64 ((hi : Int) + 1) = ((hi + 1 : Nat) : Int) := by unfold wrap64; omega
  induction d with
  | zero =>
    intro k _ hk
    refine Ev.step (f := fun n => spec_Between.l2 n t (a : Int) (lo : Int) ((hi + 1 : Nat) : Int)) (fun n => ?_) (by simpa using hn)
    simp only [spec_Between.l3]
    rw [if_neg (by omega), hw1]
  | succ d ih =>
    intro k hk0 hk
    have hw : wrap64 ((k : Int) + 1) = ((k + 1 : Nat) : Int) := by unfold wrap64; omega
    have ih := ih (k + 1) (by omega) (by omega)
    have r1 := Man.pl_range a lo ha (by omega)
    have r2 := Man.pl_range a hi ha (by omega)
    have r3 := Man.pl_range a k ha (by omega)
    have b1 := rd1 h a lo ha (by omega)
    have b2 := rd1 h a hi ha (by omega)
    have b3 := rd1 h a k ha (by omega)
    rw [List.range'_succ, List.all_cons]
    by_cases c1 : hB t a lo = true
    · by_cases c2 : hB t a hi = true
      · by_cases c3 : hB t a k = true
        · have e : q3 t a lo hi k = true := by unfold q3; rw [c1, c2, c3]; rfl
          rw [e, Bool.true_and]
          refine Ev.step (f := fun n => spec_Between.l3 n t (a : Int) (lo : Int) (hi : Int) ((k + 1 : Nat) : Int)) (fun n => ?_) ih
          simp only [spec_Between.l3]
          rw [if_pos (by omega), place_eq a lo ha (by omega), Option.bind_some, if_pos r1.1, if_pos (by omega), if_pos (b1.1.2 c1), place_eq a hi ha (by omega), Option.bind_some, if_pos r2.1, if_pos (by omega), if_pos (b2.1.2 c2), place_eq a k ha (by omega), Option.bind_some, if_pos r3.1, if_pos (by omega), if_neg (fun q => by rw [b3.1.2 c3] at q; omega), hw]
        · have c3 : hB t a k = false := by simpa using c3
          have e : q3 t a lo hi k = false := by unfold q3; rw [c1, c2, c3]; rfl
          rw [e, Bool.false_and, Bool.false_and]
          refine ev1 fun n => ?_
          simp only [spec_Between.l3]
          rw [if_pos (by omega), place_eq a lo ha (by omega), Option.bind_some, if_pos r1.1, if_pos (by omega), if_pos (b1.1.2 c1), place_eq a hi ha (by omega), Option.bind_some, if_pos r2.1, if_pos (by omega), if_pos (b2.1.2 c2), place_eq a k ha (by omega), Option.bind_some, if_pos r3.1, if_pos (by omega), if_pos (b3.2.2 c3)]
      · have c2 : hB t a hi = false := by simpa using c2
        have e : q3 t a lo hi k = true := by unfold q3; rw [c2]; simp
        rw [e, Bool.true_and]
        refine Ev.step (f := fun n => spec_Between.l3 n t (a : Int) (lo : Int) (hi : Int) ((k + 1 : Nat) : Int)) (fun n => ?_) ih
        simp only [spec_Between.l3]
        rw [if_pos (by omega), place_eq a lo ha (by omega), Option.bind_some, if_pos r1.1, if_pos (by omega), if_pos (b1.1.2 c1), place_eq a hi ha (by omega), Option.bind_some, if_pos r2.1, if_pos (by omega), if_neg (fun q => by rw [b2.2.2 c2] at q; omega), hw]
    · have c1 : hB t a lo = false := by simpa using c1
      have e : q3 t a lo hi k = true := by unfold q3; rw [c1]; simp
      rw [e, Bool.true_and]
      refine Ev.step (f := fun n => spec_Between.l3 n t (a : Int) (lo : Int) (hi : Int) ((k + 1 : Nat) : Int)) (fun n => ?_) ih
      simp only [spec_Between.l3]
      rw [if_pos (by omega), place_eq a lo ha (by omega), Option.bind_some, if_pos r1.1, if_pos (by omega), if_neg (fun q => by rw [b1.2.2 c1] at q; omega), hw]
def q2 (t : List Int) (a lo hi : Nat) : Bool := (List.range' lo (hi + 1 - lo)).all (q3 t a lo hi)
theorem l2_go (a lo : Nat) (ha : a ≤ 5) (h1 : lo ≤ a) (r : Bool) (hn : Ev (fun k => spec_Between.l1 k t (a : Int) ((lo + 1 : Nat) : Int)) r) (d : Nat) : ∀ hi, lo ≤ hi → hi + d = a + 1 → Ev (fun n => spec_Between.l2 n t (a : Int) (lo : Int) (hi : Int)) ((List.range' hi d).all (q2 t a lo) && r) := by
  have hw1 : wrap64 ((lo : Int) + 1) = ((lo + 1 : Nat) : Int) := by unfold wrap64; omega
  induction d with
  | zero =>
    intro hi _ hk
    refine Ev.step (f := fun n => spec_Between.l1 n t (a : Int) ((lo + 1 : Nat) : Int)) (fun n => ?_) (by simpa using hn)
    simp only [spec_Between.l2]
    rw [if_neg (by omega), hw1]
  | succ d ih =>
    intro hi h0 hk
    rw [List.range'_succ, List.all_cons, Bool.and_assoc]
    have := l3_go h a lo hi ha (by omega) h0 _ (ih (hi + 1) (by omega) (by omega)) (hi + 1 - lo) lo (Nat.le_refl _) (by omega)
    refine Ev.step (f := fun n => spec_Between.l3 n t (a : Int) (lo : Int) (hi : Int) (lo : Int)) (fun n => ?_) this
    simp only [spec_Between.l2]
    rw [if_pos (by omega)]
def q1 (t : List Int) (a lo : Nat) : Bool := (List.range' lo (a + 1 - lo)).all (q2 t a lo)
theorem l1_go (a : Nat) (ha : a ≤ 5) (r : Bool) (hn : Ev (fun k => spec_Between.l0 k t ((a + 1 : Nat) : Int)) r) (d : Nat) : ∀ lo, lo + d = a + 1 → Ev (fun n => spec_Between.l1 n t (a : Int) (lo : Int)) ((List.range' lo d).all (q1 t a) && r) := by
  have hw1 : wrap64 ((a : Int) + 1) = ((a + 1 : Nat) : Int) := by unfold wrap64; omega
  induction d with
  | zero =>
    intro lo hk
    refine Ev.step (f := fun n => spec_Between.l0 n t ((a + 1 : Nat) : Int)) (fun n => ?_) (by simpa using hn)
    simp only [spec_Between.l1]
    rw [if_neg (by omega), hw1]
  | succ d ih =>
    intro lo hk
    rw [List.range'_succ, List.all_cons, Bool.and_assoc]
    have := l2_go h a lo ha (by omega) _ (ih (lo + 1) (by omega)) (a + 1 - lo) lo (Nat.le_refl _) (by omega)
    refine Ev.step (f := fun n => spec_Between.l2 n t (a : Int) (lo : Int) (lo : Int)) (fun n => ?_) this
    simp only [spec_Between.l1]
    rw [if_pos (by omega)]
def q0 (t : List Int) (a : Nat) : Bool := (List.range' 0 (a + 1)).all (q1 t a)
theorem l0_go (d : Nat) : ∀ a, a + d = 6 → Ev (fun n => spec_Between.l0 n t (a : Int)) ((List.range' a d).all (q0 t)) := by
  induction d with
  | zero =>
    intro a hk
    refine ev1 fun n => ?_
    simp only [spec_Between.l0]
    rw [if_neg (by omega)]
    rfl
  | succ d ih =>
    intro a hk
    rw [List.range'_succ, List.all_cons]
    have := l1_go h a (by omega) _ (ih (a + 1) (by omega)) (a + 1) 0 (by omega)
    refine Ev.step (f := fun n => spec_Between.l1 n t (a : Int) ((0 : Nat) : Int)) (fun n => ?_) this
    simp only [spec_Between.l0]
    rw [if_pos (by omega)]
    rfl
theorem q_iff : (List.range' 0 6).all (q0 t) = true ↔ Btw t := by
  rw [List.all_eq_true]
  constructor
  · intro hq a ha s hs h1 h2
    obtain ⟨lo, hlo, e1⟩ := (up_iff t a s).1 h1
    obtain ⟨hi, hi1, hi2, e2⟩ := (dn_iff t a s hs).1 h2
    have p0 := hq a (by rw [List.mem_range'_1]; omega)
    unfold q0 at p0
    have p1 := List.all_eq_true.1 p0 lo (by rw [List.mem_range'_1]; omega)
    unfold q1 at p1
    have p2 := List.all_eq_true.1 p1 hi (by rw [List.mem_range'_1]; omega)
    unfold q2 at p2
    have p3 := List.all_eq_true.1 p2 s (by rw [List.mem_range'_1]; omega)
    unfold q3 at p3
    rw [e1, e2] at p3
    simpa using p3
  · intro hb a ha
    rw [List.mem_range'_1] at ha
    unfold q0
    refine List.all_eq_true.2 fun lo hlo => ?_
    rw [List.mem_range'_1] at hlo
    unfold q1
    refine List.all_eq_true.2 fun hi hhi => ?_
    rw [List.mem_range'_1] at hhi
    unfold q2
    refine List.all_eq_true.2 fun s hs => ?_
    rw [List.mem_range'_1] at hs
    unfold q3
    cases e1 : hB t a lo with
    | false => rfl
    | true =>
      cases e2 : hB t a hi with
      | false => rfl
      | true =>
        rw [hb a (by omega) s (by omega) ((up_iff t a s).2 ⟨lo, by omega, e1⟩) ((dn_iff t a s (by omega)).2 ⟨hi, by omega, by omega, e2⟩)]
        rfl
theorem spec_between_ev : Ev (fun k => spec_Between.f k t) (btwB t) := by
  have e : (List.range' 0 6).all (q0 t) = btwB t := by
    rw [Bool.eq_iff_iff, q_iff h, btwB_iff h]
  unfold spec_Between.f
  refine Ev.bind (triangleOk_ev t (by rw [tri_len h]; omega)) ?_
  rw [h]
  simp only [if_true]
  rw [← e]
  exact l0_go h 6 0 (by omega)
/-! ### SplitOf of the reference -/
theorem rd_bi (a s : Nat) (ha : a ≤ 5) (hs : s ≤ a) : rd t (pl a s) = bi (hB t a s) := tri_bit h a s ha hs
theorem s2_go (u v : List Int) (a s : Nat) (ha : a ≤ 5) (hs : s ≤ a) (hu : u.length ≤ 1000) (hv : v.length ≤ 1000) (r : List Int × List Int × Bool) (hn : Ev (fun k => spec_SplitOf.l1 k t (u ++ [bi (upP t a s)]) (v ++ [bi (dnP t a s)]) (a : Int) ((s + 1 : Nat) : Int)) r) (d : Nat) : ∀ j, j + d = a + 1 →
    Ev (fun k => spec_SplitOf.l2 k t u v (a : Int) (s : Int) (bi (anyFr t a 0 (min j (s + 1)))) (bi (anyFr t a s (j - s))) (j : Int)) r := by
  have hl := tri_len h
  have hw1 : wrap64 ((s : Int) + 1) = ((s + 1 : Nat) : Int) := by unfold wrap64; omega
  induction d with
  | zero =>
    intro j hj
    obtain rfl : j = a + 1 := by omega
    refine Ev.step (f := fun k => spec_SplitOf.l1 k t (u ++ [bi (upP t a s)]) (v ++ [bi (dnP t a s)]) (a : Int) ((s + 1 : Nat) : Int)) (fun k => ?_) hn
    simp only [spec_SplitOf.l2]
    rw [if_neg (by omega), if_pos (by omega), if_pos (by omega), hw1, show min (a + 1) (s + 1) = s + 1 by omega]
    rfl
  | succ d ih =>
    intro j hj
    have ih := ih (j + 1) (by omega)
    have hw : wrap64 ((j : Int) + 1) = ((j + 1 : Nat) : Int) := by unfold wrap64; omega
    have hr := Man.pl_range a j ha (by omega)
    have hb := rd_bi h a j ha (by omega)
    have hp := place_eq a j ha (by omega)
    by_cases c1 : j ≤ s
    · have e1 : mx (bi (anyFr t a 0 (min j (s + 1)))) (bi (hB t a j)) = bi (anyFr t a 0 (min (j + 1) (s + 1))) := by
        rw [mx_bi, show min j (s + 1) = j by omega, show min (j + 1) (s + 1) = j + 1 by omega, Man.anyFr, Nat.zero_add]
      by_cases c2 : s ≤ j
      · obtain rfl : j = s := by omega
        have e2 : mx (bi (anyFr t a j (j - j))) (bi (hB t a j)) = bi (anyFr t a j (j + 1 - j)) := by
          rw [mx_bi, Nat.sub_self, show j + 1 - j = 1 by omega]; rfl
        rw [← e1, ← e2, ← hb] at ih
        refine Ev.step (fun k => ?_) ih
        simp only [spec_SplitOf.l2]
        rw [if_pos (by omega), if_pos (by omega), hp, Option.bind_some, if_pos hr.1, if_pos (by omega), if_pos (by omega), Option.bind_some, if_pos hr.1, if_pos (by omega), hw]
      · have e2 : bi (anyFr t a s (j - s)) = bi (anyFr t a s (j + 1 - s)) := by
          rw [show j - s = 0 by omega, show j + 1 - s = 0 by omega]
        rw [← e1, ← e2, ← hb] at ih
        refine Ev.step (fun k => ?_) ih
        simp only [spec_SplitOf.l2]
        rw [if_pos (by omega), if_pos (by omega), hp, Option.bind_some, if_pos hr.1, if_pos (by omega), if_neg (by omega), hw]
    · have e1 : bi (anyFr t a 0 (min j (s + 1))) = bi (anyFr t a 0 (min (j + 1) (s + 1))) := by
        rw [show min j (s + 1) = s + 1 by omega, show min (j + 1) (s + 1) = s + 1 by omega]
      have e2 : mx (bi (anyFr t a s (j - s))) (bi (hB t a j)) = bi (anyFr t a s (j + 1 - s)) := by
        rw [mx_bi, show j + 1 - s = (j - s) + 1 by omega, Man.anyFr, show s + (j - s) = j by omega]
      rw [← e1, ← e2, ← hb] at ih
      refine Ev.step (fun k => ?_) ih
      simp only [spec_SplitOf.l2]
      rw [if_pos (by omega), if_neg (by omega), if_pos (by omega), hp, Option.bind_some, if_pos hr.1, if_pos (by omega), hw]
theorem s1_go (a : Nat) (ha : a ≤ 5) (r : List Int × List Int × Bool) (hn : Ev (fun k => spec_SplitOf.l0 k t (preT (upP t) (a + 1)) (preT (dnP t) (a + 1)) ((a + 1 : Nat) : Int)) r) (d : Nat) : ∀ s, s + d = a + 1 →
    Ev (fun k => spec_SplitOf.l1 k t (preT (upP t) a ++ (List.range s).map (ent (upP t) a)) (preT (dnP t) a ++ (List.range s).map (ent (dnP t) a)) (a : Int) (s : Int)) r := by
  have hw1 : wrap64 ((a : Int) + 1) = ((a + 1 : Nat) : Int) := by unfold wrap64; omega
  have len : ∀ (p : Nat → Nat → Bool) (s : Nat), s ≤ 6 → (preT p a ++ (List.range s).map (ent p a)).length ≤ 1000 := by
    intro p s hs
    rw [List.length_append, List.length_map, List.length_range]
    have := Man.preT_len p a
    have h4 : a * a ≤ 5 * 5 := Nat.mul_le_mul ha ha
    omega
  induction d with
  | zero =>
    intro s hs
    obtain rfl : s = a + 1 := by omega
    rw [← Man.preT_succ, ← Man.preT_succ]
    refine Ev.step (fun k => ?_) hn
    simp only [spec_SplitOf.l1]
    rw [if_neg (by omega), hw1]
  | succ d ih =>
    intro s hs
    have ih := ih (s + 1) (by omega)
    rw [Man.inT_succ, Man.inT_succ, ← List.append_assoc, ← List.append_assoc, ent_bi, ent_bi] at ih
    have := s2_go h (preT (upP t) a ++ (List.range s).map (ent (upP t) a)) (preT (dnP t) a ++ (List.range s).map (ent (dnP t) a)) a s ha (by omega) (len _ s (by omega)) (len _ s (by omega)) r ih (a + 1) 0 (by omega)
    refine Ev.step (fun k => ?_) this
    simp only [spec_SplitOf.l1]
    rw [if_pos (by omega), Nat.zero_sub, show min 0 (s + 1) = 0 by omega]
    rfl
theorem s0_go (d : Nat) : ∀ a, a + d = 6 → Ev (fun k => spec_SplitOf.l0 k t (preT (upP t) a) (preT (dnP t) a) (a : Int)) (triRow (upP t), triRow (dnP t), true) := by
  induction d with
  | zero =>
    intro a ha
    obtain rfl : a = 6 := by omega
    refine ev1 fun k => ?_
    simp only [spec_SplitOf.l0]
    rw [if_neg (by omega)]
    rfl
  | succ d ih =>
    intro a ha
    have := s1_go h a (by omega) _ (ih (a + 1) (by omega)) (a + 1) 0 (by omega)
    rw [List.range_zero, List.map_nil, List.append_nil, List.map_nil, List.append_nil] at this
    refine Ev.step (fun k => ?_) this
    simp only [spec_SplitOf.l0]
    rw [if_pos (by omega)]
    rfl
end
/-- What SplitOf answers. -/
def splitA (t : List Int) : List Int × List Int × Bool := if (triB t && btwB t) = true then (triRow (upP t), triRow (dnP t), true) else ([], [], false)
theorem spec_SplitOf_ev (t : List Int) (hl : t.length ≤ 1000000) : Ev (fun k => spec_SplitOf.f k t) (splitA t) := by
  unfold spec_SplitOf.f splitA
  simp only [Option.bind_some]
  by_cases h : triB t = true
  · refine Ev.bind (spec_between_ev h) ?_
    rw [h, Bool.true_and]
    cases btwB t with
    | true => simp only [if_true]; exact s0_go h 6 0 (by omega)
    | false => simp only [Bool.false_eq_true, if_false]; exact Ev.now _
  · have h : triB t = false := by simpa using h
    have hb : Ev (fun k => spec_Between.f k t) false := by
      unfold spec_Between.f
      refine Ev.bind (triangleOk_ev t hl) ?_
      rw [h]
      simp only [Bool.false_eq_true, if_false]
      exact Ev.now _
    refine Ev.bind hb ?_
    rw [h, Bool.false_and]
    simp only [Bool.false_eq_true, if_false]
    exact Ev.now _
theorem impl_SplitOf_ev (t : List Int) (hl : t.length ≤ 1000000) : Ev (fun k => impl_SplitOf.f k t) (splitA t) := by
  unfold impl_SplitOf.f splitA
  refine Ev.bind (isTriangle_ev t hl) ?_
  by_cases h : triB t = true
  · rw [h, Bool.true_and]
    simp only [if_true]
    refine Ev.bind (impl_between_ev h) ?_
    have e : impl_splitOf.f t = some (triRow (upP t), triRow (dnP t)) := by
      unfold impl_splitOf.f
      rw [if_pos (by rw [tri_len h]; omega)]
    cases btwB t with
    | true => simp only [if_true, e, Option.bind_some]; exact Ev.now _
    | false => simp only [Bool.false_eq_true, if_false]; exact Ev.now _
  · have h : triB t = false := by simpa using h
    rw [h, Bool.false_and]
    simp only [Bool.false_eq_true, if_false]
    exact Ev.now _
theorem impl_Between_ev (t : List Int) (hl : t.length ≤ 1000000) : Ev (fun k => impl_Between.f k t) (triB t && btwB t) := by
  unfold impl_Between.f
  refine Ev.bind (isTriangle_ev t hl) ?_
  by_cases h : triB t = true
  · rw [h, Bool.true_and]
    simp only [if_true]
    exact Ev.bind (impl_between_ev h) (Ev.now _)
  · have h : triB t = false := by simpa using h
    rw [h, Bool.false_and]
    simp only [Bool.false_eq_true, if_false]
    exact Ev.now _
end Go.Proofs.Ytmeamfkjfpaciaa.Sem
