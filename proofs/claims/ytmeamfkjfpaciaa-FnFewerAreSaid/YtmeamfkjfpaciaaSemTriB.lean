/- Triangles in plain words: which rows are triangles, what stays, what is between; no condition but a row's length. -/
import Derived.KernelRfl
import Derived.Test.YtmeamfkjfpaciaaSemBase
import Derived.Test.YtmeamfkjfpaciaaManSplit
import Derived.Test.YtmeamfkjfpaciaaPAx13
import Derived.Test.YtmeamfkjfpaciaaPAx5
import Derived.Test.YtmeamfkjfpaciaaPAx18
namespace Go.Proofs.Ytmeamfkjfpaciaa.Sem
open Go.RowKit Go.Proofs.Ytmeamfkjfpaciaa.PA Go.Proofs.YtmeamfkjfpaciaaW.PrintWords Go.Proofs.YtmeamfkjfpaciaaW.PrintLast Go.Proofs.YtmeamfkjfpaciaaW.PrintMore
set_option linter.unusedVariables false
set_option linter.unusedSimpArgs false
open Man (hB pl ent triRow preT stayB badIn badTo anyFr upP dnP moP feP faP inP boP)

theorem triRow_len (p : Nat → Nat → Bool) : (Man.triRow p).length = 21 := rfl
theorem triRow_at (p : Nat → Nat → Bool) (a s : Nat) (ha : a ≤ 5) (hs : s ≤ a) : rd (Man.triRow p) (Man.pl a s) = Man.ent p a s := by
  have h1 : a = 0 ∨ a = 1 ∨ a = 2 ∨ a = 3 ∨ a = 4 ∨ a = 5 := by omega
  have h2 : s = 0 ∨ s = 1 ∨ s = 2 ∨ s = 3 ∨ s = 4 ∨ s = 5 := by omega
  rcases h1 with rfl | rfl | rfl | rfl | rfl | rfl <;> rcases h2 with rfl | rfl | rfl | rfl | rfl | rfl <;> first | rfl | (exfalso; omega)
theorem triRow_bits (p : Nat → Nat → Bool) : ∀ x ∈ Man.triRow p, x = 0 ∨ x = 1 := by
  intro x hx
  unfold Man.triRow Man.preT at hx
  obtain ⟨a, _, hx⟩ := List.mem_flatMap.1 hx
  obtain ⟨s, _, rfl⟩ := List.mem_map.1 hx
  unfold Man.ent
  split
  · exact Or.inr rfl
  · exact Or.inl rfl
theorem ent_one (p : Nat → Nat → Bool) (a s : Nat) : (Man.ent p a s == 1) = p a s := by
  unfold Man.ent
  cases p a s <;> rfl
theorem hB_row (p : Nat → Nat → Bool) (a s : Nat) (ha : a ≤ 5) (hs : s ≤ a) : hB (triRow p) a s = p a s := by
  unfold Man.hB
  rw [triRow_at p a s ha hs, ent_one]
/-- Is a row a triangle? -/
def triB (l : List Int) : Bool := decide (l.length = 21) && l.all (fun x => x == 0 || x == 1)
theorem triB_iff (l : List Int) : triB l = true ↔ l.length = 21 ∧ ∀ x ∈ l, x = 0 ∨ x = 1 := by
  unfold triB
  rw [Bool.and_eq_true, decide_eq_true_eq, List.all_eq_true]
  simp only [Bool.or_eq_true, beq_iff_eq]
theorem triB_row (p : Nat → Nat → Bool) : triB (triRow p) = true := (triB_iff _).2 ⟨triRow_len p, triRow_bits p⟩
theorem len21 (n : Nat) : ((n : Int) == 21) = decide (n = 21) := by
  by_cases h : n = 21
  · rw [h]; rfl
  · rw [decide_eq_false h, beq_eq_false_iff_ne]
    omega
theorem isTri_go (l : List Int) (hl : l.length ≤ 1000000) (d : Nat) : ∀ i, i + d = l.length → Ev (fun k => impl_isTriangle.l0 k l l (l.length : Int) (i : Int)) (decide (l.length = 21) && (l.drop i).all (fun x => x == 0 || x == 1)) := by
  induction d with
  | zero =>
    intro i hi
    rw [List.drop_of_length_le (by omega)]
    refine ev1 fun k => ?_
    simp only [impl_isTriangle.l0]
    rw [if_neg (by omega), len21]
    simp
  | succ d ih =>
    intro i hi
    have hlt : i < l.length := by omega
    have hw : wrap64 ((i : Int) + 1) = ((i + 1 : Nat) : Int) := by unfold wrap64; omega
    have ih := ih (i + 1) (by omega)
    rw [List.drop_eq_getElem_cons hlt, List.all_cons]
    by_cases h0 : l[i] = 0
    · refine Ev.step (f := fun k => impl_isTriangle.l0 k l l (l.length : Int) ((i + 1 : Nat) : Int)) (fun k => ?_) (by rw [h0]; simpa using ih)
      simp only [impl_isTriangle.l0]
      rw [if_pos (by omega), if_pos (by omega), if_pos (by omega), rd_at l i hlt, hw, if_pos h0]
    · by_cases h1 : l[i] = 1
      · refine Ev.step (f := fun k => impl_isTriangle.l0 k l l (l.length : Int) ((i + 1 : Nat) : Int)) (fun k => ?_) (by rw [h1]; simpa using ih)
        simp only [impl_isTriangle.l0]
        rw [if_pos (by omega), if_pos (by omega), if_pos (by omega), rd_at l i hlt, hw, if_neg h0, if_pos h1]
      · have e : (decide (l.length = 21) && ((l[i] == 0 || l[i] == 1) && (l.drop (i + 1)).all (fun x => x == 0 || x == 1))) = false := by
          rw [beq_eq_false_iff_ne.mpr h0, beq_eq_false_iff_ne.mpr h1]
          simp
        rw [e]
        refine ev1 fun k => ?_
        simp only [impl_isTriangle.l0]
        rw [if_pos (by omega), if_pos (by omega), if_pos (by omega), rd_at l i hlt, if_neg h0, if_neg h1]
theorem isTriangle_ev (l : List Int) (hl : l.length ≤ 1000000) : Ev (fun k => impl_isTriangle.f k l) (triB l) := by
  unfold impl_isTriangle.f
  exact isTri_go l hl l.length 0 (by omega)
theorem triOk_go (l : List Int) (hl : l.length ≤ 1000000) (d : Nat) : ∀ i, i + d = l.length → Ev (fun k => spec_TriangleOk.l0 k l (i : Int)) (decide (l.length = 21) && (l.drop i).all (fun x => x == 0 || x == 1)) := by
  induction d with
  | zero =>
    intro i hi
    rw [List.drop_of_length_le (by omega)]
    refine ev1 fun k => ?_
    simp only [spec_TriangleOk.l0]
    rw [if_neg (by omega), len21]
    simp
  | succ d ih =>
    intro i hi
    have hlt : i < l.length := by omega
    have hw : wrap64 ((i : Int) + 1) = ((i + 1 : Nat) : Int) := by unfold wrap64; omega
    have ih := ih (i + 1) (by omega)
    rw [List.drop_eq_getElem_cons hlt, List.all_cons]
    by_cases h0 : 0 ≤ l[i] ∧ l[i] ≤ 1
    · have hb : (l[i] == 0 || l[i] == 1) = true := by
        rcases (show l[i] = 0 ∨ l[i] = 1 by omega) with e | e <;> rw [e] <;> rfl
      refine Ev.step (f := fun k => spec_TriangleOk.l0 k l ((i + 1 : Nat) : Int)) (fun k => ?_) (by rw [hb]; simpa using ih)
      simp only [spec_TriangleOk.l0]
      rw [if_pos (by omega), if_pos (by omega), rd_at l i hlt, l1In_eq, decide_eq_true h0, hw, Option.bind_some, if_pos rfl]
    · have hb : (l[i] == 0 || l[i] == 1) = false := by
        rw [beq_eq_false_iff_ne.mpr (by omega), beq_eq_false_iff_ne.mpr (by omega)]
        rfl
      rw [hb, Bool.false_and, Bool.and_false]
      refine ev1 fun k => ?_
      simp only [spec_TriangleOk.l0]
      rw [if_pos (by omega), if_pos (by omega), rd_at l i hlt, l1In_eq, decide_eq_false h0, Option.bind_some, if_neg (by simp)]
theorem triangleOk_ev (l : List Int) (hl : l.length ≤ 1000000) : Ev (fun k => spec_TriangleOk.f k l) (triB l) := by
  unfold spec_TriangleOk.f
  exact triOk_go l hl l.length 0 (by omega)
/-! ### places -/
theorem place_all : ((List.range 6).all fun a => (List.range (a + 1)).all fun s => decide (spec_PlaceOf.f (a : Int) (s : Int) = some (pl a s))) = true := by kernel_rfl
theorem place_eq (a s : Nat) (ha : a ≤ 5) (hs : s ≤ a) : spec_PlaceOf.f (a : Int) (s : Int) = some (pl a s) :=
  of_decide_eq_true (List.all_eq_true.1 (List.all_eq_true.1 place_all a (List.mem_range.2 (by omega))) s (List.mem_range.2 (by omega)))
def rs (i : Nat) : Nat := [0, 0, 1, 0, 1, 2, 0, 1, 2, 3, 0, 1, 2, 3, 4, 0, 1, 2, 3, 4, 5].getD i 0
theorem tri_len {t : List Int} (h : triB t = true) : t.length = 21 := ((triB_iff t).1 h).1
theorem tri_bit {t : List Int} (h : triB t = true) (a s : Nat) (ha : a ≤ 5) (hs : s ≤ a) : rd t (pl a s) = if hB t a s = true then 1 else 0 := by
  obtain ⟨hl, hb⟩ := (triB_iff t).1 h
  have hr := Man.pl_range a s ha hs
  obtain ⟨n, hn⟩ := Int.eq_ofNat_of_zero_le hr.1
  unfold Man.hB
  rw [hn, rd_at t n (by omega)]
  rcases hb t[n] (List.getElem_mem (by omega)) with e | e <;> rw [e] <;> rfl
/-! ### what stays -/
theorem badIn_no {l : List Int} {p : Nat → Nat → Bool} {i : Nat} : ∀ n : Nat, (∀ j, j < n → hB l i j = true → p i j = true) → badIn l p i n = false
  | 0, _ => rfl
  | n + 1, h => by
    rw [Man.badIn, badIn_no n (fun j hj => h j (by omega))]
    cases e : hB l i n with
    | false => rfl
    | true => rw [h n (by omega) e]; rfl
theorem badTo_no {l : List Int} {p : Nat → Nat → Bool} : ∀ n : Nat, (∀ i, i < n → ∀ j, j ≤ i → hB l i j = true → p i j = true) → badTo l p n = false
  | 0, _ => rfl
  | n + 1, h => by
    rw [Man.badTo, badTo_no n (fun i hi => h i (by omega)), badIn_no (n + 1) (fun j hj => h n (by omega) j (by omega))]
    rfl
theorem stay_iff (l : List Int) (p : Nat → Nat → Bool) : stayB l p = true ↔ ∀ a, a ≤ 5 → ∀ s, s ≤ a → hB l a s = true → p a s = true := by
  constructor
  · intro h a ha s hs hh
    cases e : p a s with
    | true => rfl
    | false =>
      rw [Man.bad_all ha hs hh e] at h
      exact absurd h (by simp)
  · intro h
    unfold Man.stayB
    rw [badTo_no 6 (fun i hi j hj => h i (by omega) j hj)]
    rfl
theorem any_iff (l : List Int) (a s : Nat) : ∀ n : Nat, anyFr l a s n = true ↔ ∃ j, j < n ∧ hB l a (s + j) = true
  | 0 => by
    constructor
    · intro h; exact absurd h (by simp [Man.anyFr])
    · rintro ⟨j, hj, _⟩; omega
  | n + 1 => by
    rw [Man.anyFr, Bool.or_eq_true, any_iff l a s n]
    constructor
    · rintro (⟨j, hj, h⟩ | h)
      · exact ⟨j, by omega, h⟩
      · exact ⟨n, by omega, h⟩
    · rintro ⟨j, hj, h⟩
      by_cases e : j = n
      · rw [e] at h; exact Or.inr h
      · exact Or.inl ⟨j, by omega, h⟩
theorem up_iff (l : List Int) (a s : Nat) : upP l a s = true ↔ ∃ j, j ≤ s ∧ hB l a j = true := by
  unfold Man.upP
  rw [any_iff]
  constructor
  · rintro ⟨j, hj, h⟩; rw [Nat.zero_add] at h; exact ⟨j, by omega, h⟩
  · rintro ⟨j, hj, h⟩; exact ⟨j, by omega, by rw [Nat.zero_add]; exact h⟩
theorem up_self {l : List Int} {a s : Nat} (h : hB l a s = true) : upP l a s = true := (up_iff l a s).2 ⟨s, Nat.le_refl _, h⟩
end Go.Proofs.Ytmeamfkjfpaciaa.Sem
