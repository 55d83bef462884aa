/- FewerAre of both programs, the contrary inside, relations of three things, in plain words; no condition but a row's length. -/
import Derived.Test.YtmeamfkjfpaciaaSemTriB
import Derived.Test.YtmeamfkjfpaciaaManNTriE
import Derived.Test.YtmeamfkjfpaciaaPAx28
import Derived.Test.YtmeamfkjfpaciaaPAx27
import Derived.Test.YtmeamfkjfpaciaaPAx29
import Derived.Test.YtmeamfkjfpaciaaPAx30
import Derived.Test.YtmeamfkjfpaciaaPAx34
import Derived.Test.YtmeamfkjfpaciaaPAx32
namespace Go.Proofs.Ytmeamfkjfpaciaa.Sem
open Go.RowKit Go.Proofs.Ytmeamfkjfpaciaa.PA Go.Proofs.YtmeamfkjfpaciaaW.PrintWords Go.Proofs.YtmeamfkjfpaciaaW.PrintLast Go.Proofs.YtmeamfkjfpaciaaW.PrintMore
set_option linter.unusedVariables false
set_option linter.unusedSimpArgs false
open Man (hB pl ent triRow preT stayB faP inP pE)
set_option linter.unusedSectionVars false

theorem ev_mono {α : Type} {g : Nat → Option α} (hm : ∀ k, LeO (g k) (g (k + 1))) {x : α} {k : Nat} (h : g k = some x) : Ev g x := Ev.of hm h
theorem off_all : ((List.range 6).all fun a : Nat => decide (spec_PlaceOf.f ((a : Int) - 1) (a : Int) = some (-1)) && decide (spec_PlaceOf.f ((a : Int) - 1) (-1) = some (-1))) = true := by kernel_rfl
theorem off (a : Nat) (ha : a ≤ 5) : spec_PlaceOf.f ((a : Int) - 1) (a : Int) = some (-1) ∧ spec_PlaceOf.f ((a : Int) - 1) (-1) = some (-1) := by
  have := List.all_eq_true.1 off_all a (List.mem_range.2 (by omega))
  simpa only [Bool.and_eq_true, decide_eq_true_eq] using this
def st0 (t : List Int) (a s : Nat) : Bool := if s < a then (!hB t a s || hB t (a - 1) s) else true
def st1 (t : List Int) (a s : Nat) : Bool := if 0 < s then (!hB t a s || hB t (a - 1) (s - 1)) else true
def fewB (t : List Int) : Bool := stayB t (faP t)
section
variable {t : List Int} (h : triB t = true)
include h
theorem le_bit (a s b u : Nat) (ha : a ≤ 5) (hs : s ≤ a) (hb : b ≤ 5) (hu : u ≤ b) : decide (rd t (pl a s) ≤ rd t (pl b u)) = (!hB t a s || hB t b u) := by
  rw [tri_bit h a s ha hs, tri_bit h b u hb hu]
  cases hB t a s <;> cases hB t b u <;> decide
theorem stays_to (a s b u : Nat) (ha : a ≤ 5) (hs : s ≤ a) (hb : b ≤ 5) (hu : u ≤ b) (x y : Int) (hx : wrap64 ((a : Int) + x) = (b : Int)) (hy : wrap64 ((s : Int) + y) = (u : Int)) : spec_l3Stays.f t (a : Int) (s : Int) x y = some (!hB t a s || hB t b u) := by
  have hl := tri_len h
  have r1 := Man.pl_range a s ha hs
  have r2 := Man.pl_range b u hb hu
  unfold spec_l3Stays.f
  rw [hx, hy, place_eq a s ha hs, Option.bind_some, place_eq b u hb hu, Option.bind_some, if_neg (by omega), if_neg (by omega), if_pos r1.1, if_pos (by omega), if_pos r2.1, if_pos (by omega), le_bit h a s b u ha hs hb hu]
theorem stays_off (a s : Nat) (ha : a ≤ 5) (hs : s ≤ a) (x y : Int) (he : spec_PlaceOf.f (wrap64 ((a : Int) + x)) (wrap64 ((s : Int) + y)) = some (-1)) : spec_l3Stays.f t (a : Int) (s : Int) x y = some true := by
  have r1 := Man.pl_range a s ha hs
  unfold spec_l3Stays.f
  rw [he, place_eq a s ha hs, Option.bind_some, Option.bind_some, if_neg (by omega), if_pos (by omega)]
theorem stays0 (a s : Nat) (ha : a ≤ 5) (hs : s ≤ a) : spec_l3Stays.f t (a : Int) (s : Int) (-1) 0 = some (st0 t a s) := by
  unfold st0
  by_cases e : s < a
  · rw [if_pos e]
    exact stays_to h a s (a - 1) s ha hs (by omega) (by omega) _ _ (by unfold wrap64; omega) (by unfold wrap64; omega)
  · rw [if_neg e]
    obtain rfl : s = a := by omega
    refine stays_off h s s ha hs _ _ ?_
    rw [show wrap64 ((s : Int) + -1) = (s : Int) - 1 by unfold wrap64; omega, show wrap64 ((s : Int) + 0) = (s : Int) by unfold wrap64; omega]
    exact (off s ha).1
theorem stays1 (a s : Nat) (ha : a ≤ 5) (hs : s ≤ a) : spec_l3Stays.f t (a : Int) (s : Int) (-1) (-1) = some (st1 t a s) := by
  unfold st1
  by_cases e : 0 < s
  · rw [if_pos e]
    exact stays_to h a s (a - 1) (s - 1) ha hs (by omega) (by omega) _ _ (by unfold wrap64; omega) (by unfold wrap64; omega)
  · rw [if_neg e]
    obtain rfl : s = 0 := by omega
    refine stays_off h a 0 ha hs _ _ ?_
    rw [show wrap64 ((a : Int) + -1) = (a : Int) - 1 by unfold wrap64; omega, show wrap64 (((0 : Nat) : Int) + -1) = -1 by unfold wrap64; omega]
    exact (off a ha).2
theorem each1_go (x y : Int) (F : Nat → Nat → Bool) (hF : ∀ a s : Nat, a ≤ 5 → s ≤ a → spec_l3Stays.f t (a : Int) (s : Int) x y = some (F a s)) (a : Nat) (ha : a ≤ 5) (r : Bool) (hn : Ev (fun k => spec_l3Each.l0 k t x y ((a + 1 : Nat) : Int)) r) (d : Nat) : ∀ s, s + d = a + 1 → Ev (fun k => spec_l3Each.l1 k t x y (a : Int) (s : Int)) ((List.range' s d).all (F a) && r) := by
  have hwa : wrap64 ((a : Int) + 1) = ((a + 1 : Nat) : Int) := by unfold wrap64; omega
  induction d with
  | zero =>
    intro s hs
    refine Ev.step (f := fun k => spec_l3Each.l0 k t x y ((a + 1 : Nat) : Int)) (fun k => ?_) (by simpa using hn)
    simp only [spec_l3Each.l1]
    rw [if_neg (by omega), hwa]
  | succ d ih =>
    intro s hs
    have hw : wrap64 ((s : Int) + 1) = ((s + 1 : Nat) : Int) := by unfold wrap64; omega
    have hf := hF a s ha (by omega)
    rw [List.range'_succ, List.all_cons, Bool.and_assoc]
    cases e : F a s with
    | true =>
      rw [e] at hf
      rw [Bool.true_and]
      refine Ev.step (f := fun k => spec_l3Each.l1 k t x y (a : Int) ((s + 1 : Nat) : Int)) (fun k => ?_) (ih (s + 1) (by omega))
      simp only [spec_l3Each.l1]
      rw [if_pos (by omega), hf, Option.bind_some, if_pos rfl, hw]
    | false =>
      rw [e] at hf
      rw [Bool.false_and]
      refine ev1 fun k => ?_
      simp only [spec_l3Each.l1]
      rw [if_pos (by omega), hf, Option.bind_some, if_neg (by simp)]
theorem each0_go (x y : Int) (F : Nat → Nat → Bool) (hF : ∀ a s : Nat, a ≤ 5 → s ≤ a → spec_l3Stays.f t (a : Int) (s : Int) x y = some (F a s)) (d : Nat) : ∀ a, a + d = 6 → Ev (fun k => spec_l3Each.l0 k t x y (a : Int)) ((List.range' a d).all fun a => (List.range' 0 (a + 1)).all (F a)) := by
  induction d with
  | zero =>
    intro a ha
    refine ev1 fun k => ?_
    simp only [spec_l3Each.l0]
    rw [if_neg (by omega)]
    rfl
  | succ d ih =>
    intro a ha
    rw [List.range'_succ, List.all_cons]
    have := each1_go h x y F hF a (by omega) _ (ih (a + 1) (by omega)) (a + 1) 0 (by omega)
    refine Ev.step (f := fun k => spec_l3Each.l1 k t x y (a : Int) ((0 : Nat) : Int)) (fun k => ?_) this
    simp only [spec_l3Each.l0]
    rw [if_pos (by omega)]
    rfl
theorem few_iff : fewB t = true ↔ ((List.range' 0 6).all (fun a => (List.range' 0 (a + 1)).all (st0 t a)) = true ∧ (List.range' 0 6).all (fun a => (List.range' 0 (a + 1)).all (st1 t a)) = true) := by
  unfold fewB
  rw [stay_iff]
  constructor
  · intro hf
    constructor
    · refine List.all_eq_true.2 fun a ha => List.all_eq_true.2 fun s hs => ?_
      rw [List.mem_range'_1] at ha hs
      unfold st0
      split
      · rename_i e
        cases hh : hB t a s with
        | false => rfl
        | true =>
          have := hf a (by omega) s (by omega) hh
          unfold Man.faP at this
          rw [Bool.and_eq_true, decide_eq_false (show ¬ s = a by omega), Bool.false_or] at this
          rw [this.2]
          rfl
      · rfl
    · refine List.all_eq_true.2 fun a ha => List.all_eq_true.2 fun s hs => ?_
      rw [List.mem_range'_1] at ha hs
      unfold st1
      split
      · rename_i e
        cases hh : hB t a s with
        | false => rfl
        | true =>
          have := hf a (by omega) s (by omega) hh
          unfold Man.faP at this
          rw [Bool.and_eq_true, decide_eq_false (show ¬ s = 0 by omega), Bool.false_or] at this
          rw [this.1]
          rfl
      · rfl
  · rintro ⟨h0, h1⟩ a ha s hs hh
    have p0 := List.all_eq_true.1 (List.all_eq_true.1 h0 a (by rw [List.mem_range'_1]; omega)) s (by rw [List.mem_range'_1]; omega)
    have p1 := List.all_eq_true.1 (List.all_eq_true.1 h1 a (by rw [List.mem_range'_1]; omega)) s (by rw [List.mem_range'_1]; omega)
    unfold st0 at p0
    unfold st1 at p1
    rw [hh] at p0 p1
    unfold Man.faP
    rw [Bool.and_eq_true]
    constructor
    · by_cases e : s = 0
      · rw [decide_eq_true e]; rfl
      · rw [decide_eq_false e, Bool.false_or]
        rw [if_pos (by omega)] at p1
        simpa using p1
    · by_cases e : s = a
      · rw [decide_eq_true e]; rfl
      · rw [decide_eq_false e, Bool.false_or]
        rw [if_pos (by omega)] at p0
        simpa using p0
theorem fewerAre_ev : Ev (fun k => spec_FewerAre.f k t) (fewB t) := by
  have e : fewB t = ((List.range' 0 6).all (fun a => (List.range' 0 (a + 1)).all (st0 t a)) && (List.range' 0 6).all (fun a => (List.range' 0 (a + 1)).all (st1 t a))) := by
    rw [Bool.eq_iff_iff, Bool.and_eq_true, few_iff h]
  have h0 : Ev (fun k => spec_l3Each.f k t (-1) 0) _ := each0_go h (-1) 0 (st0 t) (stays0 h) 6 0 (by omega)
  have h1 : Ev (fun k => spec_l3Each.f k t (-1) (-1)) _ := each0_go h (-1) (-1) (st1 t) (stays1 h) 6 0 (by omega)
  have ht := triangleOk_ev t (by rw [tri_len h]; omega)
  rw [h] at ht
  unfold spec_FewerAre.f
  rw [e]
  refine Ev.bind ht ?_
  simp only [if_true]
  refine Ev.bind h0 ?_
  cases (List.range' 0 6).all (fun a => (List.range' 0 (a + 1)).all (st0 t a)) with
  | true =>
    simp only [if_true, Bool.true_and]
    exact Ev.bind h1 (Ev.now _)
  | false =>
    simp only [Bool.false_eq_true, if_false, Bool.false_and]
    exact Ev.now _
end
theorem spec_FewerAre_ev (t : List Int) (hl : t.length ≤ 1000000) : Ev (fun k => spec_FewerAre.f k t) (triB t && fewB t) := by
  by_cases h : triB t = true
  · rw [h, Bool.true_and]
    exact fewerAre_ev h
  · have h : triB t = false := by simpa using h
    have ht := triangleOk_ev t hl
    rw [h] at ht
    rw [h, Bool.false_and]
    unfold spec_FewerAre.f
    refine Ev.bind ht ?_
    simp only [Bool.false_eq_true, if_false]
    exact Ev.now _
theorem impl_FewerAre_ev (t : List Int) (hl : t.length ≤ 1000000) : Ev (fun k => impl_FewerAre.f k t) (triB t && fewB t) := by
  unfold impl_FewerAre.f
  refine Ev.bind (isTriangle_ev t hl) ?_
  by_cases h : triB t = true
  · have e : impl_fewerAre.f t = some (fewB t) := by
      unfold impl_fewerAre.f fewB
      rw [if_pos (by rw [tri_len h]; omega)]
    rw [h, Bool.true_and]
    simp only [if_true, e, Option.bind_some]
    exact Ev.now _
  · have h : triB t = false := by simpa using h
    rw [h, Bool.false_and]
    simp only [Bool.false_eq_true, if_false]
    exact Ev.now _
/-! ### the contrary inside -/
theorem impl_InsideNot_ev {t : List Int} (h : triB t = true) : Ev (fun k => impl_InsideNot.f k t) (triRow (inP t)) := by
  have hi := isTriangle_ev t (by rw [tri_len h]; omega)
  rw [h] at hi
  unfold impl_InsideNot.f
  refine Ev.bind hi ?_
  have e : impl_insideNot.f t = some (triRow (inP t)) := by
    unfold impl_insideNot.f
    rw [if_pos (by rw [tri_len h]; omega)]
  simp only [if_true, e, Option.bind_some]
  exact Ev.now _
theorem hB_in (t : List Int) (a s : Nat) (ha : a ≤ 5) (hs : s ≤ a) : hB (triRow (inP t)) a s = hB t a (a - s) := hB_row _ a s ha hs
theorem few_in_half (u t : List Int) (hu : ∀ a s, a ≤ 5 → s ≤ a → hB u a s = hB t a (a - s)) (hf : ∀ a, a ≤ 5 → ∀ s, s ≤ a → hB t a s = true → faP t a s = true) : ∀ a, a ≤ 5 → ∀ s, s ≤ a → hB u a s = true → faP u a s = true := by
  intro a ha s hs hh
  rw [hu a s ha hs] at hh
  have := hf a ha (a - s) (by omega) hh
  unfold Man.faP at this ⊢
  rw [Bool.and_eq_true] at this ⊢
  obtain ⟨h1, h2⟩ := this
  constructor
  · by_cases e : s = 0
    · rw [decide_eq_true e]; rfl
    · rw [decide_eq_false e, Bool.false_or, hu (a - 1) (s - 1) (by omega) (by omega), show a - 1 - (s - 1) = a - s by omega]
      rw [decide_eq_false (show ¬ a - s = a by omega), Bool.false_or] at h2
      exact h2
  · by_cases e : s = a
    · rw [decide_eq_true e]; rfl
    · rw [decide_eq_false e, Bool.false_or, hu (a - 1) s (by omega) (by omega), show a - 1 - s = a - s - 1 by omega]
      rw [decide_eq_false (show ¬ a - s = 0 by omega), Bool.false_or] at h1
      exact h1
theorem few_in (t : List Int) : fewB (triRow (inP t)) = fewB t := by
  rw [Bool.eq_iff_iff]
  unfold fewB
  rw [stay_iff, stay_iff]
  constructor
  · exact few_in_half t (triRow (inP t)) (fun a s ha hs => by rw [hB_in t a (a - s) ha (by omega), show a - (a - s) = s by omega])
  · exact few_in_half (triRow (inP t)) t (fun a s ha hs => hB_in t a s ha hs)
/-! ### fewer and fewer -/
theorem few_down {t : List Int} (hf : ∀ a, a ≤ 5 → ∀ s, s ≤ a → hB t a s = true → faP t a s = true) : ∀ (d e a s : Nat), a ≤ 5 → s ≤ a → hB t a s = true → d ≤ s → e ≤ a - s → hB t (a - d - e) (s - d) = true
  | 0, 0, a, s, _, _, h, _, _ => h
  | 0, e + 1, a, s, ha, hs, h, hd, he => by
    have := hf a ha s hs h
    unfold Man.faP at this
    rw [Bool.and_eq_true, decide_eq_false (show ¬ s = a by omega), Bool.false_or] at this
    have := few_down hf 0 e (a - 1) s (by omega) (by omega) this.2 (by omega) (by omega)
    rw [show a - 0 - (e + 1) = a - 1 - 0 - e by omega]
    exact this
  | d + 1, e, a, s, ha, hs, h, hd, he => by
    have := hf a ha s hs h
    unfold Man.faP at this
    rw [Bool.and_eq_true, decide_eq_false (show ¬ s = 0 by omega), Bool.false_or] at this
    have := few_down hf d e (a - 1) (s - 1) (by omega) (by omega) this.1 (by omega) (by omega)
    rw [show a - (d + 1) - e = a - 1 - d - e by omega, show s - (d + 1) = s - 1 - d by omega]
    exact this
/-! ### relations of three things -/
def sz (a : Nat) : Nat := [0, 1, 1, 2, 1, 2, 2, 3].getD a 0
theorem size_all : ((List.range 8).all fun a : Nat => decide (spec_l2Size.f 10 (a : Int) = some ((sz a : Nat) : Int))) = true := by kernel_rfl
theorem both_all : ((List.range 8).all fun a : Nat => (List.range 8).all fun b : Nat => decide (spec_l2Both.f 10 (a : Int) (b : Int) = some ((a &&& b : Nat) : Int))) = true := by kernel_rfl
theorem inside_all : ((List.range 8).all fun a : Nat => (List.range 8).all fun b : Nat => decide (laws_insideOf.f 10 (a : Int) (b : Int) = some (decide (a &&& b = a)))) = true := by kernel_rfl
theorem sets_all : ((List.range 8).all fun c : Nat => (List.range 8).all fun a : Nat => (List.range 8).all fun b : Nat => !(decide (c &&& a = c)) || (decide (sz a ≤ 3) && (decide (sz (a &&& b) ≤ sz a) && (decide (sz (c &&& b) ≤ sz (a &&& b)) && (decide (sz (c &&& b) ≤ sz c) && decide (sz c - sz (c &&& b) ≤ sz a - sz (a &&& b))))))) = true := by kernel_rfl
theorem land_all : ((List.range 8).all fun a : Nat => (List.range 8).all fun b : Nat => decide (a &&& b < 8) && (decide (sz a ≤ 3) && decide (sz (a &&& b) ≤ sz a))) = true := by kernel_rfl
theorem size_ev (a : Nat) (ha : a < 8) : Ev (fun k => spec_l2Size.f k (a : Int)) ((sz a : Nat) : Int) := ev_mono (fun k => spec_l2Size.mono _ k) (of_decide_eq_true (List.all_eq_true.1 size_all a (List.mem_range.2 ha)))
theorem both_set (a b : Nat) (ha : a < 8) (hb : b < 8) : Ev (fun k => spec_l2Both.f k (a : Int) (b : Int)) ((a &&& b : Nat) : Int) := ev_mono (fun k => spec_l2Both.mono _ _ k) (of_decide_eq_true (List.all_eq_true.1 (List.all_eq_true.1 both_all a (List.mem_range.2 ha)) b (List.mem_range.2 hb)))
theorem inside_ev (a b : Nat) (ha : a < 8) (hb : b < 8) : Ev (fun k => laws_insideOf.f k (a : Int) (b : Int)) (decide (a &&& b = a)) := ev_mono (fun k => laws_insideOf.mono _ _ k) (of_decide_eq_true (List.all_eq_true.1 (List.all_eq_true.1 inside_all a (List.mem_range.2 ha)) b (List.mem_range.2 hb)))
theorem land_lt (a b : Nat) (ha : a < 8) (hb : b < 8) : a &&& b < 8 ∧ sz a ≤ 3 ∧ sz (a &&& b) ≤ sz a := by
  have := List.all_eq_true.1 (List.all_eq_true.1 land_all a (List.mem_range.2 ha)) b (List.mem_range.2 hb)
  simpa only [Bool.and_eq_true, decide_eq_true_eq] using this
theorem sets (c a b : Nat) (hc : c < 8) (ha : a < 8) (hb : b < 8) (h : c &&& a = c) : sz (c &&& b) ≤ sz (a &&& b) ∧ sz (c &&& b) ≤ sz c ∧ sz c - sz (c &&& b) ≤ sz a - sz (a &&& b) := by
  have := List.all_eq_true.1 (List.all_eq_true.1 (List.all_eq_true.1 sets_all c (List.mem_range.2 hc)) a (List.mem_range.2 ha)) b (List.mem_range.2 hb)
  rw [decide_eq_true h] at this
  simp only [Bool.not_true, Bool.false_or, Bool.and_eq_true, decide_eq_true_eq] at this
  exact ⟨this.2.2.1, this.2.2.2.1, this.2.2.2.2⟩
def gR (t : List Int) (p : Nat) : Int := rd t (pl (sz (p / 8)) (sz (p / 8 &&& p % 8)))
def relL (t : List Int) (n : Nat) : List Int := (List.range n).map (gR t)
theorem relL_succ (t : List Int) (n : Nat) : relL t (n + 1) = relL t n ++ [gR t n] := by
  unfold relL
  rw [List.range_succ, List.map_append]
  rfl
theorem relL_len (t : List Int) (n : Nat) : (relL t n).length = n := by unfold relL; rw [List.length_map, List.length_range]
theorem relL_at (t : List Int) (n p : Nat) (h : p < n) : rd (relL t n) (p : Int) = gR t p := by
  rw [rd_at _ p (by rw [relL_len]; exact h)]
  unfold relL
  rw [List.getElem_map, List.getElem_range]
theorem shl3 : shl .i64 1 3 = 8 := by decide
section
variable {t : List Int} (h : triB t = true)
include h
theorem rel1_go (a : Nat) (ha : a < 8) (r : List Int) (hn : Ev (fun k => spec_RelationFrom.l0 k 3 t (relL t (8 * a + 8)) ((a + 1 : Nat) : Int)) r) (d : Nat) : ∀ b, b + d = 8 → Ev (fun k => spec_RelationFrom.l1 k 3 t (relL t (8 * a + b)) (a : Int) (b : Int)) r := by
  have hl := tri_len h
  have hwa : wrap64 ((a : Int) + 1) = ((a + 1 : Nat) : Int) := by unfold wrap64; omega
  induction d with
  | zero =>
    intro b hb
    obtain rfl : b = 8 := by omega
    refine Ev.step (fun k => ?_) hn
    simp only [spec_RelationFrom.l1]
    rw [if_pos (by omega), shl3, if_neg (by omega), hwa]
  | succ d ih =>
    intro b hb
    have hw : wrap64 ((b : Int) + 1) = ((b + 1 : Nat) : Int) := by unfold wrap64; omega
    have hq := land_lt a b ha (by omega)
    have hp := place_eq (sz a) (sz (a &&& b)) (by omega) hq.2.2
    have hr := Man.pl_range (sz a) (sz (a &&& b)) (by omega) hq.2.2
    have hg : gR t (8 * a + b) = rd t (pl (sz a) (sz (a &&& b))) := by
      unfold gR
      rw [show (8 * a + b) / 8 = a by omega, show (8 * a + b) % 8 = b by omega]
    have ih := ih (b + 1) (by omega)
    rw [show 8 * a + (b + 1) = 8 * a + b + 1 by omega, relL_succ, hg] at ih
    have hlen := relL_len t (8 * a + b)
    have body : Ev (fun k => (spec_l2Size.f k (a : Int)).bind fun t400 => ((spec_l2Both.f k (a : Int) (b : Int)).bind fun t401 => ((spec_l2Size.f k t401).bind fun t402 => ((spec_PlaceOf.f t400 t402).bind fun t403 => (if 0 ≤ t403 then (if t403 < (t.length : Int) then (if (relL t (8 * a + b)).length < 17592186044416 then (spec_RelationFrom.l1 k 3 t ((relL t (8 * a + b)) ++ [rd t t403]) (a : Int) ((b + 1 : Nat) : Int)) else (none)) else (none)) else (none)))))) r := by
      refine Ev.bind (size_ev a ha) (Ev.bind (both_set a b ha (by omega)) (Ev.bind (size_ev _ hq.1) ?_))
      simp only [hp, Option.bind_some, if_pos hr.1, if_pos (show pl (sz a) (sz (a &&& b)) < (t.length : Int) by omega), if_pos (show (relL t (8 * a + b)).length < 17592186044416 by omega)]
      exact ih
    refine Ev.step (fun k => ?_) body
    simp only [spec_RelationFrom.l1]
    rw [if_pos (by omega), shl3, if_pos (by omega), hw]
theorem rel0_go (d : Nat) : ∀ a, a + d = 8 → Ev (fun k => spec_RelationFrom.l0 k 3 t (relL t (8 * a)) (a : Int)) (relL t 64) := by
  induction d with
  | zero =>
    intro a ha
    obtain rfl : a = 8 := by omega
    refine ev1 fun k => ?_
    simp only [spec_RelationFrom.l0]
    rw [if_pos (by omega), shl3, if_neg (by omega)]
  | succ d ih =>
    intro a ha
    have := rel1_go h a (by omega) _ (by have := ih (a + 1) (by omega); rw [show 8 * (a + 1) = 8 * a + 8 by omega] at this; exact this) 8 0 (by omega)
    refine Ev.step (fun k => ?_) this
    simp only [spec_RelationFrom.l0]
    rw [if_pos (by omega), shl3, if_pos (by omega)]
    rfl
theorem relation_ev : Ev (fun k => spec_RelationFrom.f k 3 t) (relL t 64) := by
  have ht := triangleOk_ev t (by rw [tri_len h]; omega)
  rw [h] at ht
  unfold spec_RelationFrom.f
  simp only [Option.bind_some, l1In_eq]
  rw [decide_eq_true (show (0 : Int) ≤ 3 ∧ (3 : Int) ≤ 3 by omega)]
  simp only [if_true]
  refine Ev.bind ht ?_
  have := rel0_go h 8 0 (by omega)
  refine Ev.step (fun k => ?_) this
  simp only [spec_RelationFrom.j0, Bool.not_true, Bool.false_eq_true, if_false]
  rfl
/-- With a lesser first set it stays so. -/
theorem rel_stays (hf : fewB t = true) (p c : Nat) (hp : p < 64) (hc : c < 8) (hi : c &&& (p / 8) = c) (h1 : gR t p = 1) : gR t (c * 8 + p % 8) = 1 := by
  have hf := (stay_iff _ _).1 hf
  have ha : p / 8 < 8 := by omega
  have hb : p % 8 < 8 := by omega
  have q := land_lt (p / 8) (p % 8) ha hb
  have q' := land_lt c (p % 8) hc hb
  obtain ⟨s1, s2, s3⟩ := sets c (p / 8) (p % 8) hc ha hb hi
  unfold gR at h1 ⊢
  rw [show (c * 8 + p % 8) / 8 = c by omega, show (c * 8 + p % 8) % 8 = p % 8 by omega]
  have e1 := tri_bit h (sz (p / 8)) (sz (p / 8 &&& p % 8)) (by omega) q.2.2
  have e2 := tri_bit h (sz c) (sz (c &&& p % 8)) (by omega) q'.2.2
  have hh : hB t (sz (p / 8)) (sz (p / 8 &&& p % 8)) = true := by
    rw [h1] at e1
    cases e : hB t (sz (p / 8)) (sz (p / 8 &&& p % 8)) with
    | true => rfl
    | false => rw [e] at e1; exact absurd e1 (by simp)
  have := few_down hf (sz (p / 8 &&& p % 8) - sz (c &&& p % 8)) ((sz (p / 8) - sz (p / 8 &&& p % 8)) - (sz c - sz (c &&& p % 8))) (sz (p / 8)) (sz (p / 8 &&& p % 8)) (by omega) q.2.2 hh (by omega) (by omega)
  rw [show sz (p / 8) - (sz (p / 8 &&& p % 8) - sz (c &&& p % 8)) - ((sz (p / 8) - sz (p / 8 &&& p % 8)) - (sz c - sz (c &&& p % 8))) = sz c by omega, show sz (p / 8 &&& p % 8) - (sz (p / 8 &&& p % 8) - sz (c &&& p % 8)) = sz (c &&& p % 8) by omega] at this
  rw [e2, this]
  rfl
end
/-! ### every -/
theorem every_eq : impl_NamedTriangle.f (⟨#[101, 118, 101, 114, 121]⟩ : ByteArray) = some (triRow pE, true) := by
  unfold impl_NamedTriangle.f impl_namedTriangle.f
  rw [if_pos (by rw [ByteArray.toList_eq])]
  rfl
theorem every_few : fewB (triRow pE) = true := by kernel_rfl
end Go.Proofs.Ytmeamfkjfpaciaa.Sem
