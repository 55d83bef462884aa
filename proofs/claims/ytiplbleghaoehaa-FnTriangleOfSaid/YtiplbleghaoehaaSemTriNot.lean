/- The triangle of a contrary machine is the contrary triangle, in plain words; no condition but that order does not matter. -/
import Derived.Test.YtiplbleghaoehaaSemTri
import Derived.Test.YtiplbleghaoehaaSemA
import Derived.Test.YtiplbleghaoehaaManNot
import Derived.Test.YtiplbleghaoehaaPAx29
import Derived.Test.YtiplbleghaoehaaPAx10
import Derived.Test.YtiplbleghaoehaaPAx30
namespace Go.Proofs.Ytiplbleghaoehaa.Sem
open Go.RowKit Go.Proofs.Ytiplbleghaoehaa.PA Go.Proofs.YtiplbleghaoehaaW.PrintWords Go.Proofs.YtiplbleghaoehaaW.PrintLast Go.Proofs.YtiplbleghaoehaaW.PrintMore
set_option linter.unusedVariables false
set_option linter.unusedSimpArgs false

theorem triRow_congr {p q : Nat → Nat → Bool} (h : ∀ a s, a ≤ 5 → s ≤ a → p a s = q a s) : Man.triRow p = Man.triRow q := by
  have hp : ∀ i, i ≤ 6 → Man.preT p i = Man.preT q i := by
    intro i
    induction i with
    | zero => intro _; rfl
    | succ i ih =>
      intro hi
      rw [Man.preT_succ, Man.preT_succ, ih (by omega)]
      congr 1
      refine List.map_congr_left (fun s hs => ?_)
      have hs := List.mem_range.1 hs
      unfold Man.ent
      rw [h i s (by omega) (by omega)]
  exact hp 6 (by omega)
theorem triRow_len (p : Nat → Nat → Bool) : (Man.triRow p).length = 21 := rfl
theorem triRow_at (p : Nat → Nat → Bool) (a s : Nat) (ha : a ≤ 5) (hs : s ≤ a) : rd (Man.triRow p) (Man.pl a s) = Man.ent p a s := by
  have h1 : a = 0 ∨ a = 1 ∨ a = 2 ∨ a = 3 ∨ a = 4 ∨ a = 5 := by omega
  have h2 : s = 0 ∨ s = 1 ∨ s = 2 ∨ s = 3 ∨ s = 4 ∨ s = 5 := by omega
  rcases h1 with rfl | rfl | rfl | rfl | rfl | rfl <;> rcases h2 with rfl | rfl | rfl | rfl | rfl | rfl <;> first | rfl | (exfalso; omega)
theorem triRow_bits (p : Nat → Nat → Bool) : ∀ x ∈ Man.triRow p, x = 0 ∨ x = 1 := by
  intro x hx
  unfold Man.triRow Man.preT at hx
  obtain ⟨a, _, hx⟩ := List.mem_flatMap.1 hx
  obtain ⟨s, _, rfl⟩ := List.mem_map.1 hx
  unfold Man.ent
  split
  · exact Or.inr rfl
  · exact Or.inl rfl
theorem ent_one (p : Nat → Nat → Bool) (a s : Nat) : (Man.ent p a s == 1) = p a s := by
  unfold Man.ent
  cases p a s <;> rfl
theorem notP_row (p : Nat → Nat → Bool) (a s : Nat) (ha : a ≤ 5) (hs : s ≤ a) : Man.notP (Man.triRow p) a s = !(p a s) := by
  unfold Man.notP
  rw [triRow_at p a s ha hs, ent_one]

theorem isTri_from (t : List Int) (hl : t.length = 21) (hb : ∀ x ∈ t, x = 0 ∨ x = 1) (d : Nat) : ∀ i, i + d = t.length → Ev (fun k => impl_isTriangle.l0 k t t (t.length : Int) (i : Int)) true := by
  induction d with
  | zero =>
    intro i hi
    refine Ev.step (f := fun _ => some true) (fun k => ?_) (Ev.now _)
    simp only [impl_isTriangle.l0]
    rw [if_neg (by omega), hl]
    rfl
  | succ d ih =>
    intro i hi
    have hlt : i < t.length := by omega
    have hw : wrap64 ((i : Int) + 1) = ((i + 1 : Nat) : Int) := by unfold wrap64; omega
    refine Ev.step (f := fun k => impl_isTriangle.l0 k t t (t.length : Int) ((i + 1 : Nat) : Int)) (fun k => ?_) (ih (i + 1) (by omega))
    simp only [impl_isTriangle.l0]
    rw [if_pos (by omega), if_pos (by omega), if_pos (by omega), rd_at t i hlt, hw]
    rcases hb t[i] (List.getElem_mem hlt) with e | e
    · rw [if_pos e]
    · rw [if_neg (by omega), if_pos e]
theorem isTri_eq (p : Nat → Nat → Bool) : Ev (fun k => impl_isTriangle.f k (Man.triRow p)) true := by
  unfold impl_isTriangle.f
  exact isTri_from _ (triRow_len p) (triRow_bits p) (Man.triRow p).length 0 (by omega)
theorem triOk_eq (p : Nat → Nat → Bool) : Ev (fun k => impl_TriangleOk.f k (Man.triRow p)) true := by
  unfold impl_TriangleOk.f
  exact Ev.bind (isTri_eq p) (Ev.now _)
theorem sameInts_from (l : List Int) (hl : l.length ≤ 1000) (d : Nat) : ∀ i, i + d = l.length → Ev (fun k => laws_sameInts.l0 k l l (i : Int)) true := by
  induction d with
  | zero =>
    intro i hi
    refine Ev.step (f := fun _ => some true) (fun k => ?_) (Ev.now _)
    simp only [laws_sameInts.l0]
    rw [if_neg (by omega)]
  | succ d ih =>
    intro i hi
    have hw : wrap64 ((i : Int) + 1) = ((i + 1 : Nat) : Int) := by unfold wrap64; omega
    refine Ev.step (f := fun k => laws_sameInts.l0 k l l ((i + 1 : Nat) : Int)) (fun k => ?_) (ih (i + 1) (by omega))
    simp only [laws_sameInts.l0]
    rw [if_pos (by omega), if_pos (by omega), if_pos (by omega), if_true, hw]
theorem sameInts_self (l : List Int) (hl : l.length ≤ 1000) : Ev (fun k => laws_sameInts.f k l l) true := by
  unfold laws_sameInts.f
  simp only [if_true]
  exact sameInts_from l hl l.length 0 (by omega)

theorem any_not (a b c : List Int) : AnyO (Go.Proofs.Ytiplbleghaoehaa.Sem.notM a b c).1 (Go.Proofs.Ytiplbleghaoehaa.Sem.notM a b c).2.1 (Go.Proofs.Ytiplbleghaoehaa.Sem.notM a b c).2.2 ↔ AnyO a b c := by
  by_cases h : MachOk a b c
  · have e : Go.Proofs.Ytiplbleghaoehaa.Sem.notM a b c = (a, b, c.map fun x => wrap64 (1 - x)) := by unfold Go.Proofs.Ytiplbleghaoehaa.Sem.notM; rw [if_pos h]
    rw [e]
    exact ⟨fun x => ⟨h, x.2⟩, fun x => ⟨not_ok h, x.2⟩⟩
  · have e : Go.Proofs.Ytiplbleghaoehaa.Sem.notM a b c = ([], [], []) := by unfold Go.Proofs.Ytiplbleghaoehaa.Sem.notM; rw [if_neg h]
    rw [e]
    refine ⟨fun x => ?_, fun x => absurd x.1 h⟩
    have := x.1.1.1
    exact absurd this (by decide)
theorem tri_not {a b c : List Int} (h : AnyO a b c) : triOf (Go.Proofs.Ytiplbleghaoehaa.Sem.notM a b c).1 (Go.Proofs.Ytiplbleghaoehaa.Sem.notM a b c).2.1 (Go.Proofs.Ytiplbleghaoehaa.Sem.notM a b c).2.2 = Man.triRow (Man.notP (Man.triRow (Man.triP a b c))) := by
  have hn := (any_not a b c).2 h
  unfold triOf
  rw [if_pos hn]
  refine triRow_congr (fun al so ha hs => ?_)
  rw [notP_row _ al so ha hs]
  have e : Go.Proofs.Ytiplbleghaoehaa.Sem.notM a b c = (a, b, c.map fun x => wrap64 (1 - x)) := by unfold Go.Proofs.Ytiplbleghaoehaa.Sem.notM; rw [if_pos h.1]
  rw [e]
  have hr := state_range h.1 (List.replicate (al - so) 48 ++ List.replicate so 49) 0 (by omega) (by have := h.1.1.1; omega)
  unfold Man.triP
  simp only
  generalize stateOf a b (List.replicate (al - so) 48 ++ List.replicate so 49) 0 = st at hr ⊢
  have hc := h.1.1.2.2.2
  obtain ⟨m, rfl⟩ : ∃ m : Nat, st = (m : Int) := ⟨st.toNat, by omega⟩
  have := h.1.2 m (by omega)
  unfold StOk at this
  have h3 := this.2.2
  have hlt : m < c.length := by omega
  rw [rd_at c _ hlt] at h3 ⊢
  rw [rd_at _ _ (by rw [List.length_map]; exact hlt), List.getElem_map]
  rcases (show c[m] = 0 ∨ c[m] = 1 by omega) with e1 | e1 <;> rw [e1] <;> (unfold wrap64; decide)
end Go.Proofs.Ytiplbleghaoehaa.Sem
