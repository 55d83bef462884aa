/- The reference's closure of sentences, in plain words: its rounds; for one to three kinds and at most six allowed sentences. -/
import Derived.Test.YthnmllkhlinnaaaSemSpecClosed
namespace Go.Proofs.Ythnmllkhlinnaaa.Sem
open Go.RowKit Go.Proofs.Ythnmllkhlinnaaa.PA Go.Proofs.YthnmllkhlinnaaaW.PrintWords Go.Proofs.YthnmllkhlinnaaaW.PrintLast Go.Proofs.YthnmllkhlinnaaaW.PrintMore
set_option linter.unusedVariables false
set_option linter.unusedSimpArgs false

/-- The row T is closed for what comes of its part K. -/
structure Clo (k : Int) (L K T : List Sy) : Prop where
  snd : ∀ x ∈ T, Pr k L x
  said : ∀ x ∈ L, x ∈ T
  same : ∀ x : Int, 0 ≤ x → x < 2 * k → (⟨0, x, x⟩ : Sy) ∈ T
  turn : ∀ x y : Int, (⟨1, x, y⟩ : Sy) ∈ K → (⟨1, y, x⟩ : Sy) ∈ T
  there : ∀ x y : Int, (⟨1, x, y⟩ : Sy) ∈ K → (⟨1, x, x⟩ : Sy) ∈ T
  contra : ∀ x y : Int, (⟨0, x, y⟩ : Sy) ∈ K → (⟨0, oth y, oth x⟩ : Sy) ∈ T
  void : ∀ x z : Int, (⟨0, x, oth x⟩ : Sy) ∈ K → 0 ≤ z → z < 2 * k → (⟨0, x, z⟩ : Sy) ∈ T
  chain : ∀ f x y z : Int, (⟨f, x, y⟩ : Sy) ∈ K → (⟨0, y, z⟩ : Sy) ∈ K → (⟨f, x, z⟩ : Sy) ∈ T
  any : ∀ (x y : Int) (s : Sy), (⟨1, x, y⟩ : Sy) ∈ K → (⟨0, x, oth y⟩ : Sy) ∈ K → Oks k s → s ∈ T

theorem Clo.done {k : Int} {L T : List Sy} (h : Clo k L T T) (s : Sy) : s ∈ T ↔ Pr k L s := by
  refine ⟨h.snd s, fun hs => ?_⟩
  induction hs with
  | said hx => exact h.said _ hx
  | same h1 h2 => exact h.same _ h1 h2
  | turn _ ih => exact h.turn _ _ ih
  | there _ ih => exact h.there _ _ ih
  | contra _ ih => exact h.contra _ _ ih
  | void _ h1 h2 ih => exact h.void _ _ ih h1 h2
  | chain _ _ ih1 ih2 => exact h.chain _ _ _ _ ih1 ih2
  | any _ _ h1 ih1 ih2 => exact h.any _ _ _ ih1 ih2 h1

/-- What comes of a sentence: alone, with terms, with those that have been looked at. -/
def Fr (k : Int) (K' : List Sy) (a s : Sy) : Prop :=
  s ∈ alone a ∨ (a.f0 ≠ 1 ∧ a.f2 = oth a.f1 ∧ ∃ z : Int, 0 ≤ z ∧ z < 2 * k ∧ s = ⟨0, a.f1, z⟩) ∨ ∃ b ∈ K', Two k a b s ∨ Two k b a s

theorem Clo.next {k : Int} {L K T T' : List Sy} {a : Sy} (hL : ∀ s ∈ L, Oks k s) (h : Clo k L K T) (ha : a ∈ T) (hK : ∀ s ∈ K, s ∈ T) (hT : ∀ s, s ∈ T' ↔ s ∈ T ∨ Fr k (K ++ [a]) a s) : Clo k L (K ++ [a]) T' := by
  have inT : ∀ s, s ∈ T → s ∈ T' := fun s hs => (hT s).2 (Or.inl hs)
  have inF : ∀ s, Fr k (K ++ [a]) a s → s ∈ T' := fun s hs => (hT s).2 (Or.inr hs)
  have hPa := h.snd a ha
  have hPK : ∀ b ∈ K ++ [a], Pr k L b := fun b hb => by
    rcases List.mem_append.1 hb with hb | hb
    · exact h.snd b (hK b hb)
    · rw [List.mem_singleton.1 hb]; exact hPa
  have cut : ∀ s, s ∈ K ++ [a] → s ∈ K ∨ s = a := fun s hs => (List.mem_append.1 hs).imp id (fun h => List.mem_singleton.1 h)
  have haK : a ∈ K ++ [a] := List.mem_append_right _ (List.mem_singleton.2 rfl)
  have two : ∀ b c s, Pr k L b → Pr k L c → Two k b c s → Pr k L s := fun b c s hb hc ht => by
    obtain ⟨b0, b1, b2⟩ := b
    obtain ⟨c0, c1, c2⟩ := c
    rcases ht with ⟨e1, e2, rfl⟩ | ⟨e1, e2, e3, e4, e5⟩
    · simp only at e1 e2
      subst e1; subst e2
      exact hb.chain hc
    · simp only at e1 e2 e3 e4
      subst e1; subst e2; subst e3; subst e4
      exact Pr.any hb hc e5
  refine ⟨fun x hx => ?_, fun x hx => inT x (h.said x hx), fun x h1 h2 => inT _ (h.same x h1 h2), fun x y hx => ?_, fun x y hx => ?_, fun x y hx => ?_, fun x z hx h1 h2 => ?_, fun f x y z h1 h2 => ?_, fun x y s h1 h2 h3 => ?_⟩
  · rcases (hT x).1 hx with hx | hx
    · exact h.snd x hx
    · obtain ⟨f, o, t⟩ := a
      have hok := hPa.ok hL
      rcases hx with hx | ⟨e1, e2, z, h1, h2, rfl⟩ | ⟨b, hb, hx | hx⟩
      · unfold alone at hx
        simp only at hx
        split at hx
        · rename_i e
          subst e
          rcases List.mem_cons.1 hx with rfl | hx
          · exact hPa.turn
          · rw [List.mem_singleton.1 hx]; exact hPa.there
        · rename_i e
          have e0 : f = 0 := hok.1.resolve_right e
          subst e0
          rw [List.mem_singleton.1 hx]
          exact hPa.contra
      · have e0 : f = 0 := hok.1.resolve_right e1
        simp only at e2
        subst e0; subst e2
        exact hPa.void h1 h2
      · exact two _ _ _ hPa (hPK b hb) hx
      · exact two _ _ _ (hPK b hb) hPa hx
  · rcases cut _ hx with hx | rfl
    · exact inT _ (h.turn x y hx)
    · exact inF _ (Or.inl (by unfold alone; rw [if_pos rfl]; simp))
  · rcases cut _ hx with hx | rfl
    · exact inT _ (h.there x y hx)
    · exact inF _ (Or.inl (by unfold alone; rw [if_pos rfl]; simp))
  · rcases cut _ hx with hx | rfl
    · exact inT _ (h.contra x y hx)
    · exact inF _ (Or.inl (by unfold alone; rw [if_neg (by show ¬ (0 : Int) = 1; omega)]; simp))
  · rcases cut _ hx with hx | rfl
    · exact inT _ (h.void x z hx h1 h2)
    · exact inF _ (Or.inr (Or.inl ⟨by show ¬ (0 : Int) = 1; omega, rfl, z, h1, h2, rfl⟩))
  · rcases cut _ h1 with h1' | rfl
    · rcases cut _ h2 with h2' | rfl
      · exact inT _ (h.chain f x y z h1' h2')
      · exact inF _ (Or.inr (Or.inr ⟨_, h1, Or.inr (Or.inl ⟨rfl, rfl, rfl⟩)⟩))
    · exact inF _ (Or.inr (Or.inr ⟨_, h2, Or.inl (Or.inl ⟨rfl, rfl, rfl⟩)⟩))
  · rcases cut _ h1 with h1' | rfl
    · rcases cut _ h2 with h2' | rfl
      · exact inT _ (h.any x y s h1' h2' h3)
      · exact inF _ (Or.inr (Or.inr ⟨_, h1, Or.inr (Or.inr ⟨rfl, rfl, rfl, rfl, h3⟩)⟩))
    · exact inF _ (Or.inr (Or.inr ⟨_, h2, Or.inl (Or.inr ⟨rfl, rfl, rfl, rfl, h3⟩)⟩))

/-! ### the rounds -/
/-- All that came is put to the row. -/
theorem put_all (k x7 : Int) (r : List Sy) (F : List Sy) (hF : F.length ≤ 50000) (d : Nat) : ∀ (j : Nat) (l : List Sy), l.length + d ≤ 100000 → j + d = F.length →
    Ev (fun q => spec_l5Closed.l1 q k (addAll l (F.drop j)) (wrap64 (x7 + 1))) r → Ev (fun q => spec_l5Closed.l4 q k l x7 F (j : Int)) r := by
  induction d with
  | zero =>
    intro j l hl hj h
    rw [List.drop_of_length_le (by omega)] at h
    refine Ev.step (f := fun q => spec_l5Closed.l1 q k l (wrap64 (x7 + 1))) (fun q => ?_) h
    simp only [spec_l5Closed.l4]
    rw [if_neg (by omega)]
  | succ d ih =>
    intro j l hl hj h
    have hlt : j < F.length := by omega
    rw [List.drop_eq_getElem_cons hlt] at h
    obtain ⟨b, hb⟩ := add_eq l F[j] (by omega)
    have hlen : (addS l F[j]).length + d ≤ 100000 := by
      unfold addS
      split
      · omega
      · rw [List.length_append, List.length_singleton]; omega
    refine Ev.step (f := fun q => (spec_l5Add.f q l F[j].f0 F[j].f1 F[j].f2).bind fun bt => spec_l5Closed.l4 q k bt.1 x7 F ((j + 1 : Nat) : Int)) (fun q => ?_) (Ev.bind hb (ih (j + 1) _ hlen (by omega) h))
    simp only [spec_l5Closed.l4]
    rw [if_pos (by omega), if_pos (by omega), rdS F j hlt, w1 j (by omega)]

/-- A sentence with those that have been looked at. -/
theorem pairs {k : Int} (hk : 1 ≤ k ∧ k ≤ 3) (l : List Sy) (i : Nat) (hi : i < l.length) (hl : l.length ≤ 78) (hok : ∀ s ∈ l, Oks k s) (a : Sy) (ha : Oks k a) (d : Nat) : ∀ (j : Nat) (F : List Sy), F.length + d * 146 ≤ 20000 → j + d = i + 1 →
    ∃ F', (∀ r, Ev (fun q => spec_l5Closed.l4 q k l (i : Int) F' 0) r → Ev (fun q => spec_l5Closed.l3 q k l (i : Int) F (j : Int) a.f0 a.f1 a.f2) r) ∧ (∀ s, s ∈ F' ↔ s ∈ F ∨ ∃ b ∈ (l.take (i + 1)).drop j, Two k a b s ∨ Two k b a s) ∧ F'.length ≤ F.length + d * 146 := by
  have htl : (l.take (i + 1)).length = i + 1 := by rw [List.length_take]; omega
  induction d with
  | zero =>
    intro j F hF hj
    refine ⟨F, fun r h => Ev.step (f := fun q => spec_l5Closed.l4 q k l (i : Int) F 0) (fun q => ?_) h, fun s => ?_, by omega⟩
    · simp only [spec_l5Closed.l3]
      rw [if_neg (by omega)]
    · rw [List.drop_of_length_le (by omega)]
      simp
  | succ d ih =>
    intro j F hF hj
    have hlt : j < l.length := by omega
    have hb := hok _ (List.getElem_mem hlt)
    obtain ⟨o1, e1, m1, n1⟩ := two_eq hk a l[j] ha
    obtain ⟨o2, e2, m2, n2⟩ := two_eq hk l[j] a hb
    obtain ⟨F', h', m', n'⟩ := ih (j + 1) (F ++ o1 ++ o2) (by rw [List.length_append, List.length_append]; omega) (by omega)
    refine ⟨F', fun r h => ?_, fun s => ?_, by rw [List.length_append, List.length_append] at n'; omega⟩
    · refine Ev.step (f := fun q => (spec_l5Two.f q a.f0 a.f1 a.f2 l[j].f0 l[j].f1 l[j].f2 k).bind fun t => if F.length + t.length < 5864062014805 then (some (F ++ t)).bind fun y => (spec_l5Two.f q l[j].f0 l[j].f1 l[j].f2 a.f0 a.f1 a.f2 k).bind fun t2 => if y.length + t2.length < 5864062014805 then spec_l5Closed.l3 q k l (i : Int) (y ++ t2) ((j + 1 : Nat) : Int) a.f0 a.f1 a.f2 else none else none) (fun q => ?_) ?_
      · simp only [spec_l5Closed.l3]
        rw [if_pos (by omega), if_pos (by omega), if_pos (by omega), rdS l j hlt, w1 j (by omega)]
      · refine Ev.bind e1 ?_
        simp only [if_pos (show F.length + o1.length < 5864062014805 by omega), Option.bind_some]
        refine Ev.bind e2 ?_
        simp only [if_pos (show (F ++ o1).length + o2.length < 5864062014805 by rw [List.length_append]; omega)]
        exact h' r h
    · rw [m', List.mem_append, List.mem_append, m1, m2]
      have hd : (l.take (i + 1)).drop j = l[j] :: (l.take (i + 1)).drop (j + 1) := by
        rw [List.drop_eq_getElem_cons (by omega), List.getElem_take]
      rw [hd]
      constructor
      · rintro (((h | h) | h) | ⟨b, hb, h⟩)
        · exact Or.inl h
        · exact Or.inr ⟨_, List.mem_cons_self, Or.inl h⟩
        · exact Or.inr ⟨_, List.mem_cons_self, Or.inr h⟩
        · exact Or.inr ⟨b, List.mem_cons_of_mem _ hb, h⟩
      · rintro (h | ⟨b, hb, h⟩)
        · exact Or.inl (Or.inl (Or.inl h))
        · rcases List.mem_cons.1 hb with rfl | hb
          · rcases h with h | h
            · exact Or.inl (Or.inl (Or.inr h))
            · exact Or.inl (Or.inr h)
          · exact Or.inr ⟨b, hb, h⟩

/-- A sentence with terms. -/
theorem voids {k : Int} (hk : 1 ≤ k ∧ k ≤ 3) {n : Nat} (hn : wrap64 (2 * k) = (n : Int)) (hn6 : n ≤ 6) (l : List Sy) (i : Int) (a : Sy) (ha : Oks k a) (h2 : a.f2 = oth a.f1) (r : List Sy) (d : Nat) : ∀ (z : Nat) (F : List Sy), F.length + d ≤ 1000 → z + d = n →
    Ev (fun q => spec_l5Closed.j3 q k l i (F ++ (List.range' z d).map fun z : Nat => ⟨0, a.f1, (z : Int)⟩) a.f0 a.f1 a.f2) r → Ev (fun q => spec_l5Closed.l2 q k l i F (z : Int) a.f0 a.f1 a.f2) r := by
  induction d with
  | zero =>
    intro z F hF hz h
    refine Ev.step (f := fun q => spec_l5Closed.j3 q k l i F a.f0 a.f1 a.f2) (fun q => ?_) (by simpa using h)
    simp only [spec_l5Closed.l2, hn]
    rw [if_neg (by omega)]
  | succ d ih =>
    intro z F hF hz h
    refine Ev.step (f := fun q => spec_l5Closed.l2 q k l i (F ++ [(⟨0, a.f1, (z : Int)⟩ : Sy)]) ((z + 1 : Nat) : Int) a.f0 a.f1 a.f2) (fun q => ?_) (ih (z + 1) _ (by rw [List.length_append, List.length_singleton]; omega) (by omega) ?_)
    · simp only [spec_l5Closed.l2, hn]
      rw [if_pos (by omega), other_eq hk.2 ha.2.1, Option.bind_some, if_pos h2, if_pos (by omega), w1 z (by omega)]
    · rw [List.range'_succ, List.map_cons] at h
      rw [List.append_assoc]
      exact h

theorem round_eq {k : Int} (hk : 1 ≤ k ∧ k ≤ 3) (l : List Sy) (i : Nat) (hi : i < l.length) (hl : l.length ≤ 78) (hok : ∀ s ∈ l, Oks k s) :
    ∃ F, (∀ r, Ev (fun q => spec_l5Closed.l1 q k (addAll l F) ((i + 1 : Nat) : Int)) r → Ev (fun q => spec_l5Closed.l1 q k l (i : Int)) r) ∧ (∀ s, s ∈ F ↔ Fr k (l.take (i + 1)) l[i] s) := by
  obtain ⟨n, hn⟩ : ∃ n : Nat, 2 * k = (n : Int) := ⟨(2 * k).toNat, by omega⟩
  have hw : wrap64 (2 * k) = (n : Int) := by unfold wrap64; omega
  have hn6 : n ≤ 6 := by omega
  have ha := hok _ (List.getElem_mem hi)
  generalize hae : l[i] = a at ha ⊢
  have rest : ∀ F1 : List Sy, F1.length ≤ 20 → ∃ F, (∀ r, Ev (fun q => spec_l5Closed.l1 q k (addAll l F) ((i + 1 : Nat) : Int)) r → Ev (fun q => spec_l5Closed.j3 q k l (i : Int) F1 a.f0 a.f1 a.f2) r) ∧ (∀ s, s ∈ F ↔ s ∈ F1 ∨ ∃ b ∈ l.take (i + 1), Two k a b s ∨ Two k b a s) := fun F1 hF1 => by
    obtain ⟨F, h, m, nl⟩ := pairs hk l i hi hl hok a ha (i + 1) 0 F1 (by omega) (by omega)
    refine ⟨F, fun r hr => ?_, fun s => by rw [m, List.drop_zero]⟩
    refine Ev.step (f := fun q => spec_l5Closed.l3 q k l (i : Int) F1 ((0 : Nat) : Int) a.f0 a.f1 a.f2) (fun q => by simp only [spec_l5Closed.j3]; rfl) (h r ?_)
    have := put_all k (i : Int) r F (by omega) F.length 0 l (by omega) (by omega) (by rw [List.drop_zero, w1 i (by omega)]; exact hr)
    exact this
  by_cases h1 : a.f0 = 1
  · obtain ⟨F, h, m⟩ := rest [⟨1, a.f2, a.f1⟩, ⟨1, a.f1, a.f1⟩] (by simp)
    refine ⟨F, fun r hr => Ev.step (f := fun q => spec_l5Closed.j3 q k l (i : Int) [⟨1, a.f2, a.f1⟩, ⟨1, a.f1, a.f1⟩] a.f0 a.f1 a.f2) (fun q => ?_) (h r hr), fun s => ?_⟩
    · simp only [spec_l5Closed.l1, rdS l i hi, hae]
      rw [if_pos (by omega), if_pos (by omega)]
      simp only [Option.bind_some, if_pos h1]
      rw [if_pos (by simp)]
      rfl
    · rw [m]
      unfold Fr alone
      rw [if_pos h1]
      constructor
      · exact fun h => h.imp id Or.inr
      · rintro (h | h | h)
        · exact Or.inl h
        · exact absurd h1 h.1
        · exact Or.inr h
  · have start : ∀ r, Ev (fun q => spec_l5Closed.l2 q k l (i : Int) [⟨0, oth a.f2, oth a.f1⟩] ((0 : Nat) : Int) a.f0 a.f1 a.f2) r → Ev (fun q => spec_l5Closed.l1 q k l (i : Int)) r := fun r hr => by
      refine Ev.step (f := fun q => spec_l5Closed.l2 q k l (i : Int) [⟨0, oth a.f2, oth a.f1⟩] ((0 : Nat) : Int) a.f0 a.f1 a.f2) (fun q => ?_) hr
      simp only [spec_l5Closed.l1, rdS l i hi, hae]
      rw [if_pos (by omega), if_pos (by omega)]
      simp only [Option.bind_some, if_neg h1, other_eq hk.2 ha.2.2, other_eq hk.2 ha.2.1]
      rw [if_pos (by simp)]
      rfl
    by_cases h2 : a.f2 = oth a.f1
    · obtain ⟨F, h, m⟩ := rest ([⟨0, oth a.f2, oth a.f1⟩] ++ (List.range' 0 n).map fun z : Nat => ⟨0, a.f1, (z : Int)⟩) (by simp; omega)
      refine ⟨F, fun r hr => start r (voids hk hw hn6 l (i : Int) a ha h2 r n 0 _ (by simp; omega) (by omega) (h r hr)), fun s => ?_⟩
      rw [m, List.mem_append]
      unfold Fr alone
      rw [if_neg h1, or_assoc, List.mem_map]
      have e : (∃ z, z ∈ List.range' 0 n ∧ (⟨0, a.f1, (z : Int)⟩ : Sy) = s) ↔ (a.f0 ≠ 1 ∧ a.f2 = oth a.f1 ∧ ∃ z : Int, 0 ≤ z ∧ z < 2 * k ∧ s = ⟨0, a.f1, z⟩) := by
        constructor
        · rintro ⟨z, hz, rfl⟩
          rw [← List.range_eq_range', List.mem_range] at hz
          exact ⟨h1, h2, z, by omega, by omega, rfl⟩
        · rintro ⟨_, _, z, h3, h4, rfl⟩
          refine ⟨z.toNat, ?_, by rw [Int.toNat_of_nonneg h3]⟩
          rw [← List.range_eq_range', List.mem_range]
          omega
      rw [e]
    · obtain ⟨F, h, m⟩ := rest [⟨0, oth a.f2, oth a.f1⟩] (by simp)
      refine ⟨F, fun r hr => start r (Ev.step (f := fun q => spec_l5Closed.j3 q k l (i : Int) [⟨0, oth a.f2, oth a.f1⟩] a.f0 a.f1 a.f2) (fun q => ?_) (h r hr)), fun s => ?_⟩
      · simp only [spec_l5Closed.l2, hw]
        rw [if_pos (by omega), other_eq hk.2 ha.2.1, Option.bind_some, if_neg h2]
      · rw [m]
        unfold Fr alone
        rw [if_neg h1]
        constructor
        · exact fun h => h.imp id Or.inr
        · rintro (h | h | h)
          · exact Or.inl h
          · exact absurd h.2.1 h2
          · exact Or.inr h

theorem closed_from {k : Int} (hk : 1 ≤ k ∧ k ≤ 3) {L : List Sy} (hL : ∀ s ∈ L, Oks k s) (hl6 : L.length ≤ 6) (d : Nat) : ∀ (i : Nat) (l : List Sy), Ls k L l → Clo k L (l.take i) l → i ≤ l.length → 78 ≤ i + d →
    ∃ out, Ev (fun q => spec_l5Closed.l1 q k l (i : Int)) out ∧ (∀ s, s ∈ out ↔ Pr k L s) ∧ out.length ≤ 78 := by
  induction d with
  | zero =>
    intro i l hls hc hi hd
    have hf := hls.few hk hl6
    obtain rfl : i = l.length := by omega
    rw [List.take_of_length_le (Nat.le_refl _)] at hc
    refine ⟨l, Ev.step (f := fun _ => some l) (fun q => ?_) (Ev.now _), hc.done, hf⟩
    simp only [spec_l5Closed.l1]
    rw [if_neg (by omega)]
  | succ d ih =>
    intro i l hls hc hi hd
    have hf := hls.few hk hl6
    have hok : ∀ s ∈ l, Oks k s := fun s hs => (hc.snd s hs).ok hL
    by_cases hlt : i < l.length
    · obtain ⟨F, h, m⟩ := round_eq hk l i hlt hf hok
      have hcn : Clo k L (l.take i ++ [l[i]]) (addAll l F) := hc.next hL (List.getElem_mem hlt) (fun s hs => List.mem_of_mem_take hs) (fun s => by rw [mem_addAll, m, List.take_succ_eq_append_getElem hlt])
      have hFok : ∀ s ∈ F, Oks k s := fun s hs => (hcn.snd s ((mem_addAll F l s).2 (Or.inr hs))).ok hL
      obtain ⟨e, he⟩ := addAll_pre F l
      have htk : (addAll l F).take (i + 1) = l.take i ++ [l[i]] := by
        rw [he, List.take_append_of_le_length (by omega), List.take_succ_eq_append_getElem hlt]
      obtain ⟨out, ho, mo, no⟩ := ih (i + 1) (addAll l F) (hls.addAll F hFok) (by rw [htk]; exact hcn) (by rw [he, List.length_append]; omega) (by omega)
      exact ⟨out, h out ho, mo, no⟩
    · obtain rfl : i = l.length := by omega
      rw [List.take_of_length_le (Nat.le_refl _)] at hc
      refine ⟨l, Ev.step (f := fun _ => some l) (fun q => ?_) (Ev.now _), hc.done, hf⟩
      simp only [spec_l5Closed.l1]
      rw [if_neg (by omega)]

theorem sames {k : Int} (hk : 1 ≤ k ∧ k ≤ 3) {n : Nat} (hn : wrap64 (2 * k) = (n : Int)) (hn6 : n ≤ 6) (r : List Sy) (d : Nat) : ∀ (x : Nat) (l : List Sy), l.length + d ≤ 1000 → x + d = n →
    Ev (fun q => spec_l5Closed.l1 q k (addAll l ((List.range' x d).map fun x : Nat => ⟨0, (x : Int), (x : Int)⟩)) 0) r → Ev (fun q => spec_l5Closed.l0 q k l (x : Int)) r := by
  induction d with
  | zero =>
    intro x l hl hx h
    refine Ev.step (f := fun q => spec_l5Closed.l1 q k l 0) (fun q => ?_) (by simpa [addAll] using h)
    simp only [spec_l5Closed.l0, hn]
    rw [if_neg (by omega)]
  | succ d ih =>
    intro x l hl hx h
    obtain ⟨b, hb⟩ := add_eq l ⟨0, (x : Int), (x : Int)⟩ (by omega)
    have hlen : (addS l ⟨0, (x : Int), (x : Int)⟩).length + d ≤ 1000 := by
      unfold addS
      split
      · omega
      · rw [List.length_append, List.length_singleton]; omega
    refine Ev.step (f := fun q => (spec_l5Add.f q l 0 (x : Int) (x : Int)).bind fun bt => spec_l5Closed.l0 q k bt.1 ((x + 1 : Nat) : Int)) (fun q => ?_) (Ev.bind hb (ih (x + 1) _ hlen (by omega) h))
    simp only [spec_l5Closed.l0, hn]
    rw [if_pos (by omega), w1 x (by omega)]

theorem closed_eq {k : Int} (hk : 1 ≤ k ∧ k ≤ 3) {L : List Sy} (hL : ∀ s ∈ L, Oks k s) (hl6 : L.length ≤ 6) :
    ∃ out, Ev (fun q => spec_l5Closed.f q k L) out ∧ (∀ s, s ∈ out ↔ Pr k L s) ∧ out.length ≤ 78 := by
  obtain ⟨n, hn⟩ : ∃ n : Nat, 2 * k = (n : Int) := ⟨(2 * k).toNat, by omega⟩
  have hw : wrap64 (2 * k) = (n : Int) := by unfold wrap64; omega
  have hn6 : n ≤ 6 := by omega
  have hm : ∀ s, s ∈ (List.range' 0 n).map (fun x : Nat => (⟨0, (x : Int), (x : Int)⟩ : Sy)) ↔ ∃ x : Int, 0 ≤ x ∧ x < 2 * k ∧ s = ⟨0, x, x⟩ := fun s => by
    rw [List.mem_map]
    constructor
    · rintro ⟨x, hx, rfl⟩
      rw [← List.range_eq_range', List.mem_range] at hx
      exact ⟨x, by omega, by omega, rfl⟩
    · rintro ⟨x, h1, h2, rfl⟩
      refine ⟨x.toNat, ?_, by rw [Int.toNat_of_nonneg h1]⟩
      rw [← List.range_eq_range', List.mem_range]
      omega
  have hls : Ls k L (addAll L ((List.range' 0 n).map fun x : Nat => ⟨0, (x : Int), (x : Int)⟩)) := Ls.addAll _ ⟨[], by simp, List.nodup_nil, fun s hs => by cases hs⟩ (fun s hs => by
    obtain ⟨x, h1, h2, rfl⟩ := (hm s).1 hs
    exact ⟨Or.inl rfl, ⟨h1, h2⟩, ⟨h1, h2⟩⟩)
  have hc : Clo k L [] (addAll L ((List.range' 0 n).map fun x : Nat => ⟨0, (x : Int), (x : Int)⟩)) := by
    refine ⟨fun x hx => ?_, fun x hx => (mem_addAll _ _ _).2 (Or.inl hx), fun x h1 h2 => (mem_addAll _ _ _).2 (Or.inr ((hm _).2 ⟨x, h1, h2, rfl⟩)), ?_, ?_, ?_, ?_, ?_, ?_⟩
    · rcases (mem_addAll _ _ _).1 hx with hx | hx
      · exact Pr.said hx
      · obtain ⟨y, h1, h2, rfl⟩ := (hm _).1 hx
        exact Pr.same h1 h2
    all_goals (intros; simp_all)
  obtain ⟨out, ho, mo, no⟩ := closed_from hk hL hl6 78 0 _ hls (by rw [List.take_zero]; exact hc) (by omega) (by omega)
  refine ⟨out, ?_, mo, no⟩
  unfold spec_l5Closed.f
  simp only [Option.bind_some, List.nil_append, List.length_nil, if_pos (show 0 + L.length < 5864062014805 by omega)]
  exact sames hk hw hn6 out n 0 L (by omega) (by omega) ho
end Go.Proofs.Ythnmllkhlinnaaa.Sem
