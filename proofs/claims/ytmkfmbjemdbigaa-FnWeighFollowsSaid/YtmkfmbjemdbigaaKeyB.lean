/- Words printed by the print tool, the unused ones left out, merged into one text by mergew.py. -/
import Derived.Test.YtmkfmbjemdbigaaSemBase
import Derived.Test.YtmkfmbjemdbigaaPAx29
import Derived.Maps.OwnSet
import Derived.Maps.Views
import Derived.DeepKeys4
import Derived.Test.YtmkfmbjemdbigaaPAx0
import Derived.Shelf.Abstract
section
/- What the small functions of chapter 5 answer, in plain words: sentences that are allowed. -/
namespace Go.Proofs.Ytmkfmbjemdbigaa.Sem
open Go.RowKit Go.Proofs.Ytmkfmbjemdbigaa.PA Go.Proofs.YtmkfmbjemdbigaaW.PrintWords Go.Proofs.YtmkfmbjemdbigaaW.PrintLast
set_option linter.unusedVariables false
set_option linter.unusedSimpArgs false

/-- A sentence of all or some about terms of so many kinds. -/
def OkSay (k f o t : Int) : Prop := 1 ≤ k ∧ k ≤ 3 ∧ 0 ≤ f ∧ f ≤ 1 ∧ 0 ≤ o ∧ o < 2 * k ∧ 0 ≤ t ∧ t < 2 * k
instance (k f o t : Int) : Decidable (OkSay k f o t) := by unfold OkSay; infer_instance

theorem w2 {k : Int} (h : 1 ≤ k) (h3 : k ≤ 3) : wrap64 (2 * k) = 2 * k := by unfold wrap64; omega
theorem w21 {k : Int} (h : 1 ≤ k) (h3 : k ≤ 3) : wrap64 (2 * k - 1) = 2 * k - 1 := by unfold wrap64; omega

theorem impl_isSay_eq (k f o t : Int) : impl_isSay.f k f o t = some (decide (OkSay k f o t)) := by
  unfold impl_isSay.f OkSay
  by_cases hk : 1 ≤ k ∧ k ≤ 3
  · rw [if_neg (by omega), if_neg (by omega), w2 hk.1 hk.2]
    by_cases h1 : f = 0
    · rw [if_pos h1]
      by_cases h2 : 0 ≤ o
      · rw [if_pos h2]
        by_cases h3 : o < 2 * k
        · rw [if_pos h3]
          by_cases h4 : 0 ≤ t
          · rw [if_pos h4]; exact congrArg some (decide_eq_decide.mpr (by omega))
          · rw [if_neg h4]; exact congrArg some (decide_eq_false (by omega)).symm
        · rw [if_neg h3]; exact congrArg some (decide_eq_false (by omega)).symm
      · rw [if_neg h2]; exact congrArg some (decide_eq_false (by omega)).symm
    · rw [if_neg h1]
      by_cases h1' : f = 1
      · rw [if_pos h1']
        by_cases h2 : 0 ≤ o
        · rw [if_pos h2]
          by_cases h3 : o < 2 * k
          · rw [if_pos h3]
            by_cases h4 : 0 ≤ t
            · rw [if_pos h4]; exact congrArg some (decide_eq_decide.mpr (by omega))
            · rw [if_neg h4]; exact congrArg some (decide_eq_false (by omega)).symm
          · rw [if_neg h3]; exact congrArg some (decide_eq_false (by omega)).symm
        · rw [if_neg h2]; exact congrArg some (decide_eq_false (by omega)).symm
      · rw [if_neg h1']; exact congrArg some (decide_eq_false (by omega)).symm
  · by_cases h : k < 1
    · rw [if_pos h]; exact congrArg some (decide_eq_false (by omega)).symm
    · rw [if_neg h, if_pos (by omega)]; exact congrArg some (decide_eq_false (by omega)).symm


end Go.Proofs.Ytmkfmbjemdbigaa.Sem

end
section
/- What is proved from sentences: the least closed set, and the row that grows till it is closed; plain words, no program; no condition but those that each word names. -/
namespace Go.Proofs.Ytmkfmbjemdbigaa.Sem
open Go.RowKit Go.Proofs.Ytmkfmbjemdbigaa.PA Go.Proofs.YtmkfmbjemdbigaaW.PrintWords Go.Proofs.YtmkfmbjemdbigaaW.PrintLast Go.Proofs.YtmkfmbjemdbigaaW.PrintMore
set_option linter.unusedVariables false
set_option linter.unusedSimpArgs false

abbrev Sy := S25
instance : DecidableEq Sy := fun a b => decidable_of_iff (a.f0 = b.f0 ∧ a.f1 = b.f1 ∧ a.f2 = b.f2) ⟨fun h => by cases a; cases b; simp_all, fun h => by subst h; exact ⟨rfl, rfl, rfl⟩⟩

/-- The contrary of a term. -/
def oth (x : Int) : Int := if x % 2 = 0 then x + 1 else x - 1
/-- A sentence of so many kinds. -/
def Oks (k : Int) (s : Sy) : Prop := (s.f0 = 0 ∨ s.f0 = 1) ∧ (0 ≤ s.f1 ∧ s.f1 < 2 * k) ∧ (0 ≤ s.f2 ∧ s.f2 < 2 * k)
theorem oth_oth (x : Int) : oth (oth x) = x := by unfold oth; split <;> split <;> omega
theorem oth_range {k x : Int} (h : 0 ≤ x ∧ x < 2 * k) : 0 ≤ oth x ∧ oth x < 2 * k := by unfold oth; split <;> omega

/-- What is proved. -/
inductive Pr (k : Int) (L : List Sy) : Sy → Prop
  | said {s : Sy} : s ∈ L → Pr k L s
  | same {x : Int} : 0 ≤ x → x < 2 * k → Pr k L ⟨0, x, x⟩
  | turn {x y : Int} : Pr k L ⟨1, x, y⟩ → Pr k L ⟨1, y, x⟩
  | there {x y : Int} : Pr k L ⟨1, x, y⟩ → Pr k L ⟨1, x, x⟩
  | contra {x y : Int} : Pr k L ⟨0, x, y⟩ → Pr k L ⟨0, oth y, oth x⟩
  | void {x z : Int} : Pr k L ⟨0, x, oth x⟩ → 0 ≤ z → z < 2 * k → Pr k L ⟨0, x, z⟩
  | chain {f x y z : Int} : Pr k L ⟨f, x, y⟩ → Pr k L ⟨0, y, z⟩ → Pr k L ⟨f, x, z⟩
  | any {x y : Int} {s : Sy} : Pr k L ⟨1, x, y⟩ → Pr k L ⟨0, x, oth y⟩ → Oks k s → Pr k L s

theorem Pr.ok {k : Int} {L : List Sy} (hL : ∀ s ∈ L, Oks k s) {s : Sy} (h : Pr k L s) : Oks k s := by
  induction h with
  | said h => exact hL _ h
  | same h1 h2 => exact ⟨Or.inl rfl, ⟨h1, h2⟩, ⟨h1, h2⟩⟩
  | turn _ ih => exact ⟨Or.inr rfl, ih.2.2, ih.2.1⟩
  | there _ ih => exact ⟨Or.inr rfl, ih.2.1, ih.2.1⟩
  | contra _ ih => exact ⟨Or.inl rfl, oth_range ih.2.2, oth_range ih.2.1⟩
  | void _ h1 h2 ih => exact ⟨Or.inl rfl, ih.2.1, ⟨h1, h2⟩⟩
  | chain _ _ ih1 ih2 => exact ⟨ih1.1, ih1.2.1, ih2.2.2⟩
  | any _ _ h _ _ => exact h

/-- What is known is closed, but for what is still to be done. -/
structure Inv (k : Int) (L K T : List Sy) : Prop where
  nd : K.Nodup
  snd : ∀ x, x ∈ K ∨ x ∈ T → Pr k L x
  said : ∀ x ∈ L, x ∈ K ∨ x ∈ T
  same : ∀ x : Int, 0 ≤ x → x < 2 * k → (⟨0, x, x⟩ : Sy) ∈ K ∨ (⟨0, x, x⟩ : Sy) ∈ T
  turn : ∀ x y : Int, (⟨1, x, y⟩ : Sy) ∈ K → (⟨1, y, x⟩ : Sy) ∈ K ∨ (⟨1, y, x⟩ : Sy) ∈ T
  there : ∀ x y : Int, (⟨1, x, y⟩ : Sy) ∈ K → (⟨1, x, x⟩ : Sy) ∈ K ∨ (⟨1, x, x⟩ : Sy) ∈ T
  contra : ∀ x y : Int, (⟨0, x, y⟩ : Sy) ∈ K → (⟨0, oth y, oth x⟩ : Sy) ∈ K ∨ (⟨0, oth y, oth x⟩ : Sy) ∈ T
  void : ∀ x z : Int, (⟨0, x, oth x⟩ : Sy) ∈ K → 0 ≤ z → z < 2 * k → (⟨0, x, z⟩ : Sy) ∈ K ∨ (⟨0, x, z⟩ : Sy) ∈ T
  chain : ∀ f x y z : Int, (⟨f, x, y⟩ : Sy) ∈ K → (⟨0, y, z⟩ : Sy) ∈ K → (⟨f, x, z⟩ : Sy) ∈ K ∨ (⟨f, x, z⟩ : Sy) ∈ T
  any : ∀ (x y : Int) (s : Sy), (⟨1, x, y⟩ : Sy) ∈ K → (⟨0, x, oth y⟩ : Sy) ∈ K → Oks k s → s ∈ K ∨ s ∈ T

/-- At the end just the proved ones are known. -/
theorem Inv.done {k : Int} {L K : List Sy} (h : Inv k L K []) (s : Sy) : s ∈ K ↔ Pr k L s := by
  have no : ∀ x : Sy, x ∈ K ∨ x ∈ ([] : List Sy) → x ∈ K := fun x hx => hx.resolve_right (by simp)
  refine ⟨fun hs => h.snd s (Or.inl hs), fun hs => ?_⟩
  induction hs with
  | said hx => exact no _ (h.said _ hx)
  | same h1 h2 => exact no _ (h.same _ h1 h2)
  | turn _ ih => exact no _ (h.turn _ _ ih)
  | there _ ih => exact no _ (h.there _ _ ih)
  | contra _ ih => exact no _ (h.contra _ _ ih)
  | void _ h1 h2 ih => exact no _ (h.void _ _ ih h1 h2)
  | chain _ _ ih1 ih2 => exact no _ (h.chain _ _ _ _ ih1 ih2)
  | any _ _ h1 ih1 ih2 => exact no _ (h.any _ _ _ ih1 ih2 h1)

/-- One is popped that was known. -/
theorem Inv.old {k : Int} {L K T : List Sy} {s : Sy} (h : Inv k L K (T ++ [s])) (hs : s ∈ K) : Inv k L K T := by
  have go : ∀ x : Sy, x ∈ K ∨ x ∈ T ++ [s] → x ∈ K ∨ x ∈ T := fun x hx => by
    rcases hx with hx | hx
    · exact Or.inl hx
    · rcases List.mem_append.1 hx with hx | hx
      · exact Or.inr hx
      · rw [List.mem_singleton.1 hx]; exact Or.inl hs
  exact ⟨h.nd, fun x hx => h.snd x (hx.imp id (fun hx => List.mem_append_left _ hx)), fun x hx => go _ (h.said x hx), fun x h1 h2 => go _ (h.same x h1 h2), fun x y hx => go _ (h.turn x y hx),
    fun x y hx => go _ (h.there x y hx), fun x y hx => go _ (h.contra x y hx), fun x z hx h1 h2 => go _ (h.void x z hx h1 h2), fun f x y z h1 h2 => go _ (h.chain f x y z h1 h2), fun x y t h1 h2 h3 => go _ (h.any x y t h1 h2 h3)⟩

/-- One is popped that is new: whatever comes of it, alone and with those that are known, is put to what is to be done. -/
theorem Inv.new {k : Int} {L K T N : List Sy} {s : Sy} (h : Inv k L K (T ++ [s])) (hs : s ∉ K) (K' : List Sy) (hK : K' = K ++ [s]) (snd : ∀ x ∈ N, Pr k L x)
    (turn : s.f0 = 1 → (⟨1, s.f2, s.f1⟩ : Sy) ∈ N) (there : s.f0 = 1 → (⟨1, s.f1, s.f1⟩ : Sy) ∈ N) (contra : s.f0 = 0 → (⟨0, oth s.f2, oth s.f1⟩ : Sy) ∈ N)
    (void : s.f0 = 0 → s.f2 = oth s.f1 → ∀ z, 0 ≤ z → z < 2 * k → (⟨0, s.f1, z⟩ : Sy) ∈ N)
    (chain1 : ∀ z, (⟨0, s.f2, z⟩ : Sy) ∈ K' → (⟨s.f0, s.f1, z⟩ : Sy) ∈ N)
    (chain2 : s.f0 = 0 → ∀ f z, (⟨f, z, s.f1⟩ : Sy) ∈ K' → (⟨f, z, s.f2⟩ : Sy) ∈ N)
    (any1 : s.f0 = 1 → (⟨0, s.f1, oth s.f2⟩ : Sy) ∈ K' → ∀ t, Oks k t → t ∈ N)
    (any2 : s.f0 = 0 → (⟨1, s.f1, oth s.f2⟩ : Sy) ∈ K' → ∀ t, Oks k t → t ∈ N) : Inv k L K' (T ++ N) := by
  have inN : ∀ x : Sy, x ∈ N → x ∈ K' ∨ x ∈ T ++ N := fun x hx => Or.inr (List.mem_append_right _ hx)
  have go : ∀ x : Sy, x ∈ K ∨ x ∈ T ++ [s] → x ∈ K' ∨ x ∈ T ++ N := fun x hx => by
    rw [hK]
    rcases hx with hx | hx
    · exact Or.inl (List.mem_append_left _ hx)
    · rcases List.mem_append.1 hx with hx | hx
      · exact Or.inr (List.mem_append_left _ hx)
      · exact Or.inl (List.mem_append_right _ hx)
  have cut : ∀ x : Sy, x ∈ K' → x ∈ K ∨ x = s := fun x hx => by
    rw [hK] at hx
    rcases List.mem_append.1 hx with hx | hx
    · exact Or.inl hx
    · exact Or.inr (List.mem_singleton.1 hx)
  refine ⟨?_, fun x hx => ?_, fun x hx => go _ (h.said x hx), fun x h1 h2 => go _ (h.same x h1 h2), fun x y hx => ?_, fun x y hx => ?_, fun x y hx => ?_, fun x z hx h1 h2 => ?_, fun f x y z h1 h2 => ?_, fun x y t h1 h2 h3 => ?_⟩
  · rw [hK, List.nodup_append]
    exact ⟨h.nd, by simp, fun a ha b hb => by rw [List.mem_singleton.1 hb]; exact fun e => hs (e ▸ ha)⟩
  · rcases hx with hx | hx
    · rcases cut x hx with hx | rfl
      · exact h.snd x (Or.inl hx)
      · exact h.snd x (Or.inr (List.mem_append_right _ (List.mem_singleton.2 rfl)))
    · rcases List.mem_append.1 hx with hx | hx
      · exact h.snd x (Or.inr (List.mem_append_left _ hx))
      · exact snd x hx
  · rcases cut _ hx with hx | rfl
    · exact go _ (h.turn x y hx)
    · exact inN _ (turn rfl)
  · rcases cut _ hx with hx | rfl
    · exact go _ (h.there x y hx)
    · exact inN _ (there rfl)
  · rcases cut _ hx with hx | rfl
    · exact go _ (h.contra x y hx)
    · exact inN _ (contra rfl)
  · rcases cut _ hx with hx | rfl
    · exact go _ (h.void x z hx h1 h2)
    · exact inN _ (void rfl rfl z h1 h2)
  · rcases cut _ h1 with h1' | rfl
    · rcases cut _ h2 with h2' | rfl
      · exact go _ (h.chain f x y z h1' h2')
      · exact inN _ (chain2 rfl f x h1)
    · exact inN _ (chain1 z h2)
  · rcases cut _ h1 with h1' | rfl
    · rcases cut _ h2 with h2' | rfl
      · exact go _ (h.any x y t h1' h2' h3)
      · exact inN _ (any2 rfl (by show (⟨1, x, oth (oth y)⟩ : Sy) ∈ K'; rw [oth_oth]; exact h1) t h3)
    · exact inN _ (any1 rfl h2 t h3)

/-- At the start. -/
theorem Inv.start {k : Int} {L R : List Sy} (hR : ∀ s, s ∈ R ↔ ∃ x, 0 ≤ x ∧ x < 2 * k ∧ s = ⟨0, x, x⟩) : Inv k L [] (L ++ R) := by
  refine ⟨List.nodup_nil, fun x hx => ?_, fun x hx => Or.inr (List.mem_append_left _ hx), fun x h1 h2 => Or.inr (List.mem_append_right _ ((hR _).2 ⟨x, h1, h2, rfl⟩)), ?_, ?_, ?_, ?_, ?_, ?_⟩
  · rcases List.mem_append.1 (hx.resolve_left (by simp)) with hx | hx
    · exact Pr.said hx
    · obtain ⟨y, h1, h2, rfl⟩ := (hR _).1 hx
      exact Pr.same h1 h2
  all_goals (intros; simp_all)

/-- A row without repeats that lies in another is no longer. -/
theorem nodup_le {α : Type} [DecidableEq α] : ∀ (K A : List α), K.Nodup → (∀ x ∈ K, x ∈ A) → K.length ≤ A.length
  | [], A, _, _ => Nat.zero_le _
  | x :: K, A, h, hA => by
    have hx : x ∈ A := hA x (List.mem_cons_self)
    rw [List.nodup_cons] at h
    have := nodup_le K (A.erase x) h.2 (fun y hy => (List.mem_erase_of_ne (fun e => h.1 (by rw [← e]; exact hy))).2 (hA y (List.mem_cons_of_mem _ hy)))
    rw [List.length_erase_of_mem hx] at this
    have := List.length_pos_of_mem hx
    simp only [List.length_cons]
    omega

/-- The terms; all sentences. -/
def terms (k : Int) : List Int := (List.range (2 * k).toNat).map (fun n : Nat => (n : Int))
def everyS (k : Int) : List Sy := (terms k).flatMap fun a => (terms k).flatMap fun b => [⟨0, a, b⟩, ⟨1, a, b⟩]
theorem mem_terms (k x : Int) : x ∈ terms k ↔ 0 ≤ x ∧ x < 2 * k := by
  unfold terms
  rw [List.mem_map]
  constructor
  · rintro ⟨n, hn, rfl⟩
    have := List.mem_range.1 hn
    omega
  · rintro ⟨h1, h2⟩
    exact ⟨x.toNat, List.mem_range.2 (by omega), by omega⟩
theorem mem_everyS (k : Int) (s : Sy) : s ∈ everyS k ↔ Oks k s := by
  unfold everyS Oks
  simp only [List.mem_flatMap, mem_terms]
  constructor
  · rintro ⟨a, ha, b, hb, h⟩
    rcases List.mem_cons.1 h with rfl | h
    · exact ⟨Or.inl rfl, ha, hb⟩
    · rw [List.mem_singleton.1 h]
      exact ⟨Or.inr rfl, ha, hb⟩
  · rintro ⟨h0, h1, h2⟩
    refine ⟨s.f1, h1, s.f2, h2, ?_⟩
    obtain ⟨f, o, t⟩ := s
    rcases h0 with h0 | h0
    · simp only at h0; subst h0; simp
    · simp only at h0; subst h0; simp
theorem everyS_length (k : Int) (h : 1 ≤ k ∧ k ≤ 3) : (everyS k).length ≤ 72 := by
  have hk : k = 1 ∨ k = 2 ∨ k = 3 := by omega
  rcases hk with rfl | rfl | rfl <;> decide
theorem terms_length (k : Int) (h : 1 ≤ k ∧ k ≤ 3) : (terms k).length ≤ 6 := by
  unfold terms
  rw [List.length_map, List.length_range]
  omega

theorem Inv.few {k : Int} {L K T : List Sy} (hk : 1 ≤ k ∧ k ≤ 3) (hL : ∀ s ∈ L, Oks k s) (h : Inv k L K T) : K.length ≤ 72 :=
  Nat.le_trans (nodup_le K (everyS k) h.nd (fun x hx => (mem_everyS k x).2 ((h.snd x (Or.inl hx)).ok hL))) (everyS_length k hk)

/-! ### as the program does it -/
/-- What comes of a sentence with a term. -/
def zStep (K : List Sy) (s : Sy) (z : Int) : List Sy :=
  (if s.f0 = 0 ∧ s.f2 = oth s.f1 then [⟨0, s.f1, z⟩] else []) ++ (if (⟨0, s.f2, z⟩ : Sy) ∈ K then [⟨s.f0, s.f1, z⟩] else []) ++
  ((if s.f0 = 0 ∧ (⟨0, z, s.f1⟩ : Sy) ∈ K then [⟨0, z, s.f2⟩] else []) ++ (if s.f0 = 0 ∧ (⟨1, z, s.f1⟩ : Sy) ∈ K then [⟨1, z, s.f2⟩] else []))
/-- What comes of it alone. -/
def alone (s : Sy) : List Sy := if s.f0 = 1 then [⟨1, s.f2, s.f1⟩, ⟨1, s.f1, s.f1⟩] else [⟨0, oth s.f2, oth s.f1⟩]
/-- Does everything come of it? -/
def allOf (K : List Sy) (s : Sy) : Prop := (s.f0 = 1 ∧ (⟨0, s.f1, oth s.f2⟩ : Sy) ∈ K) ∨ (s.f0 = 0 ∧ (⟨1, s.f1, oth s.f2⟩ : Sy) ∈ K)
instance (K : List Sy) (s : Sy) : Decidable (allOf K s) := by unfold allOf; infer_instance
def fresh (k : Int) (K : List Sy) (s : Sy) : List Sy := alone s ++ (terms k).flatMap (zStep K s) ++ (if allOf K s then everyS k else [])

theorem zStep_length (K : List Sy) (s : Sy) (z : Int) : (zStep K s z).length ≤ 4 := by
  unfold zStep
  repeat' split
  all_goals simp
theorem flat_length {α β : Type} (f : α → List β) (n : Nat) (h : ∀ a, (f a).length ≤ n) : ∀ l : List α, (l.flatMap f).length ≤ l.length * n
  | [] => by simp
  | a :: l => by
    have := flat_length f n h l
    have := h a
    rw [List.flatMap_cons, List.length_append, List.length_cons, Nat.add_mul]
    omega
theorem fresh_length (k : Int) (hk : 1 ≤ k ∧ k ≤ 3) (K : List Sy) (s : Sy) : (fresh k K s).length ≤ 98 := by
  have h1 := flat_length (zStep K s) 4 (zStep_length K s) (terms k)
  have h2 := terms_length k hk
  have h3 := everyS_length k hk
  have h4 : (alone s).length ≤ 2 := by unfold alone; split <;> simp
  unfold fresh
  rw [List.length_append, List.length_append]
  split
  · omega
  · simp only [List.length_nil]; omega

/-- One round of the program, a new sentence. -/
theorem Inv.newF {k : Int} {L K T : List Sy} {s : Sy} (hL : ∀ s ∈ L, Oks k s) (h : Inv k L K (T ++ [s])) (hs : s ∉ K) : Inv k L (K ++ [s]) (T ++ fresh k (K ++ [s]) s) := by
  have hPs : Pr k L s := h.snd s (Or.inr (List.mem_append_right _ (List.mem_singleton.2 rfl)))
  have hok := hPs.ok hL
  have hK : ∀ x ∈ K ++ [s], Pr k L x := fun x hx => by
    rcases List.mem_append.1 hx with hx | hx
    · exact h.snd x (Or.inl hx)
    · rw [List.mem_singleton.1 hx]; exact hPs
  generalize hKe : K ++ [s] = K' at hK
  have inz : ∀ (z : Int) (x : Sy), 0 ≤ z → z < 2 * k → x ∈ zStep K' s z → x ∈ fresh k K' s := fun z x h1 h2 hx =>
    List.mem_append_left _ (List.mem_append_right _ (List.mem_flatMap.2 ⟨z, (mem_terms k z).2 ⟨h1, h2⟩, hx⟩))
  have ina : ∀ x : Sy, x ∈ alone s → x ∈ fresh k K' s := fun x hx => List.mem_append_left _ (List.mem_append_left _ hx)
  have ine : allOf K' s → ∀ t, Oks k t → t ∈ fresh k K' s := fun ha t ht => by
    refine List.mem_append_right _ ?_
    rw [if_pos ha]
    exact (mem_everyS k t).2 ht
  refine h.new hs K' hKe.symm (fun x hx0 => ?_) (fun e => ina _ ?_) (fun e => ina _ ?_) (fun e => ina _ ?_) (fun e e' z h1 h2 => inz z _ h1 h2 ?_) (fun z hz => ?_) (fun e f z hz => ?_) (fun e hx t ht => ine (Or.inl ⟨e, hx⟩) t ht) (fun e hx t ht => ine (Or.inr ⟨e, hx⟩) t ht)
  · obtain ⟨f, o, t⟩ := s
    unfold fresh at hx0
    rcases List.mem_append.1 hx0 with hx1 | hx
    · clear hx0
      rcases List.mem_append.1 hx1 with hx | hx
      · clear hx1
        unfold alone at hx
        simp only at hx
        split at hx
        · rename_i e
          subst e
          rcases List.mem_cons.1 hx with rfl | hx3
          · exact hPs.turn
          · rw [List.mem_singleton.1 hx3]; exact hPs.there
        · rename_i e
          have e0 : f = 0 := hok.1.resolve_right e
          subst e0
          rw [List.mem_singleton.1 hx]
          exact hPs.contra
      · clear hx1
        obtain ⟨z, hz, hx3⟩ := List.mem_flatMap.1 hx
        clear hx
        have hx := hx3
        clear hx3
        rw [mem_terms] at hz
        unfold zStep at hx
        simp only [List.mem_append] at hx
        rcases hx with (hx | hx) | (hx | hx)
        · split at hx
          · rename_i e
            obtain ⟨rfl, rfl⟩ := e
            rw [List.mem_singleton.1 hx]
            exact hPs.void hz.1 hz.2
          · cases hx
        · split at hx
          · rename_i e
            rw [List.mem_singleton.1 hx]
            exact hPs.chain (hK _ e)
          · cases hx
        · split at hx
          · rename_i e
            obtain ⟨rfl, e⟩ := e
            rw [List.mem_singleton.1 hx]
            exact (hK _ e).chain hPs
          · cases hx
        · split at hx
          · rename_i e
            obtain ⟨rfl, e⟩ := e
            rw [List.mem_singleton.1 hx]
            exact (hK _ e).chain hPs
          · cases hx
    · clear hx0
      split at hx
      · rename_i e
        replace hx := (mem_everyS k x).1 hx
        rcases e with ⟨rfl, e⟩ | ⟨rfl, e⟩
        · exact Pr.any hPs (hK _ e) hx
        · exact Pr.any (hK _ e) (by rw [oth_oth]; exact hPs) hx
      · cases hx
  · unfold alone; rw [if_pos e]; simp
  · unfold alone; rw [if_pos e]; simp
  · unfold alone; rw [if_neg (by omega)]; simp
  · unfold zStep; rw [if_pos ⟨e, e'⟩]; simp
  · have hz' := (hK _ hz).ok hL
    refine inz z _ hz'.2.2.1 hz'.2.2.2 ?_
    unfold zStep; rw [if_pos hz]; simp
  · have hz' := (hK _ hz).ok hL
    refine inz z _ hz'.2.1.1 hz'.2.1.2 ?_
    rcases hz'.1 with e1 | e1
    · simp only at e1; subst e1
      unfold zStep; rw [if_pos (⟨e, hz⟩ : s.f0 = 0 ∧ (⟨0, z, s.f1⟩ : Sy) ∈ K')]; simp
    · simp only at e1; subst e1
      unfold zStep; rw [if_pos (⟨e, hz⟩ : s.f0 = 0 ∧ (⟨1, z, s.f1⟩ : Sy) ∈ K')]; simp
end Go.Proofs.Ytmkfmbjemdbigaa.Sem

end
section
/- A set of keys as a map of keys to truths: its look-up; plain words over the kit's maps; no condition but that the keys are keys. -/
namespace Go.Proofs.Ytmkfmbjemdbigaa.SetB
open Go Go.Maps Go.RowKit
variable {H : Type}

theorem atKey_fold (u z : DataW H) (k : Lit) : ∀ (acc : List Lit) (m : DataW H), IsMap m → (∀ x ∈ acc, WideAt.IsKeyLit x) → (acc.foldl (fun m x => m.put x u) m).atKey k z = if acc.any (fun x => x.sameKey k) = true then u else m.atKey k z
  | [], _, _, _ => by simp
  | x :: acc, m, hm, h => by
    rw [List.foldl_cons, atKey_fold u z k acc (m.put x u) (hm.put x u) (fun y hy => h y (List.mem_cons_of_mem _ hy)), List.any_cons]
    have hx := h x List.mem_cons_self
    by_cases e : k = x
    · subst e
      rw [WideAt.sameKey_self hx, atKey_put_same hm hx]
      simp
    · rw [sameKey_ne (fun e' => e e'.symm), atKey_put_other e]
      simp

theorem atKey_set (k : Lit) (acc : List Lit) (h : ∀ x ∈ acc, WideAt.IsKeyLit x) : (setOf (H := H) (.lit (.bool true)) acc).atKey k (.lit (.bool false)) = .lit (.bool (acc.any (fun x => x.sameKey k))) := by
  unfold setOf
  rw [atKey_fold _ _ k acc _ isMap_empty h]
  by_cases e : acc.any (fun x => x.sameKey k) = true
  · rw [if_pos e, e]
  · rw [if_neg e, Bool.eq_false_iff.2 e]
    rfl

theorem plainElem_bool_inv {P : Program} {e : TypeId} (he : P.underlying e = some .bool) {v : Value} {z : DataW H × List MemPlace} (h : plainElem P e v = some z) : ∃ x, v = .bool x ∧ z = (.lit (.bool x), []) := by
  unfold plainElem at h
  rw [he] at h
  cases v <;> simp at h
  obtain rfl := h
  exact ⟨_, rfl, rfl⟩

/-- The look-up in a set, at the operation. -/
theorem wpList_lookup_set {P : Program} (w : World) {ops : Array Oper} {rest : List Oper} {o : Oper} {a : Act} {Q : Exit → Act → World → Prop}
    (hg : o.guard = none) (m x : Operand) (t : TypeId) (hop : o.op = Op.lookup t m x false)
    (k e : TypeId) (K : Keyed P k) (ht : P.underlying t = some (.map k e)) (he : P.underlying e = some .bool) (hz : (zeroValue e).run P w = .ok (.bool false) w) (b n : Nat) (acc : List Lit) (hacc : ∀ x ∈ acc, WideAt.IsKeyLit x)
    (hm : a.eval m = .map (some b)) (hown : w.ownsMap (H := H) P k (plainElem P e) b n (setOf (.lit (.bool true)) acc)) (key : Value) (kl : Lit) (hx : a.eval x = key) (hkey : keyOf P k key = some kl) (q : Bool) (hq : acc.any (fun x => x.sameKey kl) = q)
    (hK : wpList P ops Q rest (a.put o.dst (.bool q)) w) :
    wpList P ops Q (o :: rest) a w := by
  refine wpList_plain hg fun K' hK' => ?_
  obtain ⟨v, ps, hrun, hv⟩ := hown.lookup K ht hz (plainElem_bool he false) hkey
  rw [atKey_set kl acc hacc, hq] at hv
  obtain ⟨c, rfl, hc⟩ := plainElem_bool_inv he hv
  simp only [Prod.mk.injEq, DataW.lit.injEq, Lit.bool.injEq] at hc
  obtain ⟨rfl, _⟩ := hc
  unfold Oper.wp
  simp [execOp, hop, hm, hx, hrun, Result.andThen]
  exact hK' _ _ hK
end Go.Proofs.Ytmkfmbjemdbigaa.SetB

end
section
/- The set of known sentences (a map of sentences to truths) and the row of sentences that are to be done: what each operation does to both; no condition but the sentences' ranges and the row's length. -/
namespace Go.Proofs.Ytmkfmbjemdbigaa.Man
open Go.RowKit Go.Proofs.Ytmkfmbjemdbigaa.PA Go.Proofs.YtmkfmbjemdbigaaW.PrintWords Go.Proofs.YtmkfmbjemdbigaaW.PrintLast Go.Proofs.YtmkfmbjemdbigaaW.PrintMore
set_option linter.unusedVariables false
set_option linter.unusedSimpArgs false
set_option maxRecDepth 100000
open Go.WideShapes Go.WideMaps Go.Maps
open Go.WideElems (Fit rg)

theorem laidOut : laidOutB Try.prog = true := by kernel_rfl
theorem rowSay : (25 : TypeId) < Try.prog.types.size := of_decide_eq_true (by kernel_rfl)
theorem wideSay : (match Try.prog.underlying 25 with | some (.array _ _) | some (.struct _) => true | _ => false) = true := by rw [Try.underlying25]
theorem lawSay : Keyed Try.prog 25 := Keyed.of_law (deep_law_laid laidOut (m := 3) (by omega) rowSay (by kernel_rfl) wideSay)

def valS (s : Sem.Sy) : Value := .agg #[.int .i64 s.f0, .int .i64 s.f1, .int .i64 s.f2]
/-- A sentence as a key. -/
noncomputable def litS (s : Sem.Sy) : Lit := (keyOf Try.prog 25 (valS s)).getD (.bool false)
theorem keys_all : ((List.range 2).all fun f => (List.range 6).all fun o => (List.range 6).all fun t => (keyOf Try.prog 25 (.agg #[.int .i64 (f : Int), .int .i64 (o : Int), .int .i64 (t : Int)])).isSome) = true := by kernel_rfl
theorem key_of {k : Int} (hk : k ≤ 3) {s : Sem.Sy} (h : Sem.Oks k s) : keyOf Try.prog 25 (valS s) = some (litS s) := by
  obtain ⟨f, o, t⟩ := s
  obtain ⟨h0, h1, h2⟩ := h
  simp only at h0 h1 h2
  obtain ⟨f', rfl⟩ := Int.eq_ofNat_of_zero_le (show 0 ≤ f by omega)
  obtain ⟨o', rfl⟩ := Int.eq_ofNat_of_zero_le h1.1
  obtain ⟨t', rfl⟩ := Int.eq_ofNat_of_zero_le h2.1
  have := List.all_eq_true.1 (List.all_eq_true.1 (List.all_eq_true.1 keys_all f' (List.mem_range.2 (by omega))) o' (List.mem_range.2 (by omega))) t' (List.mem_range.2 (by omega))
  unfold litS valS
  obtain ⟨l, hl⟩ := Option.isSome_iff_exists.1 this
  rw [hl]; rfl
theorem isKey_of {k : Int} (hk : k ≤ 3) {s : Sem.Sy} (h : Sem.Oks k s) : WideAt.IsKeyLit (litS s) := lawSay.key (key_of hk h)
theorem key_inj {k : Int} (hk : k ≤ 3) {s s' : Sem.Sy} (h : Sem.Oks k s) (h' : Sem.Oks k s') (e : litS s = litS s') : s = s' := by
  have := lawSay.inj (key_of hk h) (e ▸ key_of hk h')
  unfold valS at this
  simp only [Value.agg.injEq, Array.mk.injEq, List.cons.injEq, Value.int.injEq] at this
  obtain ⟨f, o, t⟩ := s
  obtain ⟨f', o', t'⟩ := s'
  simp only at this
  obtain ⟨⟨_, rfl⟩, ⟨_, rfl⟩, ⟨_, rfl⟩, _⟩ := this
  rfl
theorem keys_any {k : Int} (hk : k ≤ 3) {K : List Sem.Sy} (hK : ∀ s ∈ K, Sem.Oks k s) {s : Sem.Sy} (h : Sem.Oks k s) : (K.map litS).any (fun x => x.sameKey (litS s)) = decide (s ∈ K) := by
  rw [Bool.eq_iff_iff, List.any_eq_true, decide_eq_true_eq]
  constructor
  · rintro ⟨x, hx, he⟩
    obtain ⟨s', hs', rfl⟩ := List.mem_map.1 hx
    by_cases e : litS s' = litS s
    · rw [← key_inj hk (hK s' hs') h e]; exact hs'
    · rw [sameKey_ne e] at he; exact absurd he (by simp)
  · intro hs
    exact ⟨litS s, List.mem_map.2 ⟨s, hs, rfl⟩, WideAt.sameKey_self (isKey_of hk h)⟩

/-- What the map's block holds: just the known sentences. -/
def MapK (es : Array MapEntry) (cl : Nat) (K : List Sem.Sy) : Prop :=
  Fit (H := Unit) Try.prog 25 (plainElem Try.prog 4) es cl ∧ es.size ≤ K.length ∧ setOf (.lit (.bool true)) (K.map litS) = .map ((es.toList.map (rg Try.prog 25 (plainElem (H := Unit) Try.prog 4))).foldr DataW.insert [])
theorem MapK.own {es : Array MapEntry} {cl : Nat} {K : List Sem.Sy} (h : MapK es cl K) {w : World} {b : Nat} (hb : w.heap[b]? = some (.map es cl)) : w.ownsMap (H := Unit) Try.prog 25 (plainElem Try.prog 4) b K.length (setOf (.lit (.bool true)) (K.map litS)) :=
  ⟨es, cl, hb, h.1, h.2.1, h.2.2⟩
theorem MapK.nil : MapK #[] 0 [] := by
  obtain ⟨es, cl, hb, h1, h2, h3⟩ := World.ownsMap_made (H := Unit) (default : World) Try.prog 25 (plainElem Try.prog 4)
  have e : (default : World).heap.size = (default : World).heap.size := rfl
  have hb' := (MapKept.heap_alloc (default : World) (.map #[] 0)).1
  rw [hb] at hb'
  cases hb'
  exact ⟨h1, h2, h3⟩

theorem zeroBool (w : World) : (zeroValue 4).run Try.prog w = .ok (.bool false) w := by kernel_rfl

section
variable {w : World} {ops : Array Oper} {rest : List Oper} {o : Oper} {a : Act} {Q : Exit → Act → World → Prop}

/-- Is a sentence known? -/
theorem look (hg : o.guard = none) (m x : Operand) (hop : o.op = Op.lookup 51 m x false) {es : Array MapEntry} {cl : Nat} {K : List Sem.Sy} (h : MapK es cl K) {k : Int} (hk : k ≤ 3) (hK : ∀ s ∈ K, Sem.Oks k s) {gM : Nat}
    (hb : w.heap[gM]? = some (.map es cl)) (s : Sem.Sy) (hs : Sem.Oks k s) (hm : a.eval m = .map (some gM)) (hx : a.eval x = .agg #[.int .i64 s.f0, .int .i64 s.f1, .int .i64 s.f2]) (q : Bool) (hq : decide (s ∈ K) = q)
    (hC : wpList Try.prog ops Q rest (a.put o.dst (.bool q)) w) : wpList Try.prog ops Q (o :: rest) a w :=
  SetB.wpList_lookup_set w hg m x 51 hop 25 4 lawSay Try.underlying51 Try.underlying4 (zeroBool w) gM K.length (K.map litS)
    (fun x hx => by obtain ⟨s', hs', rfl⟩ := List.mem_map.1 hx; exact isKey_of hk (hK s' hs')) hm (h.own hb) (valS s) (litS s) hx (key_of hk hs) q (by rw [keys_any hk hK hs, hq]) hC

/-- .. as the operation's run. -/
theorem look_run {es : Array MapEntry} {cl : Nat} {K : List Sem.Sy} (h : MapK es cl K) {k : Int} (hk : k ≤ 3) (hK : ∀ s ∈ K, Sem.Oks k s) {gM : Nat}
    (hb : w.heap[gM]? = some (.map es cl)) (s : Sem.Sy) (hs : Sem.Oks k s) (q : Bool) (hq : decide (s ∈ K) = q) :
    (Instr.lookup 51 (.map (some gM)) (.agg #[.int .i64 s.f0, .int .i64 s.f1, .int .i64 s.f2]) false).run Try.prog w = .ok (.bool q) w := by
  obtain ⟨v, ps, hrun, hv⟩ := (h.own hb).lookup lawSay Try.underlying51 (zeroBool w) (plainElem_bool Try.underlying4 false) (key_of hk hs)
  rw [SetB.atKey_set (litS s) (K.map litS) (fun x hx => by obtain ⟨s', hs', rfl⟩ := List.mem_map.1 hx; exact isKey_of hk (hK s' hs')), keys_any hk hK hs, hq] at hv
  obtain ⟨c, rfl, hc⟩ := SetB.plainElem_bool_inv Try.underlying4 hv
  simp only [Prod.mk.injEq, DataW.lit.injEq, Lit.bool.injEq] at hc
  obtain ⟨rfl, _⟩ := hc
  exact hrun

/-- A sentence becomes known. -/
theorem store (hg : o.guard = none) (m x v : Operand) (hop : o.op = Op.mapUpdate 51 m x v) {es : Array MapEntry} {cl : Nat} {K : List Sem.Sy} (h : MapK es cl K) {k : Int} (hk : k ≤ 3) (hl : K.length ≤ 1000) {gM : Nat}
    (hb : w.heap[gM]? = some (.map es cl)) (s : Sem.Sy) (hs : Sem.Oks k s) (hm : a.eval m = .map (some gM)) (hx : a.eval x = .agg #[.int .i64 s.f0, .int .i64 s.f1, .int .i64 s.f2]) (hv : a.eval v = .bool true)
    (hC : ∀ w' es' cl', MapK es' cl' (K ++ [s]) → w'.heap[gM]? = some (.map es' cl') → w.grownBy w' (some gM) → wpList Try.prog ops Q rest (a.put o.dst undef) w') : wpList Try.prog ops Q (o :: rest) a w := by
  refine wpList_mapUpdate_own w hg m x v 51 hop 25 4 lawSay Try.underlying51 (plainElem (H := Unit) Try.prog 4) gM K.length _ hm (h.own hb) (by unfold maxLen; omega) (valS s) (.bool true) (litS s) hx hv (key_of hk hs) (.lit (.bool true)) [] (plainElem_bool Try.underlying4 true) ?_
  intro w' hown hgr
  obtain ⟨es', cl', h1, h2, h3, h4⟩ := hown
  refine hC w' es' cl' ⟨h2, by simpa using h3, ?_⟩ h1 hgr
  rw [List.map_append, List.map_cons, List.map_nil, setOf_snoc]
  exact h4
end

/-! ### the state: the map, the sentence in hand, the row -/
structure Pf (w W : World) (gM gS : Nat) (es : Array MapEntry) (cl : Nat) (s : Sem.Sy) (v : Value) (T : List Sem.Sy) : Prop where
  row : Kd.R k25 25 W w.heap.size (fun k_ => k_ ≠ gM ∧ k_ ≠ gS) v T
  bm : W.heap[gM]? = some (.map es cl)
  bs : W.heap[gS]? = some (.cells #[.int .i64 s.f0, .int .i64 s.f1, .int .i64 s.f2] 25 (0, 0))
  bel : Below w.heap.size w W

theorem Pf.alloc {w W : World} {gM gS : Nat} {es : Array MapEntry} {cl : Nat} {s : Sem.Sy} {v : Value} {T : List Sem.Sy} (h : Pf w W gM gS es cl s v T) (o : Obj) : Pf w (W.alloc o) gM gS es cl s v T :=
  ⟨Kd.R_alloc h.row _, blk_alloc h.bm _, blk_alloc h.bs _, below_alloc h.bel _⟩

section
variable {w W : World} {gM gS : Nat} {es : Array MapEntry} {cl : Nat} {s : Sem.Sy} {v : Value} {T : List Sem.Sy} {ops : Array Oper} {rest : List Oper} {o : Oper} {a : Act} {Q : Exit → Act → World → Prop}

theorem Pf.next (h : Pf w W gM gS es cl s v T) {v1 : Value} {w1 : World} {T1 : List Sem.Sy} (ho : Kd.R k25 25 w1 w.heap.size (fun k_ => k_ ≠ gM ∧ k_ ≠ gS) v1 T1) (hb : Below w.heap.size w w1) (hg : W.grownBy w1 v.ownBlock) : Pf w w1 gM gS es cl s v1 T1 :=
  ⟨ho, blk_grown h.bm hg (Kd.R_away h.row (fun _ hk => hk.1)), blk_grown h.bs hg (Kd.R_away h.row (fun _ hk => hk.2)), hb⟩

/-- One more is put to the row. -/
theorem put1 (x : Operand) (sl : Operand) (t0 : Sem.Sy) (h : Pf w W gM gS es cl s v T) (hgd : o.guard = none) (ho : o.op = .call { callee := .builtin .append, args := #[sl, x], argTypes := #[23, 23] })
    (hs : a.eval sl = v) (hx : a.eval x = .slice (some ⟨W.heap.size, 0, none⟩) 1 1) (hl : T.length ≤ 100000)
    (hC : ∀ v1 w1, Pf w w1 gM gS es cl s v1 (T ++ [t0]) → wpList Try.prog ops Q rest (a.put o.dst v1) w1) :
    wpList Try.prog ops Q (o :: rest) a (W.alloc (.cells #[.int .i64 t0.f0, .int .i64 t0.f1, .int .i64 t0.f2] 25)) := by
  refine Kd.R_append k25 (w0 := w) w.heap.size hgd sl x 23 25 (.agg #[(.int .i64 0), (.int .i64 0), (.int .i64 0)]) 24 ho Try.underlying23 info25 rfl (by decide) (by omega) v T t0 [.int .i64 t0.f0, .int .i64 t0.f1, .int .i64 t0.f2] (fun k_ => k_ ≠ gM ∧ k_ ≠ gS) (fun _ => False) hs hx (k25_mkM _ _ _ t0) (fun _ hk => hk.elim)
    (fun k_ hk => ⟨Kd.freshB h.bm k_ hk, Kd.freshB h.bs k_ hk⟩) h.row h.bel (below_size h.bel) (by omega) ?_
  intro v1 w1 ho1 hb1 hg1 _
  exact hC v1 w1 (h.next ho1 hb1 hg1)

theorem reps2 (t0 t1 : Sem.Sy) (Wx : World) (base : Nat) : Reps (k25.M Wx base (fun _ => True)) 3 [t0, t1] [.int .i64 t0.f0, .int .i64 t0.f1, .int .i64 t0.f2, .int .i64 t1.f0, .int .i64 t1.f1, .int .i64 t1.f2] :=
  Reps.c3 (show Kd.M k25 _ _ _ t0 [.int .i64 t0.f0, .int .i64 t0.f1, .int .i64 t0.f2] from k25_mkM _ _ _ t0) (Reps.c3 (show Kd.M k25 _ _ _ t1 [.int .i64 t1.f0, .int .i64 t1.f1, .int .i64 t1.f2] from k25_mkM _ _ _ t1) (Reps.none _ _))

/-- Two more are put to the row. -/
theorem put2 (x : Operand) (sl : Operand) (t0 t1 : Sem.Sy) (h : Pf w W gM gS es cl s v T) (hgd : o.guard = none) (ho : o.op = .call { callee := .builtin .append, args := #[sl, x], argTypes := #[23, 23] })
    (hs : a.eval sl = v) (hx : a.eval x = .slice (some ⟨W.heap.size, 0, none⟩) 2 2) (hl : T.length ≤ 100000)
    (hC : ∀ v1 w1, Pf w w1 gM gS es cl s v1 (T ++ [t0, t1]) → wpList Try.prog ops Q rest (a.put o.dst v1) w1) :
    wpList Try.prog ops Q (o :: rest) a (W.alloc (.cells #[.int .i64 t0.f0, .int .i64 t0.f1, .int .i64 t0.f2, .int .i64 t1.f0, .int .i64 t1.f1, .int .i64 t1.f2] 25)) := by
  have h' := h.alloc (.cells #[.int .i64 t0.f0, .int .i64 t0.f1, .int .i64 t0.f2, .int .i64 t1.f0, .int .i64 t1.f1, .int .i64 t1.f2] 25)
  have hlit : Kd.R k25 25 (W.alloc (.cells #[.int .i64 t0.f0, .int .i64 t0.f1, .int .i64 t0.f2, .int .i64 t1.f0, .int .i64 t1.f1, .int .i64 t1.f2] 25)) W.heap.size (fun _ => True) (.slice (some ⟨W.heap.size, 0, none⟩) 2 2) [t0, t1] := by
    refine ⟨fun _ _ => trivial, [.int .i64 t0.f0, .int .i64 t0.f1, .int .i64 t0.f2, .int .i64 t1.f0, .int .i64 t1.f1, .int .i64 t1.f2], ?_, ?_⟩
    · have h2 := World.ownsRow_lit (base := W.heap.size) (e := 25) (size := 3) W #[.int .i64 t0.f0, .int .i64 t0.f1, .int .i64 t0.f2, .int .i64 t1.f0, .int .i64 t1.f1, .int .i64 t1.f2] 2 (Nat.le_refl _) (by unfold maxLen; omega) rfl
      show World.ownsRow _ _ _ 3 _ _ _
      simpa using h2
    · refine (reps2 t0 t1 W W.heap.size).imp_ (fun p c hp => k25.M_mono (fun k hk => ⟨trivial, fun he => ?_⟩) (Kd.M_below (k25.M_bound hp) (below_alloc (Below.refl _ _) _)))
      have h3 : k = W.heap.size := by simpa [Value.ownBlock] using he
      have := hk.2.2.1
      omega
  refine Kd.R_append_rows k25 (w0 := w) w.heap.size hgd sl x 23 25 (.agg #[(.int .i64 0), (.int .i64 0), (.int .i64 0)]) 24 ho Try.underlying23 info25 rfl (by decide) (by omega) v T [t0, t1] (some ⟨W.heap.size, 0, none⟩) 2 2 (fun k_ => k_ ≠ gM ∧ k_ ≠ gS) (fun _ => False) hs hx h'.row (Kd.R_reads' hlit).2.2 (fun p cs hp => by have := k25_open hp; subst this; exact k25_mkM _ _ _ p) (fun _ hk => hk.elim)
    (fun k_ hk => ⟨Kd.freshB h'.bm k_ hk, Kd.freshB h'.bs k_ hk⟩) h'.bel (below_size h'.bel) (by omega) ?_
  intro v1 w1 ho1 hb1 hg1 _
  exact hC v1 w1 (h'.next ho1 hb1 hg1)
end
end Go.Proofs.Ytmkfmbjemdbigaa.Man

end
section
/- slices.IndexFunc and slices.ContainsFunc over a row of sentences, for every predicate that may lay blocks of its own; no condition but the row and the predicate's own contract. -/
namespace Go.Proofs.Ytmkfmbjemdbigaa.Man
open Go.RowKit Go.Proofs.Ytmkfmbjemdbigaa.PA Go.Proofs.YtmkfmbjemdbigaaW.PrintWords Go.Proofs.YtmkfmbjemdbigaaW.PrintLast Go.Proofs.YtmkfmbjemdbigaaW.PrintMore
set_option linter.unusedVariables false
set_option linter.unusedSimpArgs false

/-- Where the first element is of which p holds; -1. -/
def idx {α : Type} (p : α → Bool) : List α → Nat → Int
  | [], _ => -1
  | x :: l, i => if p x = true then (i : Int) else idx p l (i + 1)

theorem idx_any {α : Type} (p : α → Bool) (l : List α) (i : Nat) : decide (0 ≤ idx p l i) = l.any p := by
  induction l generalizing i with
  | nil => rfl
  | cons x l ih =>
    rw [idx, List.any_cons]
    by_cases h : p x = true
    · rw [if_pos h, h]; simp
    · rw [if_neg h, ih, Bool.eq_false_iff.mpr h]; rfl

/-- What is asked of a predicate on sentences. -/
def PredSay (g : Nat) (lb : Array Value) (p : S25 → Bool) (w : World) (l : List S25) : Prop :=
  ∀ (W : World) (x : S25), x ∈ l → Below w.heap.size w W → Calls Try.prog g (#[.agg #[.int .i64 x.f0, .int .i64 x.f1, .int .i64 x.f2]] ++ lb) W fun e w' => e = .returned (.bool (p x)) ∧ Below W.heap.size W w'

set_option maxHeartbeats 4000000 in
theorem IndexFunc (p : S25 → Bool) (g : Nat) (lb : Array Value) (eg : ∀ args w, (callFunc g args).run Try.prog w = .ok (.enter g args) w) (A : Option Addr) (c : Nat) (l : List S25) (w : World)
    (hp : PredSay g lb p w l) (hr : Kd.C k25 w A l.length l) :
    Calls Try.prog 45 #[.slice A l.length c, .func (.func g) #[] lb] w fun e w' => e = .returned (.int .i64 (idx p l 0)) ∧ Below w.heap.size w w' := by
  have HR := Aside0.mk hr
  have HB := Aside0.mk (Below.refl w.heap.size w)
  have HP := Aside0.mk hp
  have hlen : l.length ≤ 9223372036854775807 := hr.2.1
  clear hr hp
  go_enter Try.func45, Try.ntmps45
  go_wp2
  go_loopg [5, 8] l.length (fun gg _ s8 wr => ∃ kk : Nat, kk ≤ l.length ∧ l.length - kk ≤ gg ∧ s8 = .int .i64 kk ∧ Aside0 (Below w.heap.size w wr) ∧ Aside0 (idx p l 0 = idx p (l.drop kk) kk))
  case atStart => exact ⟨0, Nat.zero_le _, by omega, rfl, HB, ⟨rfl⟩⟩
  case round =>
    clear HB
    obtain ⟨kk, hkk, hg, rfl, HB, HI⟩ := hrel
    by_cases hlt : kk < l.length
    · have hltz : (kk : Int) < (l.length : Int) := by omega
      have hk0 : (0 : Int) ≤ (kk : Int) := by omega
      obtain ⟨ad, e1, x0, x1, x2⟩ := at_T25 HR.out (kk : Int) hk0 hltz
      cases e1
      simp only [Int.toNat_natCast] at x0 x1 x2
      replace x0 := (HB.out.cell (World.block_lt_of_cell? w _ x0)).trans x0
      replace x1 := (HB.out.cell (World.block_lt_of_cell? w _ x1)).trans x1
      replace x2 := (HB.out.cell (World.block_lt_of_cell? w _ x2)).trans x2
      have hd : l.drop kk = rd_T25 l (kk : Int) :: l.drop (kk + 1) := by
        rw [List.drop_eq_getElem_cons hlt]
        congr 1
        unfold rd_T25
        rw [List.getD_eq_getElem?_getD, Int.toNat_natCast, List.getElem?_eq_getElem hlt]
        rfl
      have hcall := HP.out wr (rd_T25 l (kk : Int)) (List.mem_of_mem_drop (i := kk) (by rw [hd]; exact List.mem_cons_self)) HB.out
      have HC := Aside0.mk hcall
      rw [hd, idx] at HI
      clear hcall hd
      cases hq : p (rd_T25 l (kk : Int)) with
      | true =>
        rw [hq] at HC HI
        clear hq
        go_wp2_with (go_at_fn g; refine HC.out.mono ?_; rintro e w' ⟨rfl, hb'⟩)
        go_ret
        exact ⟨by rw [HI.out]; simp, below_step HB.out hb'⟩
      | false =>
        rw [hq] at HC HI
        clear hq
        go_wp2_with (go_at_fn g; refine HC.out.mono ?_; rintro e w' ⟨rfl, hb'⟩)
        go_roundg (l.length - (kk + 1))
        case measure => omega
        case rel => exact ⟨kk + 1, by omega, by omega, by go_num, ⟨below_step HB.out hb'⟩, ⟨by rw [HI.out]; simp⟩⟩
    · have hltz : ¬ (kk : Int) < (l.length : Int) := by omega
      obtain rfl : kk = l.length := by omega
      go_wp2
      go_ret
      exact ⟨by rw [HI.out]; simp [idx], HB.out⟩

theorem ContainsFunc (p : S25 → Bool) (g : Nat) (lb : Array Value) (eg : ∀ args w, (callFunc g args).run Try.prog w = .ok (.enter g args) w) (A : Option Addr) (c : Nat) (l : List S25) (w : World)
    (hp : PredSay g lb p w l) (hr : Kd.C k25 w A l.length l) :
    Calls Try.prog 31 #[.slice A l.length c, .func (.func g) #[] lb] w fun e w' => e = .returned (.bool (l.any p)) ∧ Below w.heap.size w w' := by
  have HC := Aside0.mk (IndexFunc p g lb eg A c l w hp hr)
  have HI := Aside0.mk (idx_any p l 0)
  clear hp hr eg
  go_enter Try.func31, Try.ntmps31
  go_wp2_with (go_at_call 45; refine HC.out.mono ?_; rintro e w' ⟨rfl, hb'⟩)
  go_ret
  exact ⟨by rw [← HI.out]; rfl, hb'⟩
end Go.Proofs.Ytmkfmbjemdbigaa.Man

end
section
/- impl.areSaid: its closure, and the call: it answers whether there are at most six sentences, all allowed; no condition. -/
namespace Go.Proofs.Ytmkfmbjemdbigaa.Man
open Go.RowKit Go.Proofs.Ytmkfmbjemdbigaa.PA Go.Proofs.YtmkfmbjemdbigaaW.PrintWords Go.Proofs.YtmkfmbjemdbigaaW.PrintLast Go.Proofs.YtmkfmbjemdbigaaW.PrintMore
set_option linter.unusedVariables false
set_option linter.unusedSimpArgs false

/-- Whether a sentence is allowed, as the printed function says. -/
def okB (k : Int) (x : S25) : Bool := (impl_isSay.f k x.f0 x.f1 x.f2).getD false
theorem isSay_some (k f o t : Int) : ∃ b, impl_isSay.f k f o t = some b := by
  unfold impl_isSay.f
  repeat' split
  all_goals exact ⟨_, rfl⟩
theorem okB_eq (k : Int) (x : S25) : impl_isSay.f k x.f0 x.f1 x.f2 = some (okB k x) := by
  obtain ⟨b, h⟩ := isSay_some k x.f0 x.f1 x.f2
  unfold okB
  rw [h]; rfl

/-- The closure: whether a sentence is not allowed. -/
theorem areSaid1 (B : Nat) (k : Int) (w : World) (hB : B < w.heap.size) (hc : w.cell? ⟨B, 0, none⟩ = some (.int .i64 k)) (l : List S25) :
    PredSay 43 #[.pointer (some ⟨B, 0, none⟩)] (fun x => !okB k x) w l := by
  intro W x _ hb
  have hc' := (hb.cell (p := ⟨B, 0, none⟩) hB).trans hc
  have HB := Aside0.mk (Below.refl W.heap.size W)
  have HK := Aside0.mk (okB_eq k x)
  have HN : B < W.heap.size := Nat.lt_of_lt_of_le hB hb.size
  have hne : ¬ W.heap.size = B := by omega
  clear hc hb hB
  obtain ⟨q, hq⟩ : ∃ q, okB k x = q := ⟨_, rfl⟩
  have HQ := Aside0.mk hq
  rw [hq] at HK
  clear hq
  go_enter Try.func43, Try.ntmps43
  go_wp2_with (go_at_call 27; refine (impl_isSay.calls k x.f0 x.f1 x.f2 q _ HK.out).mono ?_; rintro e w' ⟨rfl, hb'⟩)
  go_ret
  exact ⟨by show _ = Ending.returned (.bool (!okB k x)); rw [HQ.out]; rfl, below_step (below_alloc HB.out _) hb'⟩

/-- What areSaid answers. -/
def saidB (k : Int) (l : List S25) : Bool := decide (1 ≤ k ∧ k ≤ 3) && decide (l.length ≤ 6) && l.all (okB k)

set_option maxHeartbeats 1000000 in
theorem areSaid (k : Int) (A : Option Addr) (c : Nat) (l : List S25) (w : World) (hr : Kd.C k25 w A l.length l) :
    Calls Try.prog 26 #[.int .i64 k, .slice A l.length c] w fun e w' => e = .returned (.bool (saidB k l)) ∧ Below w.heap.size w w' := by
  have hlen : l.length ≤ 9223372036854775807 := hr.2.1
  have HB := Aside0.mk (Below.refl w.heap.size w)
  have eg := enters_of Try.func43 (by kernel_rfl) rfl
  have hall : l.all (okB k) = !l.any (fun x => !okB k x) := by rw [List.not_any_eq_all_not]; simp
  have HS : Aside0 (saidB k l = (decide (1 ≤ k ∧ k ≤ 3) && decide (l.length ≤ 6) && !l.any (fun x => !okB k x))) := ⟨by unfold saidB; rw [hall]⟩
  clear hall
  by_cases h1 : k < 1
  · have HE : Aside0 (saidB k l = false) := ⟨by rw [HS.out]; simp; omega⟩
    go_enter Try.func26, Try.ntmps26
    go_wp2
    go_ret
    exact ⟨by rw [HE.out]; rfl, below_alloc HB.out _⟩
  · by_cases h2 : k > 3
    · have HE : Aside0 (saidB k l = false) := ⟨by rw [HS.out]; simp; omega⟩
      go_enter Try.func26, Try.ntmps26
      go_wp2
      go_ret
      exact ⟨by rw [HE.out]; rfl, below_alloc HB.out _⟩
    · by_cases h3 : (l.length : Int) > 6
      · have HE : Aside0 (saidB k l = false) := ⟨by rw [HS.out]; simp; omega⟩
        go_enter Try.func26, Try.ntmps26
        go_wp2
        go_ret
        exact ⟨by rw [HE.out]; rfl, below_alloc HB.out _⟩
      · have HE : Aside0 (saidB k l = !l.any (fun x => !okB k x)) := ⟨by rw [HS.out, decide_eq_true (show 1 ≤ k ∧ k ≤ 3 by omega), decide_eq_true (show l.length ≤ 6 by omega)]; rfl⟩
        have HF := Aside0.mk (fun W hB hc => ContainsFunc (fun x => !okB k x) 43 #[.pointer (some ⟨w.heap.size, 0, none⟩)] eg A c l W (areSaid1 w.heap.size k W hB hc l))
        have HR := Aside0.mk hr
        clear hr HS eg
        go_enter Try.func26, Try.ntmps26
        go_wp2_with (go_at_call 31; refine (HF.out _ (by simp) (by simp) (Kd.C_below HR.out (below_alloc HB.out _))).mono ?_; rintro e w' ⟨rfl, hb'⟩)
        go_ret
        exact ⟨by rw [HE.out]; rfl, below_step (below_alloc HB.out _) hb'⟩
end Go.Proofs.Ytmkfmbjemdbigaa.Man

end
