/- What is proved from sentences: the least closed set, and the row that grows till it is closed; plain words, no program; no condition but those that each word names. -/
import Derived.Test.YthnmllkhlinnaaaSemSay
namespace Go.Proofs.Ythnmllkhlinnaaa.Sem
open Go.RowKit Go.Proofs.Ythnmllkhlinnaaa.PA Go.Proofs.YthnmllkhlinnaaaW.PrintWords Go.Proofs.YthnmllkhlinnaaaW.PrintLast Go.Proofs.YthnmllkhlinnaaaW.PrintMore
set_option linter.unusedVariables false
set_option linter.unusedSimpArgs false

abbrev Sy := S29
instance : DecidableEq Sy := fun a b => decidable_of_iff (a.f0 = b.f0 ∧ a.f1 = b.f1 ∧ a.f2 = b.f2) ⟨fun h => by cases a; cases b; simp_all, fun h => by subst h; exact ⟨rfl, rfl, rfl⟩⟩

/-- The contrary of a term. -/
def oth (x : Int) : Int := if x % 2 = 0 then x + 1 else x - 1
/-- A sentence of so many kinds. -/
def Oks (k : Int) (s : Sy) : Prop := (s.f0 = 0 ∨ s.f0 = 1) ∧ (0 ≤ s.f1 ∧ s.f1 < 2 * k) ∧ (0 ≤ s.f2 ∧ s.f2 < 2 * k)
theorem oth_oth (x : Int) : oth (oth x) = x := by unfold oth; split <;> split <;> omega
theorem oth_range {k x : Int} (h : 0 ≤ x ∧ x < 2 * k) : 0 ≤ oth x ∧ oth x < 2 * k := by unfold oth; split <;> omega

/-- What is proved. -/
inductive Pr (k : Int) (L : List Sy) : Sy → Prop
  | said {s : Sy} : s ∈ L → Pr k L s
  | same {x : Int} : 0 ≤ x → x < 2 * k → Pr k L ⟨0, x, x⟩
  | turn {x y : Int} : Pr k L ⟨1, x, y⟩ → Pr k L ⟨1, y, x⟩
  | there {x y : Int} : Pr k L ⟨1, x, y⟩ → Pr k L ⟨1, x, x⟩
  | contra {x y : Int} : Pr k L ⟨0, x, y⟩ → Pr k L ⟨0, oth y, oth x⟩
  | void {x z : Int} : Pr k L ⟨0, x, oth x⟩ → 0 ≤ z → z < 2 * k → Pr k L ⟨0, x, z⟩
  | chain {f x y z : Int} : Pr k L ⟨f, x, y⟩ → Pr k L ⟨0, y, z⟩ → Pr k L ⟨f, x, z⟩
  | any {x y : Int} {s : Sy} : Pr k L ⟨1, x, y⟩ → Pr k L ⟨0, x, oth y⟩ → Oks k s → Pr k L s

theorem Pr.ok {k : Int} {L : List Sy} (hL : ∀ s ∈ L, Oks k s) {s : Sy} (h : Pr k L s) : Oks k s := by
  induction h with
  | said h => exact hL _ h
  | same h1 h2 => exact ⟨Or.inl rfl, ⟨h1, h2⟩, ⟨h1, h2⟩⟩
  | turn _ ih => exact ⟨Or.inr rfl, ih.2.2, ih.2.1⟩
  | there _ ih => exact ⟨Or.inr rfl, ih.2.1, ih.2.1⟩
  | contra _ ih => exact ⟨Or.inl rfl, oth_range ih.2.2, oth_range ih.2.1⟩
  | void _ h1 h2 ih => exact ⟨Or.inl rfl, ih.2.1, ⟨h1, h2⟩⟩
  | chain _ _ ih1 ih2 => exact ⟨ih1.1, ih1.2.1, ih2.2.2⟩
  | any _ _ h _ _ => exact h

/-- What is known is closed, but for what is still to be done. -/
structure Inv (k : Int) (L K T : List Sy) : Prop where
  nd : K.Nodup
  snd : ∀ x, x ∈ K ∨ x ∈ T → Pr k L x
  said : ∀ x ∈ L, x ∈ K ∨ x ∈ T
  same : ∀ x : Int, 0 ≤ x → x < 2 * k → (⟨0, x, x⟩ : Sy) ∈ K ∨ (⟨0, x, x⟩ : Sy) ∈ T
  turn : ∀ x y : Int, (⟨1, x, y⟩ : Sy) ∈ K → (⟨1, y, x⟩ : Sy) ∈ K ∨ (⟨1, y, x⟩ : Sy) ∈ T
  there : ∀ x y : Int, (⟨1, x, y⟩ : Sy) ∈ K → (⟨1, x, x⟩ : Sy) ∈ K ∨ (⟨1, x, x⟩ : Sy) ∈ T
  contra : ∀ x y : Int, (⟨0, x, y⟩ : Sy) ∈ K → (⟨0, oth y, oth x⟩ : Sy) ∈ K ∨ (⟨0, oth y, oth x⟩ : Sy) ∈ T
  void : ∀ x z : Int, (⟨0, x, oth x⟩ : Sy) ∈ K → 0 ≤ z → z < 2 * k → (⟨0, x, z⟩ : Sy) ∈ K ∨ (⟨0, x, z⟩ : Sy) ∈ T
  chain : ∀ f x y z : Int, (⟨f, x, y⟩ : Sy) ∈ K → (⟨0, y, z⟩ : Sy) ∈ K → (⟨f, x, z⟩ : Sy) ∈ K ∨ (⟨f, x, z⟩ : Sy) ∈ T
  any : ∀ (x y : Int) (s : Sy), (⟨1, x, y⟩ : Sy) ∈ K → (⟨0, x, oth y⟩ : Sy) ∈ K → Oks k s → s ∈ K ∨ s ∈ T

/-- At the end just the proved ones are known. -/
theorem Inv.done {k : Int} {L K : List Sy} (h : Inv k L K []) (s : Sy) : s ∈ K ↔ Pr k L s := by
  have no : ∀ x : Sy, x ∈ K ∨ x ∈ ([] : List Sy) → x ∈ K := fun x hx => hx.resolve_right (by simp)
  refine ⟨fun hs => h.snd s (Or.inl hs), fun hs => ?_⟩
  induction hs with
  | said hx => exact no _ (h.said _ hx)
  | same h1 h2 => exact no _ (h.same _ h1 h2)
  | turn _ ih => exact no _ (h.turn _ _ ih)
  | there _ ih => exact no _ (h.there _ _ ih)
  | contra _ ih => exact no _ (h.contra _ _ ih)
  | void _ h1 h2 ih => exact no _ (h.void _ _ ih h1 h2)
  | chain _ _ ih1 ih2 => exact no _ (h.chain _ _ _ _ ih1 ih2)
  | any _ _ h1 ih1 ih2 => exact no _ (h.any _ _ _ ih1 ih2 h1)

/-- One is popped that was known. -/
theorem Inv.old {k : Int} {L K T : List Sy} {s : Sy} (h : Inv k L K (T ++ [s])) (hs : s ∈ K) : Inv k L K T := by
  have go : ∀ x : Sy, x ∈ K ∨ x ∈ T ++ [s] → x ∈ K ∨ x ∈ T := fun x hx => by
    rcases hx with hx | hx
    · exact Or.inl hx
    · rcases List.mem_append.1 hx with hx | hx
      · exact Or.inr hx
      · rw [List.mem_singleton.1 hx]; exact Or.inl hs
  exact ⟨h.nd, fun x hx => h.snd x (hx.imp id (fun hx => List.mem_append_left _ hx)), fun x hx => go _ (h.said x hx), fun x h1 h2 => go _ (h.same x h1 h2), fun x y hx => go _ (h.turn x y hx),
    fun x y hx => go _ (h.there x y hx), fun x y hx => go _ (h.contra x y hx), fun x z hx h1 h2 => go _ (h.void x z hx h1 h2), fun f x y z h1 h2 => go _ (h.chain f x y z h1 h2), fun x y t h1 h2 h3 => go _ (h.any x y t h1 h2 h3)⟩

/-- One is popped that is new: whatever comes of it, alone and with those that are known, is put to what is to be done. -/
theorem Inv.new {k : Int} {L K T N : List Sy} {s : Sy} (h : Inv k L K (T ++ [s])) (hs : s ∉ K) (K' : List Sy) (hK : K' = K ++ [s]) (snd : ∀ x ∈ N, Pr k L x)
    (turn : s.f0 = 1 → (⟨1, s.f2, s.f1⟩ : Sy) ∈ N) (there : s.f0 = 1 → (⟨1, s.f1, s.f1⟩ : Sy) ∈ N) (contra : s.f0 = 0 → (⟨0, oth s.f2, oth s.f1⟩ : Sy) ∈ N)
    (void : s.f0 = 0 → s.f2 = oth s.f1 → ∀ z, 0 ≤ z → z < 2 * k → (⟨0, s.f1, z⟩ : Sy) ∈ N)
    (chain1 : ∀ z, (⟨0, s.f2, z⟩ : Sy) ∈ K' → (⟨s.f0, s.f1, z⟩ : Sy) ∈ N)
    (chain2 : s.f0 = 0 → ∀ f z, (⟨f, z, s.f1⟩ : Sy) ∈ K' → (⟨f, z, s.f2⟩ : Sy) ∈ N)
    (any1 : s.f0 = 1 → (⟨0, s.f1, oth s.f2⟩ : Sy) ∈ K' → ∀ t, Oks k t → t ∈ N)
    (any2 : s.f0 = 0 → (⟨1, s.f1, oth s.f2⟩ : Sy) ∈ K' → ∀ t, Oks k t → t ∈ N) : Inv k L K' (T ++ N) := by
  have inN : ∀ x : Sy, x ∈ N → x ∈ K' ∨ x ∈ T ++ N := fun x hx => Or.inr (List.mem_append_right _ hx)
  have go : ∀ x : Sy, x ∈ K ∨ x ∈ T ++ [s] → x ∈ K' ∨ x ∈ T ++ N := fun x hx => by
    rw [hK]
    rcases hx with hx | hx
    · exact Or.inl (List.mem_append_left _ hx)
    · rcases List.mem_append.1 hx with hx | hx
      · exact Or.inr (List.mem_append_left _ hx)
      · exact Or.inl (List.mem_append_right _ hx)
  have cut : ∀ x : Sy, x ∈ K' → x ∈ K ∨ x = s := fun x hx => by
    rw [hK] at hx
    rcases List.mem_append.1 hx with hx | hx
    · exact Or.inl hx
    · exact Or.inr (List.mem_singleton.1 hx)
  refine ⟨?_, fun x hx => ?_, fun x hx => go _ (h.said x hx), fun x h1 h2 => go _ (h.same x h1 h2), fun x y hx => ?_, fun x y hx => ?_, fun x y hx => ?_, fun x z hx h1 h2 => ?_, fun f x y z h1 h2 => ?_, fun x y t h1 h2 h3 => ?_⟩
  · rw [hK, List.nodup_append]
    exact ⟨h.nd, by simp, fun a ha b hb => by rw [List.mem_singleton.1 hb]; exact fun e => hs (e ▸ ha)⟩
  · rcases hx with hx | hx
    · rcases cut x hx with hx | rfl
      · exact h.snd x (Or.inl hx)
      · exact h.snd x (Or.inr (List.mem_append_right _ (List.mem_singleton.2 rfl)))
    · rcases List.mem_append.1 hx with hx | hx
      · exact h.snd x (Or.inr (List.mem_append_left _ hx))
      · exact snd x hx
  · rcases cut _ hx with hx | rfl
    · exact go _ (h.turn x y hx)
    · exact inN _ (turn rfl)
  · rcases cut _ hx with hx | rfl
    · exact go _ (h.there x y hx)
    · exact inN _ (there rfl)
  · rcases cut _ hx with hx | rfl
    · exact go _ (h.contra x y hx)
    · exact inN _ (contra rfl)
  · rcases cut _ hx with hx | rfl
    · exact go _ (h.void x z hx h1 h2)
    · exact inN _ (void rfl rfl z h1 h2)
  · rcases cut _ h1 with h1' | rfl
    · rcases cut _ h2 with h2' | rfl
      · exact go _ (h.chain f x y z h1' h2')
      · exact inN _ (chain2 rfl f x h1)
    · exact inN _ (chain1 z h2)
  · rcases cut _ h1 with h1' | rfl
    · rcases cut _ h2 with h2' | rfl
      · exact go _ (h.any x y t h1' h2' h3)
      · exact inN _ (any2 rfl (by show (⟨1, x, oth (oth y)⟩ : Sy) ∈ K'; rw [oth_oth]; exact h1) t h3)
    · exact inN _ (any1 rfl h2 t h3)

/-- At the start. -/
theorem Inv.start {k : Int} {L R : List Sy} (hR : ∀ s, s ∈ R ↔ ∃ x, 0 ≤ x ∧ x < 2 * k ∧ s = ⟨0, x, x⟩) : Inv k L [] (L ++ R) := by
  refine ⟨List.nodup_nil, fun x hx => ?_, fun x hx => Or.inr (List.mem_append_left _ hx), fun x h1 h2 => Or.inr (List.mem_append_right _ ((hR _).2 ⟨x, h1, h2, rfl⟩)), ?_, ?_, ?_, ?_, ?_, ?_⟩
  · rcases List.mem_append.1 (hx.resolve_left (by simp)) with hx | hx
    · exact Pr.said hx
    · obtain ⟨y, h1, h2, rfl⟩ := (hR _).1 hx
      exact Pr.same h1 h2
  all_goals (intros; simp_all)

/-- A row without repeats that lies in another is no longer. -/
theorem nodup_le {α : Type} [DecidableEq α] : ∀ (K A : List α), K.Nodup → (∀ x ∈ K, x ∈ A) → K.length ≤ A.length
  | [], A, _, _ => Nat.zero_le _
  | x :: K, A, h, hA => by
    have hx : x ∈ A := hA x (List.mem_cons_self)
    rw [List.nodup_cons] at h
    have := nodup_le K (A.erase x) h.2 (fun y hy => (List.mem_erase_of_ne (fun e => h.1 (by rw [← e]; exact hy))).2 (hA y (List.mem_cons_of_mem _ hy)))
    rw [List.length_erase_of_mem hx] at this
    have := List.length_pos_of_mem hx
    simp only [List.length_cons]
    omega

/-- The terms; all sentences. -/
def terms (k : Int) : List Int := (List.range (2 * k).toNat).map (fun n : Nat => (n : Int))
def everyS (k : Int) : List Sy := (terms k).flatMap fun a => (terms k).flatMap fun b => [⟨0, a, b⟩, ⟨1, a, b⟩]
theorem mem_terms (k x : Int) : x ∈ terms k ↔ 0 ≤ x ∧ x < 2 * k := by
  unfold terms
  rw [List.mem_map]
  constructor
  · rintro ⟨n, hn, rfl⟩
    have := List.mem_range.1 hn
    omega
  · rintro ⟨h1, h2⟩
    exact ⟨x.toNat, List.mem_range.2 (by omega), by omega⟩
theorem mem_everyS (k : Int) (s : Sy) : s ∈ everyS k ↔ Oks k s := by
  unfold everyS Oks
  simp only [List.mem_flatMap, mem_terms]
  constructor
  · rintro ⟨a, ha, b, hb, h⟩
    rcases List.mem_cons.1 h with rfl | h
    · exact ⟨Or.inl rfl, ha, hb⟩
    · rw [List.mem_singleton.1 h]
      exact ⟨Or.inr rfl, ha, hb⟩
  · rintro ⟨h0, h1, h2⟩
    refine ⟨s.f1, h1, s.f2, h2, ?_⟩
    obtain ⟨f, o, t⟩ := s
    rcases h0 with h0 | h0
    · simp only at h0; subst h0; simp
    · simp only at h0; subst h0; simp
theorem everyS_length (k : Int) (h : 1 ≤ k ∧ k ≤ 3) : (everyS k).length ≤ 72 := by
  have hk : k = 1 ∨ k = 2 ∨ k = 3 := by omega
  rcases hk with rfl | rfl | rfl <;> decide
theorem terms_length (k : Int) (h : 1 ≤ k ∧ k ≤ 3) : (terms k).length ≤ 6 := by
  unfold terms
  rw [List.length_map, List.length_range]
  omega

theorem Inv.few {k : Int} {L K T : List Sy} (hk : 1 ≤ k ∧ k ≤ 3) (hL : ∀ s ∈ L, Oks k s) (h : Inv k L K T) : K.length ≤ 72 :=
  Nat.le_trans (nodup_le K (everyS k) h.nd (fun x hx => (mem_everyS k x).2 ((h.snd x (Or.inl hx)).ok hL))) (everyS_length k hk)

/-! ### as the program does it -/
/-- What comes of a sentence with a term. -/
def zStep (K : List Sy) (s : Sy) (z : Int) : List Sy :=
  (if s.f0 = 0 ∧ s.f2 = oth s.f1 then [⟨0, s.f1, z⟩] else []) ++ (if (⟨0, s.f2, z⟩ : Sy) ∈ K then [⟨s.f0, s.f1, z⟩] else []) ++
  ((if s.f0 = 0 ∧ (⟨0, z, s.f1⟩ : Sy) ∈ K then [⟨0, z, s.f2⟩] else []) ++ (if s.f0 = 0 ∧ (⟨1, z, s.f1⟩ : Sy) ∈ K then [⟨1, z, s.f2⟩] else []))
/-- What comes of it alone. -/
def alone (s : Sy) : List Sy := if s.f0 = 1 then [⟨1, s.f2, s.f1⟩, ⟨1, s.f1, s.f1⟩] else [⟨0, oth s.f2, oth s.f1⟩]
/-- Does everything come of it? -/
def allOf (K : List Sy) (s : Sy) : Prop := (s.f0 = 1 ∧ (⟨0, s.f1, oth s.f2⟩ : Sy) ∈ K) ∨ (s.f0 = 0 ∧ (⟨1, s.f1, oth s.f2⟩ : Sy) ∈ K)
instance (K : List Sy) (s : Sy) : Decidable (allOf K s) := by unfold allOf; infer_instance
def fresh (k : Int) (K : List Sy) (s : Sy) : List Sy := alone s ++ (terms k).flatMap (zStep K s) ++ (if allOf K s then everyS k else [])

theorem zStep_length (K : List Sy) (s : Sy) (z : Int) : (zStep K s z).length ≤ 4 := by
  unfold zStep
  repeat' split
  all_goals simp
theorem flat_length {α β : Type} (f : α → List β) (n : Nat) (h : ∀ a, (f a).length ≤ n) : ∀ l : List α, (l.flatMap f).length ≤ l.length * n
  | [] => by simp
  | a :: l => by
    have := flat_length f n h l
    have := h a
    rw [List.flatMap_cons, List.length_append, List.length_cons, Nat.add_mul]
    omega
theorem fresh_length (k : Int) (hk : 1 ≤ k ∧ k ≤ 3) (K : List Sy) (s : Sy) : (fresh k K s).length ≤ 98 := by
  have h1 := flat_length (zStep K s) 4 (zStep_length K s) (terms k)
  have h2 := terms_length k hk
  have h3 := everyS_length k hk
  have h4 : (alone s).length ≤ 2 := by unfold alone; split <;> simp
  unfold fresh
  rw [List.length_append, List.length_append]
  split
  · omega
  · simp only [List.length_nil]; omega

/-- One round of the program, a new sentence. -/
theorem Inv.newF {k : Int} {L K T : List Sy} {s : Sy} (hL : ∀ s ∈ L, Oks k s) (h : Inv k L K (T ++ [s])) (hs : s ∉ K) : Inv k L (K ++ [s]) (T ++ fresh k (K ++ [s]) s) := by
  have hPs : Pr k L s := h.snd s (Or.inr (List.mem_append_right _ (List.mem_singleton.2 rfl)))
  have hok := hPs.ok hL
  have hK : ∀ x ∈ K ++ [s], Pr k L x := fun x hx => by
    rcases List.mem_append.1 hx with hx | hx
    · exact h.snd x (Or.inl hx)
    · rw [List.mem_singleton.1 hx]; exact hPs
  generalize hKe : K ++ [s] = K' at hK
  have inz : ∀ (z : Int) (x : Sy), 0 ≤ z → z < 2 * k → x ∈ zStep K' s z → x ∈ fresh k K' s := fun z x h1 h2 hx =>
    List.mem_append_left _ (List.mem_append_right _ (List.mem_flatMap.2 ⟨z, (mem_terms k z).2 ⟨h1, h2⟩, hx⟩))
  have ina : ∀ x : Sy, x ∈ alone s → x ∈ fresh k K' s := fun x hx => List.mem_append_left _ (List.mem_append_left _ hx)
  have ine : allOf K' s → ∀ t, Oks k t → t ∈ fresh k K' s := fun ha t ht => by
    refine List.mem_append_right _ ?_
    rw [if_pos ha]
    exact (mem_everyS k t).2 ht
  refine h.new hs K' hKe.symm (fun x hx0 => ?_) (fun e => ina _ ?_) (fun e => ina _ ?_) (fun e => ina _ ?_) (fun e e' z h1 h2 => inz z _ h1 h2 ?_) (fun z hz => ?_) (fun e f z hz => ?_) (fun e hx t ht => ine (Or.inl ⟨e, hx⟩) t ht) (fun e hx t ht => ine (Or.inr ⟨e, hx⟩) t ht)
  · obtain ⟨f, o, t⟩ := s
    unfold fresh at hx0
    rcases List.mem_append.1 hx0 with hx1 | hx
    · clear hx0
      rcases List.mem_append.1 hx1 with hx | hx
      · clear hx1
        unfold alone at hx
        simp only at hx
        split at hx
        · rename_i e
          subst e
          rcases List.mem_cons.1 hx with rfl | hx3
          · exact hPs.turn
          · rw [List.mem_singleton.1 hx3]; exact hPs.there
        · rename_i e
          have e0 : f = 0 := hok.1.resolve_right e
          subst e0
          rw [List.mem_singleton.1 hx]
          exact hPs.contra
      · clear hx1
        obtain ⟨z, hz, hx3⟩ := List.mem_flatMap.1 hx
        clear hx
        have hx := hx3
        clear hx3
        rw [mem_terms] at hz
        unfold zStep at hx
        simp only [List.mem_append] at hx
        rcases hx with (hx | hx) | (hx | hx)
        · split at hx
          · rename_i e
            obtain ⟨rfl, rfl⟩ := e
            rw [List.mem_singleton.1 hx]
            exact hPs.void hz.1 hz.2
          · cases hx
        · split at hx
          · rename_i e
            rw [List.mem_singleton.1 hx]
            exact hPs.chain (hK _ e)
          · cases hx
        · split at hx
          · rename_i e
            obtain ⟨rfl, e⟩ := e
            rw [List.mem_singleton.1 hx]
            exact (hK _ e).chain hPs
          · cases hx
        · split at hx
          · rename_i e
            obtain ⟨rfl, e⟩ := e
            rw [List.mem_singleton.1 hx]
            exact (hK _ e).chain hPs
          · cases hx
    · clear hx0
      split at hx
      · rename_i e
        replace hx := (mem_everyS k x).1 hx
        rcases e with ⟨rfl, e⟩ | ⟨rfl, e⟩
        · exact Pr.any hPs (hK _ e) hx
        · exact Pr.any (hK _ e) (by rw [oth_oth]; exact hPs) hx
      · cases hx
  · unfold alone; rw [if_pos e]; simp
  · unfold alone; rw [if_pos e]; simp
  · unfold alone; rw [if_neg (by omega)]; simp
  · unfold zStep; rw [if_pos ⟨e, e'⟩]; simp
  · have hz' := (hK _ hz).ok hL
    refine inz z _ hz'.2.2.1 hz'.2.2.2 ?_
    unfold zStep; rw [if_pos hz]; simp
  · have hz' := (hK _ hz).ok hL
    refine inz z _ hz'.2.1.1 hz'.2.1.2 ?_
    rcases hz'.1 with e1 | e1
    · simp only at e1; subst e1
      unfold zStep; rw [if_pos (⟨e, hz⟩ : s.f0 = 0 ∧ (⟨0, z, s.f1⟩ : Sy) ∈ K')]; simp
    · simp only at e1; subst e1
      unfold zStep; rw [if_pos (⟨e, hz⟩ : s.f0 = 0 ∧ (⟨1, z, s.f1⟩ : Sy) ∈ K')]; simp
end Go.Proofs.Ythnmllkhlinnaaa.Sem
