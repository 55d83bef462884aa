/- Proved sentences and worlds: what is proved is so in each world of the sentences, and what is not proved is not so in one; for one to three kinds. -/
import Derived.Test.YthnmllkhlinnaaaSemClosed
import Derived.Test.YthnmllkhlinnaaaSemSo
namespace Go.Proofs.Ythnmllkhlinnaaa.Sem
open Go.RowKit Go.Proofs.Ythnmllkhlinnaaa.PA Go.Proofs.YthnmllkhlinnaaaW.PrintWords Go.Proofs.YthnmllkhlinnaaaW.PrintLast Go.Proofs.YthnmllkhlinnaaaW.PrintMore
set_option linter.unusedVariables false
set_option linter.unusedSimpArgs false

/-- Are things of a sort of a term (a whole number)? -/
def isI (s : Nat) (t : Int) : Bool := isB s t.toNat
theorem isI_oth (s : Nat) {t : Int} (h : 0 ≤ t) : isI s (oth t) = !isI s t := by
  obtain ⟨n, rfl⟩ := Int.eq_ofNat_of_zero_le h
  unfold isI oth
  have a := Nat.mod_two_eq_zero_or_one (s / 2 ^ (n / 2))
  rcases Nat.mod_two_eq_zero_or_one n with b | b
  · rw [if_pos (by omega)]
    have e : ((n : Int) + 1).toNat = n + 1 := by omega
    rw [e, Int.toNat_natCast]
    unfold isB
    rw [show (n + 1) / 2 = n / 2 by omega, show (n + 1) % 2 = 1 by omega, b]
    rcases a with a | a <;> rw [a] <;> rfl
  · rw [if_neg (by omega)]
    have e : ((n : Int) - 1).toNat = n - 1 := by omega
    rw [e, Int.toNat_natCast]
    unfold isB
    rw [show (n - 1) / 2 = n / 2 by omega, show (n - 1) % 2 = 0 by omega, b]
    rcases a with a | a <;> rw [a] <;> rfl

/-- A sentence in a world of sorts. -/
def So (k : Nat) (W : Nat → Bool) (s : Sy) : Prop :=
  if s.f0 = 0 then ∀ x, x < 2 ^ k → W x = true → isI x s.f1 = true → isI x s.f2 = true
  else ∃ x, x < 2 ^ k ∧ W x = true ∧ isI x s.f1 = true ∧ isI x s.f2 = true

theorem soL_all (o t : Nat) (w : Int) : ∀ l : List Nat, soL 0 o t w l = true ↔ ∀ x ∈ l, wb w x = true → isB x o = true → isB x t = true
  | [] => by simp [soL]
  | s :: l => by
    have ih := soL_all o t w l
    rw [soL]
    cases h1 : wb w s <;> cases h2 : isB s o <;> cases h3 : isB s t <;> simp [ih, h1, h2, h3]
theorem soL_some (o t : Nat) (w : Int) : ∀ l : List Nat, soL 1 o t w l = true ↔ ∃ x ∈ l, wb w x = true ∧ isB x o = true ∧ isB x t = true
  | [] => by simp [soL]
  | s :: l => by
    have ih := soL_some o t w l
    rw [soL]
    cases h1 : wb w s <;> cases h2 : isB s o <;> cases h3 : isB s t <;> simp [ih, h1, h2, h3]

theorem soB_iff (k : Nat) (w : Int) {s : Sy} (h : Oks k s) : soB k s.f0.toNat s.f1.toNat s.f2.toNat w = true ↔ So k (wb w) s := by
  unfold soB So isI
  rcases h.1 with e | e
  · rw [if_pos e, e]
    show soL 0 _ _ _ _ = true ↔ _
    rw [soL_all]
    simp only [List.mem_range]
  · rw [if_neg (by omega), e]
    show soL 1 _ _ _ _ = true ↔ _
    rw [soL_some]
    simp only [List.mem_range]

/-- What is proved is so where all sentences are. -/
theorem Pr.sound {k : Nat} {L : List Sy} (hL : ∀ s ∈ L, Oks k s) (W : Nat → Bool) (hW : ∀ s ∈ L, So k W s) {s : Sy} (h : Pr k L s) : So k W s := by
  have ok : ∀ {s : Sy}, Pr k L s → Oks k s := fun h => h.ok hL
  induction h with
  | said h => exact hW _ h
  | same h1 h2 => unfold So; rw [if_pos rfl]; exact fun x _ _ h => h
  | turn _ ih =>
    unfold So at ih ⊢
    rw [if_neg (by show ¬ (1 : Int) = 0; omega)] at ih ⊢
    obtain ⟨x, h1, h2, h3, h4⟩ := ih
    exact ⟨x, h1, h2, h4, h3⟩
  | there _ ih =>
    unfold So at ih ⊢
    rw [if_neg (by show ¬ (1 : Int) = 0; omega)] at ih ⊢
    obtain ⟨x, h1, h2, h3, h4⟩ := ih
    exact ⟨x, h1, h2, h3, h3⟩
  | contra hp ih =>
    have o := ok hp
    unfold So at ih ⊢
    rw [if_pos rfl] at ih ⊢
    intro x h1 h2 h3
    have := ih x h1 h2
    simp only [isI_oth x o.2.1.1, isI_oth x o.2.2.1] at h3 ⊢
    simp only at this
    revert h3 this
    cases isI x _ <;> cases isI x _ <;> simp
  | void hp _ _ ih =>
    have o := ok hp
    unfold So at ih ⊢
    rw [if_pos rfl] at ih ⊢
    intro x h1 h2 h3
    have := ih x h1 h2 h3
    simp only [isI_oth x o.2.1.1] at this h3
    rw [h3] at this
    exact absurd this (by simp)
  | @chain f x y z hp _ ih1 ih2 =>
    have o := ok hp
    unfold So at ih1 ih2 ⊢
    rw [if_pos rfl] at ih2
    rcases o.1 with e | e
    · simp only at e
      rw [if_pos e] at ih1 ⊢
      exact fun x h1 h2 h3 => ih2 x h1 h2 (ih1 x h1 h2 h3)
    · simp only at e
      rw [if_neg (by simp only; omega)] at ih1 ⊢
      obtain ⟨x, h1, h2, h3, h4⟩ := ih1
      exact ⟨x, h1, h2, h3, ih2 x h1 h2 h4⟩
  | any hp _ _ ih1 ih2 =>
    have o := ok hp
    unfold So at ih1 ih2
    rw [if_neg (by show ¬ (1 : Int) = 0; omega)] at ih1
    rw [if_pos rfl] at ih2
    obtain ⟨x, h1, h2, h3, h4⟩ := ih1
    have := ih2 x h1 h2 h3
    simp only [isI_oth x o.2.2.1] at this h4
    rw [h4] at this
    exact absurd this (by simp)

/-! ### what is not proved -/
/-- A row of terms that goes up, and has no term beside its contrary. -/
structure Cons (k : Int) (L : List Sy) (G : Int → Prop) : Prop where
  ran : ∀ x, G x → 0 ≤ x ∧ x < 2 * k
  up : ∀ x y, G x → Pr k L ⟨0, x, y⟩ → G y
  no : ∀ x, G x → ¬ G (oth x)

theorem Cons.pair {k : Int} {L : List Sy} (hL : ∀ s ∈ L, Oks k s) {u v : Int} (hu : 0 ≤ u ∧ u < 2 * k) (hv : 0 ≤ v ∧ v < 2 * k) (h : ¬ Pr k L ⟨0, u, oth v⟩) :
    Cons k L (fun z => Pr k L ⟨0, u, z⟩ ∨ Pr k L ⟨0, v, z⟩) := by
  have back : ∀ {a b : Int}, Pr k L ⟨0, a, oth b⟩ → Pr k L ⟨0, b, oth a⟩ := fun {a b} hp => by
    have := hp.contra
    rwa [oth_oth] at this
  refine ⟨fun x hx => hx.elim (fun h => (h.ok hL).2.2) (fun h => (h.ok hL).2.2), fun x y hx hp => hx.imp (fun h => h.chain hp) (fun h => h.chain hp), fun x hx hy => h ?_⟩
  rcases hx with hx | hx <;> rcases hy with hy | hy
  · have : Pr k L ⟨0, u, oth u⟩ := hx.chain (back hy)
    exact this.void (oth_range hv).1 (oth_range hv).2
  · exact hx.chain (back hy)
  · exact hy.chain (hx.contra)
  · have : Pr k L ⟨0, v, oth v⟩ := hx.chain (back hy)
    exact back (this.void (oth_range hu).1 (oth_range hu).2)

theorem Cons.add {k : Int} {L : List Sy} (hL : ∀ s ∈ L, Oks k s) {G : Int → Prop} (c : Cons k L G) {t : Int} (ht : 0 ≤ t ∧ t < 2 * k) (h1 : ¬ G (oth t)) (h2 : ¬ Pr k L ⟨0, t, oth t⟩) :
    Cons k L (fun z => G z ∨ Pr k L ⟨0, t, z⟩) := by
  have back : ∀ {a b : Int}, Pr k L ⟨0, a, oth b⟩ → Pr k L ⟨0, b, oth a⟩ := fun {a b} hp => by
    have := hp.contra
    rwa [oth_oth] at this
  refine ⟨fun x hx => hx.elim (c.ran x) (fun h => (h.ok hL).2.2), fun x y hx hp => hx.imp (fun h => c.up x y h hp) (fun h => h.chain hp), fun x hx hy => ?_⟩
  rcases hx with hx | hx <;> rcases hy with hy | hy
  · exact c.no x hx hy
  · exact h1 (c.up x _ hx (back hy))
  · exact h1 (c.up _ _ hy hx.contra)
  · exact h2 (hx.chain (back hy))

/-- It grows till each kind is told. -/
theorem Cons.total {k : Int} {L : List Sy} (hL : ∀ s ∈ L, Oks k s) {G : Int → Prop} (c : Cons k L G) {u : Int} (hu : G u) (n : Nat) : (n : Int) ≤ k → ∃ G', Cons k L G' ∧ (∀ x, G x → G' x) ∧ ∀ i : Nat, i < n → G' (2 * i) ∨ G' (2 * i + 1) := by
  induction n with
  | zero => exact fun _ => ⟨G, c, fun _ h => h, fun i hi => absurd hi (by omega)⟩
  | succ n ih =>
    intro hn
    obtain ⟨G1, c1, hs, ht⟩ := ih (by omega)
    have e1 : oth (2 * (n : Int)) = 2 * n + 1 := by unfold oth; rw [if_pos (by omega)]
    have e2 : oth (2 * (n : Int) + 1) = 2 * n := by unfold oth; rw [if_neg (by omega)]; omega
    by_cases g : G1 (2 * n) ∨ G1 (2 * n + 1)
    · refine ⟨G1, c1, hs, fun i hi => ?_⟩
      rcases Nat.lt_or_eq_of_le (Nat.lt_succ_iff.1 hi) with h | rfl
      · exact ht i h
      · exact g
    · by_cases p : Pr k L ⟨0, 2 * (n : Int), oth (2 * n)⟩
      · by_cases q : Pr k L ⟨0, 2 * (n : Int) + 1, oth (2 * n + 1)⟩
        · exfalso
          have hu1 := hs u hu
          have ru := oth_range (c1.ran u hu1)
          have a1 := (p.void ru.1 ru.2).contra
          rw [oth_oth, e1] at a1
          exact g (Or.inr (c1.up _ _ hu1 a1))
        · refine ⟨_, c1.add hL (t := 2 * n + 1) (by omega) (by rw [e2]; exact fun h => g (Or.inl h)) q, fun x hx => Or.inl (hs x hx), fun i hi => ?_⟩
          rcases Nat.lt_or_eq_of_le (Nat.lt_succ_iff.1 hi) with h | rfl
          · exact (ht i h).imp Or.inl Or.inl
          · exact Or.inr (Or.inr (Pr.same (by omega) (by omega)))
      · refine ⟨_, c1.add hL (t := 2 * n) (by omega) (by rw [e1]; exact fun h => g (Or.inr h)) p, fun x hx => Or.inl (hs x hx), fun i hi => ?_⟩
        rcases Nat.lt_or_eq_of_le (Nat.lt_succ_iff.1 hi) with h | rfl
        · exact (ht i h).imp Or.inl Or.inl
        · exact Or.inl (Or.inr (Pr.same (by omega) (by omega)))

/-- A number with these binary digits. -/
theorem digits (p : Nat → Prop) (n : Nat) : ∃ w, w < 2 ^ n ∧ ∀ s, s < n → ((w / 2 ^ s) % 2 = 1 ↔ p s) := by
  induction n with
  | zero => exact ⟨0, by decide, fun s hs => absurd hs (by omega)⟩
  | succ n ih =>
    obtain ⟨w, hw, h⟩ := ih
    by_cases hp : p n
    · refine ⟨w + 2 ^ n, by rw [Nat.pow_succ]; omega, fun s hs => ?_⟩
      rcases Nat.lt_or_eq_of_le (Nat.lt_succ_iff.1 hs) with h1 | rfl
      · rw [← h s h1]
        obtain ⟨d, rfl⟩ : ∃ d, n = s + 1 + d := ⟨n - (s + 1), by omega⟩
        have e : 2 ^ (s + 1 + d) = 2 ^ s * (2 * 2 ^ d) := by rw [Nat.pow_add, Nat.pow_succ, Nat.mul_assoc]
        rw [e, Nat.add_mul_div_left _ _ (Nat.pow_pos (by decide)), Nat.add_mul_mod_self_left]
      · have : (w + 2 ^ s) / 2 ^ s = 1 := by
          rw [Nat.add_div_right _ (Nat.pow_pos (by decide)), Nat.div_eq_of_lt hw]
        rw [this]
        exact ⟨fun _ => hp, fun _ => rfl⟩
    · refine ⟨w, by rw [Nat.pow_succ]; omega, fun s hs => ?_⟩
      rcases Nat.lt_or_eq_of_le (Nat.lt_succ_iff.1 hs) with h1 | rfl
      · exact h s h1
      · rw [Nat.div_eq_of_lt hw]
        exact ⟨fun h => absurd h (by decide), fun h => absurd h hp⟩

/-- A sort of the terms that are told. -/
theorem Cons.sort {k : Nat} {L : List Sy} {G : Int → Prop} (c : Cons k L G) (ht : ∀ i : Nat, i < k → G (2 * i) ∨ G (2 * i + 1)) : ∃ s, s < 2 ^ k ∧ ∀ x : Int, 0 ≤ x → x < 2 * k → (isI s x = true ↔ G x) := by
  obtain ⟨s, hs, h⟩ := digits (fun i => G (2 * (i : Int))) k
  refine ⟨s, hs, fun x h0 h1 => ?_⟩
  obtain ⟨n, rfl⟩ := Int.eq_ofNat_of_zero_le h0
  have hd := h (n / 2) (by omega)
  unfold isI isB
  rw [Int.toNat_natCast]
  have a := Nat.mod_two_eq_zero_or_one (s / 2 ^ (n / 2))
  rcases Nat.mod_two_eq_zero_or_one n with b | b
  · have e : (2 * ((n / 2 : Nat) : Int)) = n := by omega
    rw [e] at hd
    rw [← hd, b]
    rcases a with a | a <;> rw [a] <;> decide
  · have e : (2 * ((n / 2 : Nat) : Int)) + 1 = n := by omega
    have e1 : oth (n : Int) = 2 * ((n / 2 : Nat) : Int) := by unfold oth; rw [if_neg (by omega)]; omega
    have e2 : oth (2 * ((n / 2 : Nat) : Int)) = n := by unfold oth; rw [if_pos (by omega)]; omega
    rw [b]
    have hn : G n ↔ ¬ G (2 * ((n / 2 : Nat) : Int)) := by
      constructor
      · intro g g'
        exact c.no _ g (by rw [e1]; exact g')
      · intro g
        have := (ht (n / 2) (by omega)).resolve_left g
        rwa [e] at this
    rw [hn, ← hd]
    rcases a with a | a <;> rw [a] <;> decide

/-- A sort that goes with what is proved. -/
def Goes (k : Int) (L : List Sy) (s : Nat) : Prop := ∀ x y : Int, Pr k L ⟨0, x, y⟩ → isI s x = true → isI s y = true

theorem goes_of {k : Nat} {L : List Sy} (hL : ∀ s ∈ L, Oks k s) {G : Int → Prop} (c : Cons k L G) {u : Int} (hu : G u) : ∃ s, s < 2 ^ k ∧ Goes k L s ∧ ∀ x, G x → isI s x = true := by
  obtain ⟨G', c', hs, ht⟩ := c.total hL hu k (Int.le_refl _)
  obtain ⟨s, h1, h2⟩ := c'.sort ht
  refine ⟨s, h1, fun x y hp hx => ?_, fun x hx => (h2 x (c.ran x hx).1 (c.ran x hx).2).2 (hs x hx)⟩
  have o := hp.ok hL
  exact (h2 y o.2.2.1 o.2.2.2).2 (c'.up x y ((h2 x o.2.1.1 o.2.1.2).1 hx) hp)

/-- What is not proved is not so in some world of the sentences. -/
theorem complete {k : Nat} {L : List Sy} (hL : ∀ s ∈ L, Oks k s) {s : Sy} (hs : Oks k s) (h : ¬ Pr k L s) : ∃ w : Nat, w < 2 ^ 2 ^ k ∧ (∀ x ∈ L, So k (wb w) x) ∧ ¬ So k (wb w) s := by
  have back : ∀ {a b : Int}, Pr k L ⟨0, a, oth b⟩ → Pr k L ⟨0, b, oth a⟩ := fun {a b} hp => by
    have := hp.contra
    rwa [oth_oth] at this
  -- a some-sentence of the row: no contradiction
  have some1 : ∀ x y : Int, Pr k L ⟨1, x, y⟩ → ¬ Pr k L ⟨0, x, oth y⟩ := fun x y h1 h2 => h (Pr.any h1 h2 hs)
  have world : ∀ p : Nat → Prop, ∃ w : Nat, w < 2 ^ 2 ^ k ∧ ∀ x, x < 2 ^ k → (wb w x = true ↔ p x) := fun p => by
    obtain ⟨w, h1, h2⟩ := digits p (2 ^ k)
    refine ⟨w, h1, fun x hx => ?_⟩
    rw [← h2 x hx]
    unfold wb
    rw [decide_eq_true_eq]
    have : ((w : Int) / 2 ^ x) % 2 = ((w / 2 ^ x % 2 : Nat) : Int) := by norm_cast
    rw [this]
    omega
  obtain ⟨f, u, v⟩ := s
  obtain ⟨hf, hu, hv⟩ := hs
  simp only at hf hu hv
  rcases hf with rfl | rfl
  · obtain ⟨w, hw, hwp⟩ := world (fun s => Goes k L s)
    refine ⟨w, hw, fun x hx => ?_, fun hso => ?_⟩
    · obtain ⟨f, o, t⟩ := x
      have ox := hL _ hx
      unfold So
      rcases ox.1 with e | e
      · simp only at e
        subst e
        rw [if_pos rfl]
        exact fun s h1 h2 h3 => (hwp s h1).1 h2 o t (Pr.said hx) h3
      · simp only at e
        subst e
        rw [if_neg (by show ¬ (1 : Int) = 0; omega)]
        obtain ⟨s, h1, h2, h3⟩ := goes_of hL (Cons.pair hL ox.2.1 ox.2.2 (some1 o t (Pr.said hx))) (u := o) (Or.inl (Pr.same ox.2.1.1 ox.2.1.2))
        exact ⟨s, h1, (hwp s h1).2 h2, h3 o (Or.inl (Pr.same ox.2.1.1 ox.2.1.2)), h3 t (Or.inr (Pr.same ox.2.2.1 ox.2.2.2))⟩
    · unfold So at hso
      rw [if_pos rfl] at hso
      have rv := oth_range hv
      obtain ⟨s, h1, h2, h3⟩ := goes_of hL (Cons.pair hL hu rv (by rw [oth_oth]; exact h)) (u := u) (Or.inl (Pr.same hu.1 hu.2))
      have a1 := hso s h1 ((hwp s h1).2 h2) (h3 u (Or.inl (Pr.same hu.1 hu.2)))
      have a2 := h3 (oth v) (Or.inr (Pr.same rv.1 rv.2))
      simp only at a1
      rw [isI_oth s hv.1, a1] at a2
      exact absurd a2 (by simp)
  · obtain ⟨w, hw, hwp⟩ := world (fun s => Goes k L s ∧ ¬ (isI s u = true ∧ isI s v = true))
    refine ⟨w, hw, fun x hx => ?_, fun hso => ?_⟩
    · obtain ⟨f, o, t⟩ := x
      have ox := hL _ hx
      unfold So
      rcases ox.1 with e | e
      · simp only at e
        subst e
        rw [if_pos rfl]
        exact fun s h1 h2 h3 => ((hwp s h1).1 h2).1 o t (Pr.said hx) h3
      · simp only at e
        subst e
        rw [if_neg (by show ¬ (1 : Int) = 0; omega)]
        have hot := Pr.said (k := k) hx
        have c := Cons.pair hL ox.2.1 ox.2.2 (some1 o t hot)
        have go : Pr k L ⟨0, o, o⟩ := Pr.same ox.2.1.1 ox.2.1.2
        have gt : Pr k L ⟨0, t, t⟩ := Pr.same ox.2.2.1 ox.2.2.2
        -- what is above one of the two: some of both
        have both : ¬ ((Pr k L ⟨0, o, u⟩ ∨ Pr k L ⟨0, t, u⟩) ∧ (Pr k L ⟨0, o, v⟩ ∨ Pr k L ⟨0, t, v⟩)) := by
          rintro ⟨a | a, b | b⟩
          · exact h ((((hot.there.chain a).turn).chain b).turn.turn)
          · exact h ((((hot.chain b).turn).chain a).turn)
          · exact h (((hot.chain a).turn.chain b))
          · exact h ((((hot.turn.there.chain a).turn).chain b).turn.turn)
        have put : ∀ z : Int, 0 ≤ z ∧ z < 2 * (k : Int) → ¬ (Pr k L ⟨0, o, z⟩ ∨ Pr k L ⟨0, t, z⟩) → ∃ s, s < 2 ^ k ∧ Goes k L s ∧ isI s o = true ∧ isI s t = true ∧ isI s z = false := by
          intro z hz hno
          have rz := oth_range hz
          have c2 := c.add hL (t := oth z) rz (by rw [oth_oth]; exact hno) (fun hp => by
            rw [oth_oth] at hp
            have ro := oth_range ox.2.1
            have hp' : Pr k L ⟨0, oth z, oth (oth z)⟩ := by rw [oth_oth]; exact hp
            have := (hp'.void ro.1 ro.2).contra
            rw [oth_oth, oth_oth] at this
            exact hno (Or.inl this))
          obtain ⟨s, h1, h2, h3⟩ := goes_of hL c2 (u := o) (Or.inl (Or.inl go))
          refine ⟨s, h1, h2, h3 o (Or.inl (Or.inl go)), h3 t (Or.inl (Or.inr gt)), ?_⟩
          have := h3 (oth z) (Or.inr (Pr.same rz.1 rz.2))
          rw [isI_oth s hz.1] at this
          simpa using this
        by_cases hU : Pr k L ⟨0, o, u⟩ ∨ Pr k L ⟨0, t, u⟩
        · obtain ⟨s, h1, h2, h3, h4, h5⟩ := put v hv (fun hV => both ⟨hU, hV⟩)
          exact ⟨s, h1, (hwp s h1).2 ⟨h2, fun q => by rw [h5] at q; exact absurd q.2 (by simp)⟩, h3, h4⟩
        · obtain ⟨s, h1, h2, h3, h4, h5⟩ := put u hu hU
          exact ⟨s, h1, (hwp s h1).2 ⟨h2, fun q => by rw [h5] at q; exact absurd q.1 (by simp)⟩, h3, h4⟩
    · unfold So at hso
      rw [if_neg (by show ¬ (1 : Int) = 0; omega)] at hso
      obtain ⟨x, h1, h2, h3, h4⟩ := hso
      exact ((hwp x h1).1 h2).2 ⟨h3, h4⟩
end Go.Proofs.Ythnmllkhlinnaaa.Sem
