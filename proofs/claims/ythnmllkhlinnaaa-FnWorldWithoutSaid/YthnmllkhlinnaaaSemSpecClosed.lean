/- The reference's closure of sentences, in plain words: it comes to an end, with just the proved ones in its row; for one to three kinds and at most six allowed sentences. -/
import Derived.Test.YthnmllkhlinnaaaSemClosed
import Derived.Test.YthnmllkhlinnaaaPAx3
import Derived.Test.YthnmllkhlinnaaaPAx4
import Derived.Test.YthnmllkhlinnaaaPAx5
namespace Go.Proofs.Ythnmllkhlinnaaa.Sem
open Go.RowKit Go.Proofs.Ythnmllkhlinnaaa.PA Go.Proofs.YthnmllkhlinnaaaW.PrintWords Go.Proofs.YthnmllkhlinnaaaW.PrintLast Go.Proofs.YthnmllkhlinnaaaW.PrintMore
set_option linter.unusedVariables false
set_option linter.unusedSimpArgs false

theorem rdS (l : List Sy) (i : Nat) (h : i < l.length) : rd_T29 l (i : Int) = l[i] := by
  unfold rd_T29
  rw [List.getD_eq_getElem?_getD, Int.toNat_natCast, List.getElem?_eq_getElem h]
  rfl
theorem w1 (i : Nat) (h : i < 9223372036854775807) : wrap64 ((i : Int) + 1) = ((i + 1 : Nat) : Int) := by unfold wrap64; omega
theorem eq3 (a b : Sy) : (a.f0 == b.f0 && (a.f1 == b.f1 && (a.f2 == b.f2))) = decide (a = b) := by
  obtain ⟨a0, a1, a2⟩ := a
  obtain ⟨b0, b1, b2⟩ := b
  rw [Bool.eq_iff_iff]
  simp
theorem other_eq {k x : Int} (hk : k ≤ 3) (h : 0 ≤ x ∧ x < 2 * k) : spec_l5Other.f x = some (oth x) := by
  unfold spec_l5Other.f oth
  rw [Int.tmod_eq_emod_of_nonneg h.1]
  by_cases e : x % 2 = 0
  · rw [if_pos e, if_pos e, show wrap64 (x + 1) = x + 1 by unfold wrap64; omega]
  · rw [if_neg e, if_neg e, show wrap64 (x - 1) = x - 1 by unfold wrap64; omega]

/-- A new one is put at the end. -/
def addS (l : List Sy) (s : Sy) : List Sy := if s ∈ l then l else l ++ [s]
def addAll (l F : List Sy) : List Sy := F.foldl addS l
theorem mem_addS (l : List Sy) (s x : Sy) : x ∈ addS l s ↔ x ∈ l ∨ x = s := by
  unfold addS
  split
  · rename_i h
    exact ⟨Or.inl, fun h' => h'.elim id (fun e => e ▸ h)⟩
  · simp
theorem mem_addAll : ∀ (F l : List Sy) (x : Sy), x ∈ addAll l F ↔ x ∈ l ∨ x ∈ F
  | [], l, x => by simp [addAll]
  | s :: F, l, x => by
    show x ∈ addAll (addS l s) F ↔ _
    rw [mem_addAll F, mem_addS, List.mem_cons, or_assoc]
theorem addS_pre (l : List Sy) (s : Sy) : ∃ e, addS l s = l ++ e := by
  unfold addS
  split
  · exact ⟨[], by simp⟩
  · exact ⟨[s], rfl⟩
theorem addAll_pre : ∀ (F l : List Sy), ∃ e, addAll l F = l ++ e
  | [], l => ⟨[], by simp [addAll]⟩
  | s :: F, l => by
    obtain ⟨e1, h1⟩ := addS_pre l s
    obtain ⟨e2, h2⟩ := addAll_pre F (addS l s)
    exact ⟨e1 ++ e2, by show addAll (addS l s) F = _; rw [h2, h1, List.append_assoc]⟩

/-- The sentences that came in, and others, each once. -/
def Ls (k : Int) (L l : List Sy) : Prop := ∃ E, l = L ++ E ∧ E.Nodup ∧ ∀ s ∈ E, Oks k s
theorem Ls.add {k : Int} {L l : List Sy} (h : Ls k L l) {s : Sy} (hs : Oks k s) : Ls k L (addS l s) := by
  unfold addS
  split
  · exact h
  · rename_i hn
    obtain ⟨E, rfl, hd, ho⟩ := h
    refine ⟨E ++ [s], by rw [List.append_assoc], ?_, fun x hx => ?_⟩
    · rw [List.nodup_append]
      exact ⟨hd, by simp, fun p hp q hq => by rw [List.mem_singleton.1 hq]; exact fun e => hn (List.mem_append_right _ (e ▸ hp))⟩
    · rcases List.mem_append.1 hx with hx | hx
      · exact ho x hx
      · rw [List.mem_singleton.1 hx]; exact hs
theorem Ls.addAll {k : Int} {L : List Sy} : ∀ (F : List Sy) {l : List Sy}, Ls k L l → (∀ s ∈ F, Oks k s) → Ls k L (Sem.addAll l F)
  | [], _, h, _ => h
  | s :: F, _, h, hF => Ls.addAll F (h.add (hF s List.mem_cons_self)) (fun x hx => hF x (List.mem_cons_of_mem _ hx))
theorem Ls.few {k : Int} (hk : 1 ≤ k ∧ k ≤ 3) {L l : List Sy} (hL : L.length ≤ 6) (h : Ls k L l) : l.length ≤ 78 := by
  obtain ⟨E, rfl, hd, ho⟩ := h
  have := nodup_le E (everyS k) hd (fun x hx => (mem_everyS k x).2 (ho x hx))
  have := everyS_length k hk
  rw [List.length_append]
  omega

theorem add_from (l : List Sy) (s : Sy) (hl : l.length ≤ 100000) (d : Nat) : ∀ i, i + d = l.length → (s ∉ l.take i) → ∃ b, Ev (fun k => spec_l5Add.l0 k l (i : Int) s.f0 s.f1 s.f2) (addS l s, b) := by
  induction d with
  | zero =>
    intro i hi hn
    rw [List.take_of_length_le (by omega)] at hn
    refine ⟨true, Ev.step (f := fun _ => some (l ++ [s], true)) (fun k => ?_) ?_⟩
    · simp only [spec_l5Add.l0]
      rw [if_neg (by omega), if_pos (by omega)]
    · unfold addS
      rw [if_neg hn]
      exact Ev.now _
  | succ d ih =>
    intro i hi hn
    have hlt : i < l.length := by omega
    by_cases h : l[i] = s
    · refine ⟨false, Ev.step (f := fun _ => some (l, false)) (fun k => ?_) ?_⟩
      · simp only [spec_l5Add.l0]
        rw [if_pos (by omega), if_pos (by omega), rdS l i hlt, eq3, decide_eq_true h, if_pos rfl]
      · unfold addS
        rw [if_pos (h ▸ List.getElem_mem hlt)]
        exact Ev.now _
    · obtain ⟨b, hb⟩ := ih (i + 1) (by omega) (by
        rw [List.take_succ_eq_append_getElem hlt]
        intro hx
        rcases List.mem_append.1 hx with hx | hx
        · exact hn hx
        · exact h (List.mem_singleton.1 hx).symm)
      refine ⟨b, Ev.step (f := fun k => spec_l5Add.l0 k l ((i + 1 : Nat) : Int) s.f0 s.f1 s.f2) (fun k => ?_) hb⟩
      simp only [spec_l5Add.l0]
      rw [if_pos (by omega), if_pos (by omega), rdS l i hlt, eq3, decide_eq_false h, if_neg (by simp), w1 i (by omega)]
theorem add_eq (l : List Sy) (s : Sy) (hl : l.length ≤ 100000) : ∃ b, Ev (fun k => spec_l5Add.f k l s.f0 s.f1 s.f2) (addS l s, b) := by
  unfold spec_l5Add.f
  exact add_from l s hl l.length 0 (by omega) (by simp)

/-! ### what comes of two -/
def row2 (f o : Int) (t d : Nat) : List Sy := (List.range' t d).map fun t : Nat => ⟨f, o, (t : Int)⟩
def row1 (n : Nat) (f : Int) (o d : Nat) : List Sy := (List.range' o d).flatMap fun o : Nat => row2 f (o : Int) 0 n
theorem two_in {k : Int} {n : Nat} (hn : wrap64 (2 * k) = (n : Int)) (hn6 : n ≤ 6) (f : Int) (o : Int) (r : List Sy) (d : Nat) : ∀ (t : Nat) (out : List Sy), out.length + d ≤ 100000 → t + d = n →
    Ev (fun q => spec_l5Two.l1 q k (out ++ row2 f o t d) f (wrap64 (o + 1))) r → Ev (fun q => spec_l5Two.l2 q k out f o (t : Int)) r := by
  induction d with
  | zero =>
    intro t out hl ht h
    refine Ev.step (f := fun q => spec_l5Two.l1 q k out f (wrap64 (o + 1))) (fun q => ?_) (by simpa [row2] using h)
    simp only [spec_l5Two.l2, hn]
    rw [if_neg (by omega)]
  | succ d ih =>
    intro t out hl ht h
    refine Ev.step (f := fun q => spec_l5Two.l2 q k (out ++ [(⟨f, o, (t : Int)⟩ : Sy)]) f o ((t + 1 : Nat) : Int)) (fun q => ?_) (ih (t + 1) _ (by rw [List.length_append, List.length_singleton]; omega) (by omega) ?_)
    · simp only [spec_l5Two.l2, hn]
      rw [if_pos (by omega), if_pos (by omega), w1 t (by omega)]
    · have e : out ++ row2 f o t (d + 1) = out ++ [(⟨f, o, (t : Int)⟩ : Sy)] ++ row2 f o (t + 1) d := by
        unfold row2
        rw [List.range'_succ, List.map_cons, List.append_assoc]
        rfl
      rw [← e]
      exact h
theorem row2_length (f o : Int) (t d : Nat) : (row2 f o t d).length = d := by unfold row2; rw [List.length_map, List.length_range']
theorem two_mid {k : Int} {n : Nat} (hn : wrap64 (2 * k) = (n : Int)) (hn6 : n ≤ 6) (f : Int) (r : List Sy) (d : Nat) : ∀ (o : Nat) (out : List Sy), out.length + d * 6 ≤ 100000 → o + d = n →
    Ev (fun q => spec_l5Two.l0 q k (out ++ row1 n f o d) (wrap64 (f + 1))) r → Ev (fun q => spec_l5Two.l1 q k out f (o : Int)) r := by
  induction d with
  | zero =>
    intro o out hl ho h
    refine Ev.step (f := fun q => spec_l5Two.l0 q k out (wrap64 (f + 1))) (fun q => ?_) (by simpa [row1] using h)
    simp only [spec_l5Two.l1, hn]
    rw [if_neg (by omega)]
  | succ d ih =>
    intro o out hl ho h
    have e : out ++ row1 n f o (d + 1) = out ++ row2 f (o : Int) 0 n ++ row1 n f (o + 1) d := by
      unfold row1
      rw [List.range'_succ, List.flatMap_cons, List.append_assoc]
    rw [e] at h
    refine Ev.step (f := fun q => spec_l5Two.l2 q k out f (o : Int) ((0 : Nat) : Int)) (fun q => ?_) (two_in hn hn6 f (o : Int) r n 0 out (by omega) (by omega) ?_)
    · simp only [spec_l5Two.l1, hn]
      rw [if_pos (by omega)]
      rfl
    · rw [w1 o (by omega)]
      exact ih (o + 1) _ (by rw [List.length_append, row2_length]; omega) (by omega) h
theorem row1_length (n : Nat) (f : Int) (d : Nat) : ∀ o, (row1 n f o d).length = d * n := by
  induction d with
  | zero => intro o; simp [row1]
  | succ d ih =>
    intro o
    have e : row1 n f o (d + 1) = row2 f (o : Int) 0 n ++ row1 n f (o + 1) d := by unfold row1; rw [List.range'_succ, List.flatMap_cons]
    rw [e, List.length_append, row2_length, ih, Nat.add_mul]
    omega
theorem mem_row1 (n : Nat) (f : Int) (s : Sy) : s ∈ row1 n f 0 n ↔ s.f0 = f ∧ (0 ≤ s.f1 ∧ s.f1 < n) ∧ (0 ≤ s.f2 ∧ s.f2 < n) := by
  unfold row1 row2
  simp only [List.mem_flatMap, List.mem_map, ← List.range_eq_range', List.mem_range]
  constructor
  · rintro ⟨o, ho, t, ht, rfl⟩
    exact ⟨rfl, ⟨by simp only; omega, by simp only; omega⟩, ⟨by simp only; omega, by simp only; omega⟩⟩
  · rintro ⟨rfl, h1, h2⟩
    refine ⟨s.f1.toNat, by omega, s.f2.toNat, by omega, ?_⟩
    rw [Int.toNat_of_nonneg h1.1, Int.toNat_of_nonneg h2.1]

/-- What comes of two sentences. -/
def Two (k : Int) (a b s : Sy) : Prop := (b.f0 = 0 ∧ a.f2 = b.f1 ∧ s = ⟨a.f0, a.f1, b.f2⟩) ∨ (a.f0 = 1 ∧ b.f0 = 0 ∧ b.f1 = a.f1 ∧ b.f2 = oth a.f2 ∧ Oks k s)

theorem two_eq {k : Int} (hk : 1 ≤ k ∧ k ≤ 3) (a b : Sy) (ha : Oks k a) : ∃ out, Ev (fun q => spec_l5Two.f q a.f0 a.f1 a.f2 b.f0 b.f1 b.f2 k) out ∧ (∀ s, s ∈ out ↔ Two k a b s) ∧ out.length ≤ 73 := by
  obtain ⟨n, hn⟩ : ∃ n : Nat, 2 * k = (n : Int) := ⟨(2 * k).toNat, by omega⟩
  have hw : wrap64 (2 * k) = (n : Int) := by unfold wrap64; omega
  have hn6 : n ≤ 6 := by omega
  have w0 : wrap64 (0 + 1) = 1 := by unfold wrap64; omega
  have w2 : wrap64 (1 + 1) = 2 := by unfold wrap64; omega
  -- the second part
  have part2 : ∀ out : List Sy, out.length ≤ 1 → ∃ out', Ev (fun q => spec_l5Two.j1 q k out a.f0 a.f1 a.f2 b.f0 b.f1 b.f2) out' ∧ (∀ s, s ∈ out' ↔ s ∈ out ∨ (a.f0 = 1 ∧ b.f0 = 0 ∧ b.f1 = a.f1 ∧ b.f2 = oth a.f2 ∧ Oks k s)) ∧ out'.length ≤ 73 := fun out ho => by
    have no : ¬ (a.f0 = 1 ∧ b.f0 = 0 ∧ b.f1 = a.f1 ∧ b.f2 = oth a.f2) → Ev (fun q => spec_l5Two.j2 q k out false) out → ∃ out', Ev (fun q => spec_l5Two.j2 q k out false) out' ∧ (∀ s, s ∈ out' ↔ s ∈ out ∨ (a.f0 = 1 ∧ b.f0 = 0 ∧ b.f1 = a.f1 ∧ b.f2 = oth a.f2 ∧ Oks k s)) ∧ out'.length ≤ 73 := fun hno he =>
      ⟨out, he, fun s => ⟨Or.inl, fun h => h.elim id (fun h => absurd ⟨h.1, h.2.1, h.2.2.1, h.2.2.2.1⟩ hno)⟩, by omega⟩
    have fin : Ev (fun q => spec_l5Two.j2 q k out false) out := Ev.step (f := fun _ => some out) (fun q => by simp only [spec_l5Two.j2]; rfl) (Ev.now _)
    by_cases h1 : a.f0 = 1
    · by_cases h2 : b.f0 = 0
      · by_cases h3 : b.f1 = a.f1
        · by_cases h4 : b.f2 = oth a.f2
          · refine ⟨out ++ row1 n 0 0 n ++ row1 n 1 0 n, ?_, fun s => ?_, ?_⟩
            · refine Ev.step (f := fun q => spec_l5Two.j2 q k out true) (fun q => ?_) (Ev.step (f := fun q => spec_l5Two.l0 q k out 0) (fun q => by simp only [spec_l5Two.j2]; rfl) ?_)
              · simp only [spec_l5Two.j1]
                rw [if_pos h1, if_pos h2, if_pos h3, other_eq hk.2 ha.2.2, Option.bind_some, h4, beq_self_eq_true]
              · refine Ev.step (f := fun q => spec_l5Two.l1 q k out 0 ((0 : Nat) : Int)) (fun q => by simp only [spec_l5Two.l0]; rw [if_pos (by omega)]; rfl) (two_mid hw hn6 0 _ n 0 out (by omega) (by omega) ?_)
                rw [w0]
                refine Ev.step (f := fun q => spec_l5Two.l1 q k (out ++ row1 n 0 0 n) 1 ((0 : Nat) : Int)) (fun q => by simp only [spec_l5Two.l0]; rw [if_pos (by omega)]; rfl) (two_mid hw hn6 1 _ n 0 _ (by rw [List.length_append, row1_length]; have := Nat.mul_le_mul hn6 hn6; omega) (by omega) ?_)
                rw [w2]
                exact Ev.step (f := fun _ => some (out ++ row1 n 0 0 n ++ row1 n 1 0 n)) (fun q => by simp only [spec_l5Two.l0]; rw [if_neg (by omega)]) (Ev.now _)
            · rw [List.mem_append, List.mem_append, mem_row1, mem_row1, or_assoc]
              unfold Oks
              constructor
              · rintro (h | h | h)
                · exact Or.inl h
                · exact Or.inr ⟨h1, h2, h3, h4, Or.inl h.1, by omega, by omega⟩
                · exact Or.inr ⟨h1, h2, h3, h4, Or.inr h.1, by omega, by omega⟩
              · rintro (h | ⟨_, _, _, _, h5, h6, h7⟩)
                · exact Or.inl h
                · rcases h5 with h5 | h5
                  · exact Or.inr (Or.inl ⟨h5, by omega, by omega⟩)
                  · exact Or.inr (Or.inr ⟨h5, by omega, by omega⟩)
            · have := Nat.mul_le_mul hn6 hn6
              rw [List.length_append, List.length_append, row1_length, row1_length]
              omega
          · obtain ⟨o, e, m, l⟩ := no (fun h => h4 h.2.2.2) fin
            refine ⟨o, Ev.step (f := fun q => spec_l5Two.j2 q k out false) (fun q => ?_) e, m, l⟩
            simp only [spec_l5Two.j1]
            rw [if_pos h1, if_pos h2, if_pos h3, other_eq hk.2 ha.2.2, Option.bind_some, beq_eq_false_iff_ne.2 h4]
        · obtain ⟨o, e, m, l⟩ := no (fun h => h3 h.2.2.1) fin
          exact ⟨o, Ev.step (f := fun q => spec_l5Two.j2 q k out false) (fun q => by simp only [spec_l5Two.j1]; rw [if_pos h1, if_pos h2, if_neg h3]) e, m, l⟩
      · obtain ⟨o, e, m, l⟩ := no (fun h => h2 h.2.1) fin
        exact ⟨o, Ev.step (f := fun q => spec_l5Two.j2 q k out false) (fun q => by simp only [spec_l5Two.j1]; rw [if_pos h1, if_neg h2]) e, m, l⟩
    · obtain ⟨o, e, m, l⟩ := no (fun h => h1 h.1) fin
      exact ⟨o, Ev.step (f := fun q => spec_l5Two.j2 q k out false) (fun q => by simp only [spec_l5Two.j1]; rw [if_neg h1]) e, m, l⟩
  unfold spec_l5Two.f Two
  simp only [Option.bind_some]
  by_cases h1 : b.f0 = 0
  · simp only [if_pos h1]
    by_cases h2 : a.f2 = b.f1
    · obtain ⟨o, e, m, l⟩ := part2 [⟨a.f0, a.f1, b.f2⟩] (by simp)
      refine ⟨o, Ev.step (f := fun q => spec_l5Two.j1 q k [⟨a.f0, a.f1, b.f2⟩] a.f0 a.f1 a.f2 b.f0 b.f1 b.f2) (fun q => ?_) e, fun s => ?_, l⟩
      · rw [h2, beq_self_eq_true]
        simp only [spec_l5Two.j0, if_true]
        rw [if_pos (by simp)]
        rfl
      · rw [m, List.mem_singleton]
        exact ⟨fun h => h.imp (fun h => ⟨h1, h2, h⟩) id, fun h => h.imp (fun h => h.2.2) id⟩
    · obtain ⟨o, e, m, l⟩ := part2 [] (by simp)
      refine ⟨o, Ev.step (f := fun q => spec_l5Two.j1 q k [] a.f0 a.f1 a.f2 b.f0 b.f1 b.f2) (fun q => ?_) e, fun s => ?_, l⟩
      · rw [beq_eq_false_iff_ne.2 h2]
        simp only [spec_l5Two.j0]
        rfl
      · rw [m]
        exact ⟨fun h => h.elim (fun h => by cases h) Or.inr, fun h => h.elim (fun h => absurd h.2.1 h2) Or.inr⟩
  · simp only [if_neg h1]
    obtain ⟨o, e, m, l⟩ := part2 [] (by simp)
    refine ⟨o, Ev.step (f := fun q => spec_l5Two.j1 q k [] a.f0 a.f1 a.f2 b.f0 b.f1 b.f2) (fun q => ?_) e, fun s => ?_, l⟩
    · simp only [spec_l5Two.j0]
      rfl
    · rw [m]
      exact ⟨fun h => h.elim (fun h => by cases h) Or.inr, fun h => h.elim (fun h => absurd h.1 h1) Or.inr⟩
end Go.Proofs.Ythnmllkhlinnaaa.Sem
