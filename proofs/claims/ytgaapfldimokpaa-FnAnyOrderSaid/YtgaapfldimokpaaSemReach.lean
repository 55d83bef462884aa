/- Reached states, in plain words: the least set closed under both letters; the row that grows, and the marks; no condition but that each state's letters lead to a state. -/
import Derived.Test.YtgaapfldimokpaaSemBase
import Derived.Test.YtgaapfldimokpaaPAx10
namespace Go.Proofs.Ytgaapfldimokpaa.Sem
open Go.RowKit Go.Proofs.Ytgaapfldimokpaa.PA Go.Proofs.YtgaapfldimokpaaW.PrintWords Go.Proofs.YtgaapfldimokpaaW.PrintLast Go.Proofs.YtgaapfldimokpaaW.PrintMore
set_option linter.unusedVariables false
set_option linter.unusedSimpArgs false

/-- Both letters lead from each state to a state. -/
structure Ste (a b : List Int) (n : Nat) : Prop where
  la : a.length = n
  lb : b.length = n
  n12 : n ≤ 12
  st : ∀ x : Int, 0 ≤ x → x < n → (0 ≤ rd a x ∧ rd a x < n) ∧ (0 ≤ rd b x ∧ rd b x < n)

/-- What is reached from a state. -/
inductive Rch (a b : List Int) (z : Int) : Int → Prop
  | here : Rch a b z z
  | zero {x : Int} : Rch a b z x → Rch a b z (rd a x)
  | one {x : Int} : Rch a b z x → Rch a b z (rd b x)

theorem Rch.range {a b : List Int} {n : Nat} (S : Ste a b n) {z x : Int} (hz : 0 ≤ z ∧ z < n) (h : Rch a b z x) : 0 ≤ x ∧ x < n := by
  induction h with
  | here => exact hz
  | zero _ ih => exact (S.st _ ih.1 ih.2).1
  | one _ ih => exact (S.st _ ih.1 ih.2).2
theorem Rch.trans {a b : List Int} {x y z : Int} (h1 : Rch a b x y) (h2 : Rch a b y z) : Rch a b x z := by
  induction h2 with
  | here => exact h1
  | zero _ ih => exact ih.zero
  | one _ ih => exact ih.one

theorem nodup_le {α : Type} [DecidableEq α] : ∀ (K A : List α), K.Nodup → (∀ x ∈ K, x ∈ A) → K.length ≤ A.length
  | [], A, _, _ => Nat.zero_le _
  | x :: K, A, h, hA => by
    have hx : x ∈ A := hA x (List.mem_cons_self)
    rw [List.nodup_cons] at h
    have := nodup_le K (A.erase x) h.2 (fun y hy => (List.mem_erase_of_ne (fun e => h.1 (by rw [← e]; exact hy))).2 (hA y (List.mem_cons_of_mem _ hy)))
    rw [List.length_erase_of_mem hx] at this
    have := List.length_pos_of_mem hx
    simp only [List.length_cons]
    omega

/-- A new one is put at the end. -/
def addI (l : List Int) (x : Int) : List Int := if x ∈ l then l else l ++ [x]
theorem mem_addI (l : List Int) (x y : Int) : y ∈ addI l x ↔ y ∈ l ∨ y = x := by
  unfold addI
  split
  · rename_i h
    exact ⟨Or.inl, fun h' => h'.elim id (fun e => e ▸ h)⟩
  · simp
theorem addI_pre (l : List Int) (x : Int) : ∃ e, addI l x = l ++ e := by
  unfold addI
  split
  · exact ⟨[], by simp⟩
  · exact ⟨[x], rfl⟩

/-- The row of reached ones, the first of which have been looked at. -/
structure Row (a b : List Int) (z : Int) (out : List Int) (i : Nat) : Prop where
  nd : out.Nodup
  at0 : ∃ e, out = z :: e
  snd : ∀ x ∈ out, Rch a b z x
  done : ∀ x ∈ out.take i, rd a x ∈ out ∧ rd b x ∈ out
  ord : ∀ j (h : j < out.length), 0 < j → ∃ m, ∃ h' : m < out.length, m < j ∧ (out[j] = rd a out[m] ∨ out[j] = rd b out[m])

theorem Row.add {a b : List Int} {z : Int} {out : List Int} {i : Nat} (R : Row a b z out i) (hi : i ≤ out.length) (m : Nat) (hm : m < out.length) {x : Int} (hx : x = rd a out[m] ∨ x = rd b out[m]) : Row a b z (addI out x) i ∧ i ≤ (addI out x).length := by
  unfold addI
  split
  · exact ⟨R, hi⟩
  · rename_i hn
    refine ⟨⟨?_, ?_, ?_, ?_, ?_⟩, by rw [List.length_append]; omega⟩
    · rw [List.nodup_append]
      exact ⟨R.nd, by simp, fun p hp q hq => by rw [List.mem_singleton.1 hq]; exact fun e => hn (e ▸ hp)⟩
    · obtain ⟨e, he⟩ := R.at0
      exact ⟨e ++ [x], by rw [he]; rfl⟩
    · intro y hy
      rcases List.mem_append.1 hy with hy | hy
      · exact R.snd y hy
      · rw [List.mem_singleton.1 hy]
        have hr := R.snd out[m] (List.getElem_mem hm)
        rcases hx with rfl | rfl
        · exact hr.zero
        · exact hr.one
    · intro y hy
      rw [List.take_append_of_le_length hi] at hy
      exact ⟨List.mem_append_left _ (R.done y hy).1, List.mem_append_left _ (R.done y hy).2⟩
    · intro j hj h0
      rw [List.length_append] at hj
      simp only [List.length_singleton] at hj
      by_cases hl : j < out.length
      · obtain ⟨m', hm', h1, h2⟩ := R.ord j hl h0
        refine ⟨m', by rw [List.length_append]; omega, h1, ?_⟩
        rw [List.getElem_append_left hl, List.getElem_append_left hm']
        exact h2
      · refine ⟨m, by rw [List.length_append]; omega, by omega, ?_⟩
        rw [List.getElem_append_right (by omega), List.getElem_append_left hm]
        simpa using hx

theorem Row.full {a b : List Int} {z : Int} {out : List Int} (R : Row a b z out out.length) (x : Int) : x ∈ out ↔ Rch a b z x := by
  refine ⟨R.snd x, fun h => ?_⟩
  have hd := R.done
  rw [List.take_of_length_le (Nat.le_refl _)] at hd
  induction h with
  | here =>
    obtain ⟨e, he⟩ := R.at0
    rw [he]; exact List.mem_cons_self
  | zero _ ih => exact (hd _ ih).1
  | one _ ih => exact (hd _ ih).2

theorem Row.few {a b : List Int} {n : Nat} (S : Ste a b n) {z : Int} (hz : 0 ≤ z ∧ z < n) {out : List Int} {i : Nat} (R : Row a b z out i) : out.length ≤ n := by
  have := nodup_le out ((List.range n).map (fun m : Nat => (m : Int))) R.nd (fun x hx => by
    have := (R.snd x hx).range S hz
    exact List.mem_map.2 ⟨x.toNat, List.mem_range.2 (by omega), by omega⟩)
  rwa [List.length_map, List.length_range] at this

theorem Row.start (a b : List Int) (z : Int) : Row a b z [z] 0 :=
  ⟨by simp, ⟨[], rfl⟩, fun x hx => by rw [List.mem_singleton.1 hx]; exact Rch.here, fun x hx => by simp at hx, fun j hj h0 => by simp at hj; omega⟩

theorem Row.next {a b : List Int} {z : Int} {out out' : List Int} {i : Nat} (R : Row a b z out' i) (hi : i < out.length) (hp : ∃ e, out' = out ++ e) (h1 : rd a out[i] ∈ out') (h2 : rd b out[i] ∈ out') : Row a b z out' (i + 1) := by
  obtain ⟨e, rfl⟩ := hp
  refine ⟨R.nd, R.at0, R.snd, fun x hx => ?_, R.ord⟩
  rw [List.take_succ_eq_append_getElem (by rw [List.length_append]; omega)] at hx
  rcases List.mem_append.1 hx with hx | hx
  · exact R.done x hx
  · rw [List.mem_singleton.1 hx, List.getElem_append_left hi]
    exact ⟨h1, h2⟩

/-! ### marks -/
def upd (a b : List Int) (s : List Int) (j : Nat) : List Int := if rd s j = 1 then (s.set (rd a j).toNat 1).set (rd b j).toNat 1 else s
def pass (a b : List Int) (n : Nat) (s : List Int) : List Int := (List.range n).foldl (upd a b) s
def passes (a b : List Int) (n : Nat) : Nat → List Int → List Int
  | 0, s => s
  | r + 1, s => passes a b n r (pass a b n s)

theorem rd_set (s : List Int) (i : Nat) (hi : i < s.length) (x : Int) (h0 : 0 ≤ x) : rd (s.set i 1) x = if x = (i : Int) then 1 else rd s x := by
  unfold rd
  rw [List.getD_eq_getElem?_getD, List.getD_eq_getElem?_getD, List.getElem?_set]
  by_cases h : x = (i : Int)
  · rw [if_pos h, if_pos (by omega), if_pos hi]
    rfl
  · rw [if_neg h, if_neg (by omega)]

/-- Marks: 0 or 1, one for each state; just reached ones are marked. -/
structure Mk (a b : List Int) (z : Int) (n : Nat) (s : List Int) : Prop where
  len : s.length = n
  bit : ∀ x : Int, 0 ≤ x → x < n → rd s x = 0 ∨ rd s x = 1
  snd : ∀ x : Int, 0 ≤ x → x < n → rd s x = 1 → Rch a b z x

theorem Mk.set1 {a b : List Int} {z : Int} {n : Nat} {s : List Int} (M : Mk a b z n s) {y : Int} (hy : 0 ≤ y ∧ y < n) (hr : Rch a b z y) : Mk a b z n (s.set y.toNat 1) ∧ ∀ x : Int, 0 ≤ x → rd s x = 1 ∨ x = y → rd (s.set y.toNat 1) x = 1 := by
  have hl : y.toNat < s.length := by rw [M.len]; omega
  have hc : ((y.toNat : Nat) : Int) = y := Int.toNat_of_nonneg hy.1
  refine ⟨⟨by rw [List.length_set]; exact M.len, fun x h0 h1 => ?_, fun x h0 h1 h => ?_⟩, fun x h0 h => ?_⟩
  · rw [rd_set s _ hl x h0]
    split
    · exact Or.inr rfl
    · exact M.bit x h0 h1
  · rw [rd_set s _ hl x h0] at h
    split at h
    · rename_i e
      rw [e, hc]; exact hr
    · exact M.snd x h0 h1 h
  · rw [rd_set s _ hl x h0]
    split
    · rfl
    · rename_i e
      exact h.resolve_right (fun e' => e (by rw [e', hc]))

theorem Mk.upd {a b : List Int} {z : Int} {n : Nat} (S : Ste a b n) {s : List Int} (M : Mk a b z n s) (j : Nat) (hj : j < n) :
    Mk a b z n (upd a b s j) ∧ (∀ x : Int, 0 ≤ x → rd s x = 1 → rd (Sem.upd a b s j) x = 1) ∧ (rd s j = 1 → rd (Sem.upd a b s j) (rd a j) = 1 ∧ rd (Sem.upd a b s j) (rd b j) = 1) := by
  unfold Sem.upd
  by_cases h : rd s j = 1
  · rw [if_pos h]
    have hr := M.snd j (by omega) (by omega) h
    have hs := S.st j (by omega) (by omega)
    obtain ⟨M1, k1⟩ := M.set1 hs.1 hr.zero
    obtain ⟨M2, k2⟩ := M1.set1 hs.2 hr.one
    exact ⟨M2, fun x h0 hx => k2 x h0 (Or.inl (k1 x h0 (Or.inl hx))), fun _ => ⟨k2 _ hs.1.1 (Or.inl (k1 _ hs.1.1 (Or.inr rfl))), k2 _ hs.2.1 (Or.inr rfl)⟩⟩
  · rw [if_neg h]
    exact ⟨M, fun _ _ h => h, fun h' => absurd h' h⟩

theorem Mk.fold {a b : List Int} {z : Int} {n : Nat} (S : Ste a b n) : ∀ (l : List Nat), (∀ j ∈ l, j < n) → ∀ {s : List Int}, Mk a b z n s →
    Mk a b z n (l.foldl (Sem.upd a b) s) ∧ (∀ x : Int, 0 ≤ x → rd s x = 1 → rd (l.foldl (Sem.upd a b) s) x = 1) ∧ ∀ j ∈ l, rd s j = 1 → rd (l.foldl (Sem.upd a b) s) (rd a j) = 1 ∧ rd (l.foldl (Sem.upd a b) s) (rd b j) = 1
  | [], _, _, M => ⟨M, fun _ _ h => h, fun _ h => by cases h⟩
  | j :: l, hl, s, M => by
    have hj := hl j List.mem_cons_self
    obtain ⟨M1, k1, d1⟩ := M.upd S j hj
    obtain ⟨M2, k2, d2⟩ := Mk.fold S l (fun i hi => hl i (List.mem_cons_of_mem _ hi)) M1
    have hs := S.st j (by omega) (by omega)
    refine ⟨M2, fun x h0 hx => k2 x h0 (k1 x h0 hx), fun i hi h => ?_⟩
    rcases List.mem_cons.1 hi with rfl | hi
    · exact ⟨k2 _ hs.1.1 (d1 h).1, k2 _ hs.2.1 (d1 h).2⟩
    · exact d2 i hi (k1 i (by omega) h)

theorem Mk.pass {a b : List Int} {z : Int} {n : Nat} (S : Ste a b n) {s : List Int} (M : Mk a b z n s) :
    Mk a b z n (pass a b n s) ∧ (∀ x : Int, 0 ≤ x → rd s x = 1 → rd (Sem.pass a b n s) x = 1) ∧ ∀ x : Int, 0 ≤ x → x < n → rd s x = 1 → rd (Sem.pass a b n s) (rd a x) = 1 ∧ rd (Sem.pass a b n s) (rd b x) = 1 := by
  obtain ⟨M1, k1, d1⟩ := Mk.fold S (List.range n) (fun j hj => List.mem_range.1 hj) M
  refine ⟨M1, k1, fun x h0 h1 h => ?_⟩
  obtain ⟨j, rfl⟩ := Int.eq_ofNat_of_zero_le h0
  exact d1 j (List.mem_range.2 (by omega)) h

/-- After so many passes the first ones of the row are marked. -/
theorem Mk.passes {a b : List Int} {z : Int} {n : Nat} (S : Ste a b n) (hz : 0 ≤ z ∧ z < n) {out : List Int} (R : Row a b z out out.length) (r : Nat) : ∀ (c : Nat) {s : List Int}, Mk a b z n s → (∀ j (h : j < out.length), j ≤ c → rd s out[j] = 1) →
    Mk a b z n (passes a b n r s) ∧ ∀ j (h : j < out.length), j ≤ c + r → rd (Sem.passes a b n r s) out[j] = 1 := by
  induction r with
  | zero => exact fun c s M h => ⟨M, h⟩
  | succ r ih =>
    intro c s M h
    obtain ⟨M1, k1, d1⟩ := M.pass S
    have hr : ∀ j (h : j < out.length), 0 ≤ out[j] ∧ out[j] < n := fun j h => (R.snd _ (List.getElem_mem h)).range S hz
    obtain ⟨M2, h2⟩ := ih (c + 1) M1 (fun j hj hle => by
      by_cases hc : j ≤ c
      · exact k1 _ (hr j hj).1 (h j hj hc)
      · obtain ⟨m, hm, hmj, e⟩ := R.ord j hj (by omega)
        have := d1 _ (hr m hm).1 (hr m hm).2 (h m hm (by omega))
        rcases e with e | e
        · rw [e]; exact this.1
        · rw [e]; exact this.2)
    exact ⟨M2, fun j hj hle => h2 j hj (by omega)⟩

theorem marked {a b : List Int} {n : Nat} (S : Ste a b n) {z : Int} (hz : 0 ≤ z ∧ z < n) {out : List Int} (R : Row a b z out out.length) :
    (passes a b n n ((List.replicate n 0).set z.toNat 1)).length = n ∧ ∀ x : Int, 0 ≤ x → x < n → (Rch a b z x → rd (passes a b n n ((List.replicate n 0).set z.toNat 1)) x = 1) ∧ (¬ Rch a b z x → rd (passes a b n n ((List.replicate n 0).set z.toNat 1)) x = 0) := by
  have hrep : ∀ x : Int, 0 ≤ x → x < n → rd (List.replicate n (0 : Int)) x = 0 := fun x h0 h1 => by
    unfold rd
    rw [List.getD_eq_getElem?_getD, List.getElem?_replicate]
    split <;> rfl
  have M0 : Mk a b z n (List.replicate n 0) := ⟨by simp, fun x h0 h1 => Or.inl (hrep x h0 h1), fun x h0 h1 h => by rw [hrep x h0 h1] at h; exact absurd h (by decide)⟩
  obtain ⟨M1, k1⟩ := M0.set1 hz Rch.here
  obtain ⟨e, he⟩ := R.at0
  obtain ⟨M2, h2⟩ := Mk.passes S hz R n 0 M1 (fun j hj h0 => by
    obtain rfl : j = 0 := by omega
    have : out[0] = z := by simp [he]
    rw [this]
    exact k1 z hz.1 (Or.inr rfl))
  have hf := R.few S hz
  refine ⟨M2.len, fun x h0 h1 => ⟨fun h => ?_, fun h => ?_⟩⟩
  · obtain ⟨j, hj, e⟩ := List.mem_iff_getElem.1 ((R.full x).2 h)
    rw [← e]
    exact h2 j hj (by omega)
  · rcases M2.bit x h0 h1 with h' | h'
    · exact h'
    · exact absurd (M2.snd x h0 h1 h') h
end Go.Proofs.Ytgaapfldimokpaa.Sem
