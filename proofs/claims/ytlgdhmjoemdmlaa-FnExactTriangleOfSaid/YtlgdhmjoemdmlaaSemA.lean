/- Words printed by the print tool, the unused ones left out, merged into one text by mergew.py. -/
import Derived.Laws.BitsLemmas
import Derived.Test.YtlgdhmjoemdmlaaPAx1
import Derived.Test.YtlgdhmjoemdmlaaPAx7
import Derived.Test.YtlgdhmjoemdmlaaPAx14
import Derived.Test.YtlgdhmjoemdmlaaPAx2
import Derived.Test.YtlgdhmjoemdmlaaPAx8
import Derived.Test.YtlgdhmjoemdmlaaPAx12
import Derived.Test.YtlgdhmjoemdmlaaPAx9
import Derived.Test.YtlgdhmjoemdmlaaPAx10
import Derived.Test.YtlgdhmjoemdmlaaPAx3
import Derived.Test.YtlgdhmjoemdmlaaPAx15
import Derived.Test.YtlgdhmjoemdmlaaPAx0
import Derived.Ground.NamesProg
import Derived.Shelf.Strings.Repeat
import Derived.Shelf.Abstract
section
/- Small words on numbers and rounds; no condition but the bounds that they name. -/
namespace Go.Proofs.Ytlgdhmjoemdmlaa.Sem
open Go.RowKit Go.Proofs.Ytlgdhmjoemdmlaa.PA Go.Proofs.YtlgdhmjoemdmlaaW.PrintWords Go.Proofs.YtlgdhmjoemdmlaaW.PrintLast Go.Proofs.YtlgdhmjoemdmlaaW.PrintMore
set_option linter.unusedVariables false
set_option linter.unusedSimpArgs false

theorem w64 {n : Int} (h : -9223372036854775808 ≤ n) (h' : n ≤ 9223372036854775807) : wrap64 n = n := by unfold wrap64; omega

theorem ev1 {α : Type} {g : Nat → Option α} {x : α} (h : ∀ k, g (k + 1) = some x) : Ev g x := ⟨1, fun k hk => by
  obtain ⟨j, rfl⟩ : ∃ j, k = j + 1 := ⟨k - 1, by omega⟩
  exact h j⟩

theorem l1In_eq (n a b : Int) : spec_l1In.f n a b = some (decide (a ≤ n ∧ n ≤ b)) := by
  unfold spec_l1In.f
  by_cases h : n ≥ a
  · rw [if_pos h]; simp; omega
  · rw [if_neg h]; simp; omega
theorem set_mid {α : Type} (p : List α) (z v : α) (r : List α) (i : Nat) (h : p.length = i) : (p ++ z :: r).set i v = p ++ v :: r := by
  subst h
  rw [List.set_append, if_neg (by omega), Nat.sub_self]
  rfl
theorem rd_at (l : List Int) (i : Nat) (h : i < l.length) : rd l (i : Int) = l[i] := by
  unfold rd
  rw [List.getD_eq_getElem?_getD, Int.toNat_natCast, List.getElem?_eq_getElem h]
  rfl
end Go.Proofs.Ytlgdhmjoemdmlaa.Sem

end
section
/- Rows of numbers: copied, compared; in plain words; no condition but a row's length. -/
namespace Go.Proofs.Ytlgdhmjoemdmlaa.Sem
open Go.RowKit Go.Proofs.Ytlgdhmjoemdmlaa.PA Go.Proofs.YtlgdhmjoemdmlaaW.PrintWords Go.Proofs.YtlgdhmjoemdmlaaW.PrintLast Go.Proofs.YtlgdhmjoemdmlaaW.PrintMore
set_option linter.unusedVariables false
set_option linter.unusedSimpArgs false

theorem toIntS_from (l : List Int) (hl : l.length ≤ 1048576) (n : Nat) : ∀ i, i + n = l.length →
    Ev (fun k => laws_toIntS.l0 k l (l.take i ++ List.replicate n 0) (i : Int)) l := by
  induction n with
  | zero =>
    intro i hi
    refine Ev.step (f := fun _ => some l) (fun k => ?_) (Ev.now _)
    simp only [laws_toIntS.l0]
    rw [if_neg (by omega), List.take_of_length_le (by omega), List.replicate_zero, List.append_nil]
  | succ n ih =>
    intro i hi
    have ih := ih (i + 1) (by omega)
    have hlt : i < l.length := by omega
    have hw : wrap64 ((i : Int) + 1) = ((i + 1 : Nat) : Int) := by unfold wrap64; omega
    have hlen : (l.take i).length = i := by rw [List.length_take]; omega
    have hnew : (l.take i ++ List.replicate (n + 1) 0).set i l[i] = l.take (i + 1) ++ List.replicate n 0 := by
      rw [List.replicate_succ, set_mid _ _ _ _ _ hlen, List.take_succ_eq_append_getElem hlt, List.append_assoc]
      rfl
    refine Ev.step (f := fun k => laws_toIntS.l0 k l (l.take (i + 1) ++ List.replicate n 0) ((i + 1 : Nat) : Int)) (fun k => ?_) ih
    simp only [laws_toIntS.l0]
    rw [if_pos (by omega), if_pos (by omega), if_pos (by rw [List.length_append, hlen, List.length_replicate]; omega), rd_at l i hlt, hw, Int.toNat_natCast, hnew]

theorem toIntS_eq (l : List Int) (hl : l.length ≤ 1048576) : Ev (fun k => laws_toIntS.f k l) l := by
  unfold laws_toIntS.f
  simp only [if_pos (show (0 : Int) ≤ (l.length : Int) by omega), Int.toNat_natCast, if_pos (show l.length ≤ 35184372088832 by omega)]
  exact toIntS_from l hl l.length 0 (by omega)

theorem eqIntS_from (l : List Int) (hl : l.length ≤ 1048576) (n : Nat) : ∀ i, i + n = l.length → Ev (fun k => laws_eqIntS.l0 k l l (i : Int)) true := by
  induction n with
  | zero =>
    intro i hi
    refine Ev.step (f := fun _ => some true) (fun k => ?_) (Ev.now _)
    simp only [laws_eqIntS.l0]
    rw [if_neg (by omega)]
  | succ n ih =>
    intro i hi
    have hw : wrap64 ((i : Int) + 1) = ((i + 1 : Nat) : Int) := by unfold wrap64; omega
    refine Ev.step (f := fun k => laws_eqIntS.l0 k l l ((i + 1 : Nat) : Int)) (fun k => ?_) (ih (i + 1) (by omega))
    simp only [laws_eqIntS.l0]
    rw [if_pos (by omega), if_pos (by omega), if_pos (by omega), if_true, hw]

theorem eqIntS_self (l : List Int) (hl : l.length ≤ 1048576) : Ev (fun k => laws_eqIntS.f k l l) true := by
  unfold laws_eqIntS.f
  simp only [if_true]
  exact eqIntS_from l hl l.length 0 (by omega)
end Go.Proofs.Ytlgdhmjoemdmlaa.Sem

end
section
/- Reached states, in plain words: the least set closed under both letters; the row that grows, and the marks; no condition but that each state's letters lead to a state. -/
namespace Go.Proofs.Ytlgdhmjoemdmlaa.Sem
open Go.RowKit Go.Proofs.Ytlgdhmjoemdmlaa.PA Go.Proofs.YtlgdhmjoemdmlaaW.PrintWords Go.Proofs.YtlgdhmjoemdmlaaW.PrintLast Go.Proofs.YtlgdhmjoemdmlaaW.PrintMore
set_option linter.unusedVariables false
set_option linter.unusedSimpArgs false

/-- Both letters lead from each state to a state. -/
structure Ste (a b : List Int) (n : Nat) : Prop where
  la : a.length = n
  lb : b.length = n
  n12 : n ≤ 12
  st : ∀ x : Int, 0 ≤ x → x < n → (0 ≤ rd a x ∧ rd a x < n) ∧ (0 ≤ rd b x ∧ rd b x < n)

/-- What is reached from a state. -/
inductive Rch (a b : List Int) (z : Int) : Int → Prop
  | here : Rch a b z z
  | zero {x : Int} : Rch a b z x → Rch a b z (rd a x)
  | one {x : Int} : Rch a b z x → Rch a b z (rd b x)

theorem Rch.range {a b : List Int} {n : Nat} (S : Ste a b n) {z x : Int} (hz : 0 ≤ z ∧ z < n) (h : Rch a b z x) : 0 ≤ x ∧ x < n := by
  induction h with
  | here => exact hz
  | zero _ ih => exact (S.st _ ih.1 ih.2).1
  | one _ ih => exact (S.st _ ih.1 ih.2).2
theorem Rch.trans {a b : List Int} {x y z : Int} (h1 : Rch a b x y) (h2 : Rch a b y z) : Rch a b x z := by
  induction h2 with
  | here => exact h1
  | zero _ ih => exact ih.zero
  | one _ ih => exact ih.one

theorem nodup_le {α : Type} [DecidableEq α] : ∀ (K A : List α), K.Nodup → (∀ x ∈ K, x ∈ A) → K.length ≤ A.length
  | [], A, _, _ => Nat.zero_le _
  | x :: K, A, h, hA => by
    have hx : x ∈ A := hA x (List.mem_cons_self)
    rw [List.nodup_cons] at h
    have := nodup_le K (A.erase x) h.2 (fun y hy => (List.mem_erase_of_ne (fun e => h.1 (by rw [← e]; exact hy))).2 (hA y (List.mem_cons_of_mem _ hy)))
    rw [List.length_erase_of_mem hx] at this
    have := List.length_pos_of_mem hx
    simp only [List.length_cons]
    omega

/-- A new one is put at the end. -/
def addI (l : List Int) (x : Int) : List Int := if x ∈ l then l else l ++ [x]
theorem mem_addI (l : List Int) (x y : Int) : y ∈ addI l x ↔ y ∈ l ∨ y = x := by
  unfold addI
  split
  · rename_i h
    exact ⟨Or.inl, fun h' => h'.elim id (fun e => e ▸ h)⟩
  · simp
theorem addI_pre (l : List Int) (x : Int) : ∃ e, addI l x = l ++ e := by
  unfold addI
  split
  · exact ⟨[], by simp⟩
  · exact ⟨[x], rfl⟩

/-- The row of reached ones, the first of which have been looked at. -/
structure Row (a b : List Int) (z : Int) (out : List Int) (i : Nat) : Prop where
  nd : out.Nodup
  at0 : ∃ e, out = z :: e
  snd : ∀ x ∈ out, Rch a b z x
  done : ∀ x ∈ out.take i, rd a x ∈ out ∧ rd b x ∈ out
  ord : ∀ j (h : j < out.length), 0 < j → ∃ m, ∃ h' : m < out.length, m < j ∧ (out[j] = rd a out[m] ∨ out[j] = rd b out[m])

theorem Row.add {a b : List Int} {z : Int} {out : List Int} {i : Nat} (R : Row a b z out i) (hi : i ≤ out.length) (m : Nat) (hm : m < out.length) {x : Int} (hx : x = rd a out[m] ∨ x = rd b out[m]) : Row a b z (addI out x) i ∧ i ≤ (addI out x).length := by
  unfold addI
  split
  · exact ⟨R, hi⟩
  · rename_i hn
    refine ⟨⟨?_, ?_, ?_, ?_, ?_⟩, by rw [List.length_append]; omega⟩
    · rw [List.nodup_append]
      exact ⟨R.nd, by simp, fun p hp q hq => by rw [List.mem_singleton.1 hq]; exact fun e => hn (e ▸ hp)⟩
    · obtain ⟨e, he⟩ := R.at0
      exact ⟨e ++ [x], by rw [he]; rfl⟩
    · intro y hy
      rcases List.mem_append.1 hy with hy | hy
      · exact R.snd y hy
      · rw [List.mem_singleton.1 hy]
        have hr := R.snd out[m] (List.getElem_mem hm)
        rcases hx with rfl | rfl
        · exact hr.zero
        · exact hr.one
    · intro y hy
      rw [List.take_append_of_le_length hi] at hy
      exact ⟨List.mem_append_left _ (R.done y hy).1, List.mem_append_left _ (R.done y hy).2⟩
    · intro j hj h0
      rw [List.length_append] at hj
      simp only [List.length_singleton] at hj
      by_cases hl : j < out.length
      · obtain ⟨m', hm', h1, h2⟩ := R.ord j hl h0
        refine ⟨m', by rw [List.length_append]; omega, h1, ?_⟩
        rw [List.getElem_append_left hl, List.getElem_append_left hm']
        exact h2
      · refine ⟨m, by rw [List.length_append]; omega, by omega, ?_⟩
        rw [List.getElem_append_right (by omega), List.getElem_append_left hm]
        simpa using hx

theorem Row.full {a b : List Int} {z : Int} {out : List Int} (R : Row a b z out out.length) (x : Int) : x ∈ out ↔ Rch a b z x := by
  refine ⟨R.snd x, fun h => ?_⟩
  have hd := R.done
  rw [List.take_of_length_le (Nat.le_refl _)] at hd
  induction h with
  | here =>
    obtain ⟨e, he⟩ := R.at0
    rw [he]; exact List.mem_cons_self
  | zero _ ih => exact (hd _ ih).1
  | one _ ih => exact (hd _ ih).2

theorem Row.few {a b : List Int} {n : Nat} (S : Ste a b n) {z : Int} (hz : 0 ≤ z ∧ z < n) {out : List Int} {i : Nat} (R : Row a b z out i) : out.length ≤ n := by
  have := nodup_le out ((List.range n).map (fun m : Nat => (m : Int))) R.nd (fun x hx => by
    have := (R.snd x hx).range S hz
    exact List.mem_map.2 ⟨x.toNat, List.mem_range.2 (by omega), by omega⟩)
  rwa [List.length_map, List.length_range] at this

theorem Row.start (a b : List Int) (z : Int) : Row a b z [z] 0 :=
  ⟨by simp, ⟨[], rfl⟩, fun x hx => by rw [List.mem_singleton.1 hx]; exact Rch.here, fun x hx => by simp at hx, fun j hj h0 => by simp at hj; omega⟩

theorem Row.next {a b : List Int} {z : Int} {out out' : List Int} {i : Nat} (R : Row a b z out' i) (hi : i < out.length) (hp : ∃ e, out' = out ++ e) (h1 : rd a out[i] ∈ out') (h2 : rd b out[i] ∈ out') : Row a b z out' (i + 1) := by
  obtain ⟨e, rfl⟩ := hp
  refine ⟨R.nd, R.at0, R.snd, fun x hx => ?_, R.ord⟩
  rw [List.take_succ_eq_append_getElem (by rw [List.length_append]; omega)] at hx
  rcases List.mem_append.1 hx with hx | hx
  · exact R.done x hx
  · rw [List.mem_singleton.1 hx, List.getElem_append_left hi]
    exact ⟨h1, h2⟩

/-! ### marks -/
def upd (a b : List Int) (s : List Int) (j : Nat) : List Int := if rd s j = 1 then (s.set (rd a j).toNat 1).set (rd b j).toNat 1 else s
def pass (a b : List Int) (n : Nat) (s : List Int) : List Int := (List.range n).foldl (upd a b) s
def passes (a b : List Int) (n : Nat) : Nat → List Int → List Int
  | 0, s => s
  | r + 1, s => passes a b n r (pass a b n s)

theorem rd_set (s : List Int) (i : Nat) (hi : i < s.length) (x : Int) (h0 : 0 ≤ x) : rd (s.set i 1) x = if x = (i : Int) then 1 else rd s x := by
  unfold rd
  rw [List.getD_eq_getElem?_getD, List.getD_eq_getElem?_getD, List.getElem?_set]
  by_cases h : x = (i : Int)
  · rw [if_pos h, if_pos (by omega), if_pos hi]
    rfl
  · rw [if_neg h, if_neg (by omega)]

/-- Marks: 0 or 1, one for each state; just reached ones are marked. -/
structure Mk (a b : List Int) (z : Int) (n : Nat) (s : List Int) : Prop where
  len : s.length = n
  bit : ∀ x : Int, 0 ≤ x → x < n → rd s x = 0 ∨ rd s x = 1
  snd : ∀ x : Int, 0 ≤ x → x < n → rd s x = 1 → Rch a b z x

theorem Mk.set1 {a b : List Int} {z : Int} {n : Nat} {s : List Int} (M : Mk a b z n s) {y : Int} (hy : 0 ≤ y ∧ y < n) (hr : Rch a b z y) : Mk a b z n (s.set y.toNat 1) ∧ ∀ x : Int, 0 ≤ x → rd s x = 1 ∨ x = y → rd (s.set y.toNat 1) x = 1 := by
  have hl : y.toNat < s.length := by rw [M.len]; omega
  have hc : ((y.toNat : Nat) : Int) = y := Int.toNat_of_nonneg hy.1
  refine ⟨⟨by rw [List.length_set]; exact M.len, fun x h0 h1 => ?_, fun x h0 h1 h => ?_⟩, fun x h0 h => ?_⟩
  · rw [rd_set s _ hl x h0]
    split
    · exact Or.inr rfl
    · exact M.bit x h0 h1
  · rw [rd_set s _ hl x h0] at h
    split at h
    · rename_i e
      rw [e, hc]; exact hr
    · exact M.snd x h0 h1 h
  · rw [rd_set s _ hl x h0]
    split
    · rfl
    · rename_i e
      exact h.resolve_right (fun e' => e (by rw [e', hc]))

theorem Mk.upd {a b : List Int} {z : Int} {n : Nat} (S : Ste a b n) {s : List Int} (M : Mk a b z n s) (j : Nat) (hj : j < n) :
    Mk a b z n (upd a b s j) ∧ (∀ x : Int, 0 ≤ x → rd s x = 1 → rd (Sem.upd a b s j) x = 1) ∧ (rd s j = 1 → rd (Sem.upd a b s j) (rd a j) = 1 ∧ rd (Sem.upd a b s j) (rd b j) = 1) := by
  unfold Sem.upd
  by_cases h : rd s j = 1
  · rw [if_pos h]
    have hr := M.snd j (by omega) (by omega) h
    have hs := S.st j (by omega) (by omega)
    obtain ⟨M1, k1⟩ := M.set1 hs.1 hr.zero
    obtain ⟨M2, k2⟩ := M1.set1 hs.2 hr.one
    exact ⟨M2, fun x h0 hx => k2 x h0 (Or.inl (k1 x h0 (Or.inl hx))), fun _ => ⟨k2 _ hs.1.1 (Or.inl (k1 _ hs.1.1 (Or.inr rfl))), k2 _ hs.2.1 (Or.inr rfl)⟩⟩
  · rw [if_neg h]
    exact ⟨M, fun _ _ h => h, fun h' => absurd h' h⟩

theorem Mk.fold {a b : List Int} {z : Int} {n : Nat} (S : Ste a b n) : ∀ (l : List Nat), (∀ j ∈ l, j < n) → ∀ {s : List Int}, Mk a b z n s →
    Mk a b z n (l.foldl (Sem.upd a b) s) ∧ (∀ x : Int, 0 ≤ x → rd s x = 1 → rd (l.foldl (Sem.upd a b) s) x = 1) ∧ ∀ j ∈ l, rd s j = 1 → rd (l.foldl (Sem.upd a b) s) (rd a j) = 1 ∧ rd (l.foldl (Sem.upd a b) s) (rd b j) = 1
  | [], _, _, M => ⟨M, fun _ _ h => h, fun _ h => by cases h⟩
  | j :: l, hl, s, M => by
    have hj := hl j List.mem_cons_self
    obtain ⟨M1, k1, d1⟩ := M.upd S j hj
    obtain ⟨M2, k2, d2⟩ := Mk.fold S l (fun i hi => hl i (List.mem_cons_of_mem _ hi)) M1
    have hs := S.st j (by omega) (by omega)
    refine ⟨M2, fun x h0 hx => k2 x h0 (k1 x h0 hx), fun i hi h => ?_⟩
    rcases List.mem_cons.1 hi with rfl | hi
    · exact ⟨k2 _ hs.1.1 (d1 h).1, k2 _ hs.2.1 (d1 h).2⟩
    · exact d2 i hi (k1 i (by omega) h)

theorem Mk.pass {a b : List Int} {z : Int} {n : Nat} (S : Ste a b n) {s : List Int} (M : Mk a b z n s) :
    Mk a b z n (pass a b n s) ∧ (∀ x : Int, 0 ≤ x → rd s x = 1 → rd (Sem.pass a b n s) x = 1) ∧ ∀ x : Int, 0 ≤ x → x < n → rd s x = 1 → rd (Sem.pass a b n s) (rd a x) = 1 ∧ rd (Sem.pass a b n s) (rd b x) = 1 := by
  obtain ⟨M1, k1, d1⟩ := Mk.fold S (List.range n) (fun j hj => List.mem_range.1 hj) M
  refine ⟨M1, k1, fun x h0 h1 h => ?_⟩
  obtain ⟨j, rfl⟩ := Int.eq_ofNat_of_zero_le h0
  exact d1 j (List.mem_range.2 (by omega)) h

/-- After so many passes the first ones of the row are marked. -/
theorem Mk.passes {a b : List Int} {z : Int} {n : Nat} (S : Ste a b n) (hz : 0 ≤ z ∧ z < n) {out : List Int} (R : Row a b z out out.length) (r : Nat) : ∀ (c : Nat) {s : List Int}, Mk a b z n s → (∀ j (h : j < out.length), j ≤ c → rd s out[j] = 1) →
    Mk a b z n (passes a b n r s) ∧ ∀ j (h : j < out.length), j ≤ c + r → rd (Sem.passes a b n r s) out[j] = 1 := by
  induction r with
  | zero => exact fun c s M h => ⟨M, h⟩
  | succ r ih =>
    intro c s M h
    obtain ⟨M1, k1, d1⟩ := M.pass S
    have hr : ∀ j (h : j < out.length), 0 ≤ out[j] ∧ out[j] < n := fun j h => (R.snd _ (List.getElem_mem h)).range S hz
    obtain ⟨M2, h2⟩ := ih (c + 1) M1 (fun j hj hle => by
      by_cases hc : j ≤ c
      · exact k1 _ (hr j hj).1 (h j hj hc)
      · obtain ⟨m, hm, hmj, e⟩ := R.ord j hj (by omega)
        have := d1 _ (hr m hm).1 (hr m hm).2 (h m hm (by omega))
        rcases e with e | e
        · rw [e]; exact this.1
        · rw [e]; exact this.2)
    exact ⟨M2, fun j hj hle => h2 j hj (by omega)⟩

theorem marked {a b : List Int} {n : Nat} (S : Ste a b n) {z : Int} (hz : 0 ≤ z ∧ z < n) {out : List Int} (R : Row a b z out out.length) :
    (passes a b n n ((List.replicate n 0).set z.toNat 1)).length = n ∧ ∀ x : Int, 0 ≤ x → x < n → (Rch a b z x → rd (passes a b n n ((List.replicate n 0).set z.toNat 1)) x = 1) ∧ (¬ Rch a b z x → rd (passes a b n n ((List.replicate n 0).set z.toNat 1)) x = 0) := by
  have hrep : ∀ x : Int, 0 ≤ x → x < n → rd (List.replicate n (0 : Int)) x = 0 := fun x h0 h1 => by
    unfold rd
    rw [List.getD_eq_getElem?_getD, List.getElem?_replicate]
    split <;> rfl
  have M0 : Mk a b z n (List.replicate n 0) := ⟨by simp, fun x h0 h1 => Or.inl (hrep x h0 h1), fun x h0 h1 h => by rw [hrep x h0 h1] at h; exact absurd h (by decide)⟩
  obtain ⟨M1, k1⟩ := M0.set1 hz Rch.here
  obtain ⟨e, he⟩ := R.at0
  obtain ⟨M2, h2⟩ := Mk.passes S hz R n 0 M1 (fun j hj h0 => by
    obtain rfl : j = 0 := by omega
    have : out[0] = z := by simp [he]
    rw [this]
    exact k1 z hz.1 (Or.inr rfl))
  have hf := R.few S hz
  refine ⟨M2.len, fun x h0 h1 => ⟨fun h => ?_, fun h => ?_⟩⟩
  · obtain ⟨j, hj, e⟩ := List.mem_iff_getElem.1 ((R.full x).2 h)
    rw [← e]
    exact h2 j hj (by omega)
  · rcases M2.bit x h0 h1 with h' | h'
    · exact h'
    · exact absurd (M2.snd x h0 h1 h') h
end Go.Proofs.Ytlgdhmjoemdmlaa.Sem

end
section
/- What a machine is, in plain words: both programs' answers; no condition but a row's length. -/
namespace Go.Proofs.Ytlgdhmjoemdmlaa.Sem
open Go.RowKit Go.Proofs.Ytlgdhmjoemdmlaa.PA Go.Proofs.YtlgdhmjoemdmlaaW.PrintWords Go.Proofs.YtlgdhmjoemdmlaaW.PrintLast Go.Proofs.YtlgdhmjoemdmlaaW.PrintMore
set_option linter.unusedVariables false
set_option linter.unusedSimpArgs false

/-- One state's entries are right. -/
def StOk (a b c : List Int) (i : Nat) : Prop := (0 ≤ rd a i ∧ rd a i < a.length) ∧ (0 ≤ rd b i ∧ rd b i < a.length) ∧ (0 ≤ rd c i ∧ rd c i ≤ 1)
instance (a b c : List Int) (i : Nat) : Decidable (StOk a b c i) := by unfold StOk; infer_instance
/-- A machine: 1 to 12 states, each right. -/
def MachOk (a b c : List Int) : Prop := (1 ≤ a.length ∧ a.length ≤ 12 ∧ b.length = a.length ∧ c.length = a.length) ∧ ∀ i, i < a.length → StOk a b c i
instance (a b c : List Int) : Decidable (MachOk a b c) := by unfold MachOk; infer_instance

theorem specMach_from (a b c : List Int) (hl : a.length ≤ 1048577) (hb : b.length = a.length) (hc : c.length = a.length) (n : Nat) : ∀ i, i + n = a.length → (∀ j, j < i → StOk a b c j) →
    Ev (fun k => spec_MachineOk.l0 k (i : Int) a b c) (decide (MachOk a b c)) := by
  induction n with
  | zero =>
    intro i hi hp
    refine Ev.step (f := fun _ => some (decide (MachOk a b c))) (fun k => ?_) (Ev.now _)
    simp only [spec_MachineOk.l0]
    rw [if_neg (by omega), l1In_eq, Option.bind_some, if_pos (show (b.length : Int) = a.length by omega), hc, beq_self_eq_true]
    by_cases h : 1 ≤ (a.length : Int) ∧ (a.length : Int) ≤ 12
    · have hm : MachOk a b c := ⟨⟨by omega, by omega, hb, hc⟩, fun j hj => hp j (by omega)⟩
      rw [decide_eq_true h, if_pos rfl, decide_eq_true hm]
    · have hm : ¬MachOk a b c := fun h' => h ⟨by have := h'.1.1; omega, by have := h'.1.2.1; omega⟩
      rw [decide_eq_false h, decide_eq_false hm, if_neg (by decide)]
  | succ n ih =>
    intro i hi hp
    have hw : wrap64 ((i : Int) + 1) = ((i + 1 : Nat) : Int) := by unfold wrap64; omega
    have hw1 : wrap64 ((a.length : Int) - 1) = (a.length : Int) - 1 := by unfold wrap64; omega
    by_cases h : StOk a b c i
    · refine Ev.step (f := fun k => spec_MachineOk.l0 k ((i + 1 : Nat) : Int) a b c) (fun k => ?_) (ih (i + 1) (by omega) (fun j hj => by
        rcases Nat.lt_or_eq_of_le (Nat.lt_succ_iff.1 hj) with h' | rfl
        · exact hp j h'
        · exact h))
      obtain ⟨h1, h2, h3⟩ := h
      simp only [spec_MachineOk.l0]
      rw [if_pos (by omega), if_pos (by omega), if_pos (by omega), if_pos (by omega), hw1, l1In_eq, l1In_eq, l1In_eq, decide_eq_true (show 0 ≤ rd a i ∧ rd a i ≤ (a.length : Int) - 1 by omega), decide_eq_true (show 0 ≤ rd b i ∧ rd b i ≤ (a.length : Int) - 1 by omega), decide_eq_true h3]
      simp only [Option.bind_some, if_true]
      rw [if_pos (by omega), if_pos (by omega), hw]
    · have hm : ¬MachOk a b c := fun h' => h (h'.2 i (by omega))
      rw [decide_eq_false hm]
      refine Ev.step (f := fun _ => some false) (fun k => ?_) (Ev.now _)
      simp only [spec_MachineOk.l0]
      rw [if_pos (by omega), if_pos (by omega), if_pos (by omega), if_pos (by omega), hw1, l1In_eq, l1In_eq, l1In_eq]
      simp only [Option.bind_some]
      rw [if_pos (show (i : Int) < b.length by omega), if_pos (show (i : Int) < c.length by omega)]
      by_cases h1 : 0 ≤ rd a i ∧ rd a i ≤ (a.length : Int) - 1
      · rw [decide_eq_true h1, if_pos rfl]
        by_cases h2 : 0 ≤ rd b i ∧ rd b i ≤ (a.length : Int) - 1
        · rw [decide_eq_true h2, if_pos rfl, decide_eq_false (fun h3 => h ⟨by omega, by omega, h3⟩), if_neg (by decide)]
        · rw [decide_eq_false h2, if_neg (by decide)]
      · rw [decide_eq_false h1, if_neg (by decide)]

theorem spec_MachineOk_eq (a b c : List Int) (hl : a.length ≤ 1048577) : Ev (fun k => spec_MachineOk.f k a b c) (decide (MachOk a b c)) := by
  unfold spec_MachineOk.f
  by_cases hb : b.length = a.length
  · by_cases hc : c.length = a.length
    · exact specMach_from a b c hl hb hc a.length 0 (by omega) (fun j hj => absurd hj (by omega))
    · have hm : ¬MachOk a b c := fun h' => hc h'.1.2.2.2
      rw [decide_eq_false hm]
      refine Ev.step (f := fun _ => some false) (fun k => ?_) (Ev.now _)
      simp only [spec_MachineOk.l0]
      by_cases h0 : (0 : Int) < a.length
      · rw [if_pos h0, if_pos (by omega), if_neg (by omega)]
      · rw [if_neg h0, l1In_eq, Option.bind_some, decide_eq_false (by omega), if_neg (by decide)]
  · have hm : ¬MachOk a b c := fun h' => hb h'.1.2.2.1
    rw [decide_eq_false hm]
    refine Ev.step (f := fun _ => some false) (fun k => ?_) (Ev.now _)
    simp only [spec_MachineOk.l0]
    by_cases h0 : (0 : Int) < a.length
    · rw [if_pos h0, if_neg (by omega)]
    · rw [if_neg h0, l1In_eq, Option.bind_some, decide_eq_false (by omega), if_neg (by decide)]

theorem implMach_from (a b c : List Int) (hl : c.length ≤ 12) (hl1 : 1 ≤ c.length) (hb : b.length = c.length) (ha : a.length = c.length) (n : Nat) : ∀ i, i + n = c.length → (∀ j, j < i → StOk a b c j) →
    Ev (fun k => impl_isMachine.l0 k (c.length : Int) (c.length : Int) (i : Int) a b c) (decide (MachOk a b c)) := by
  induction n with
  | zero =>
    intro i hi hp
    have hm : MachOk a b c := ⟨⟨by omega, by omega, by omega, by omega⟩, fun j hj => hp j (by omega)⟩
    rw [decide_eq_true hm]
    refine Ev.step (f := fun _ => some true) (fun k => ?_) (Ev.now _)
    simp only [impl_isMachine.l0]
    rw [if_neg (by omega)]
  | succ n ih =>
    intro i hi hp
    have hw : wrap64 ((i : Int) + 1) = ((i + 1 : Nat) : Int) := by unfold wrap64; omega
    by_cases h : StOk a b c i
    · refine Ev.step (f := fun k => impl_isMachine.l0 k (c.length : Int) (c.length : Int) ((i + 1 : Nat) : Int) a b c) (fun k => ?_) (ih (i + 1) (by omega) (fun j hj => by
        rcases Nat.lt_or_eq_of_le (Nat.lt_succ_iff.1 hj) with h' | rfl
        · exact hp j h'
        · exact h))
      obtain ⟨h1, h2, h3⟩ := h
      simp only [impl_isMachine.l0]
      rw [if_pos (by omega), if_pos (by omega), if_pos (by omega), if_neg (by omega), if_neg (by omega), if_pos (by omega), if_neg (by omega), if_neg (by omega), if_pos (by omega), hw]
      by_cases h0 : rd c i = 0
      · rw [if_pos h0]
      · rw [if_neg h0, if_pos (by omega)]
    · have hm : ¬MachOk a b c := fun h' => h (h'.2 i (by omega))
      rw [decide_eq_false hm]
      refine Ev.step (f := fun _ => some false) (fun k => ?_) (Ev.now _)
      simp only [impl_isMachine.l0]
      rw [if_pos (by omega), if_pos (by omega), if_pos (by omega)]
      by_cases h1 : rd a i < 0
      · rw [if_pos h1]
      · rw [if_neg h1]
        by_cases h2 : rd a i ≥ (c.length : Int)
        · rw [if_pos h2]
        · rw [if_neg h2, if_pos (by omega)]
          by_cases h3 : rd b i < 0
          · rw [if_pos h3]
          · rw [if_neg h3]
            by_cases h4 : rd b i ≥ (c.length : Int)
            · rw [if_pos h4]
            · rw [if_neg h4, if_pos (by omega)]
              by_cases h5 : rd c i = 0
              · exact absurd ⟨⟨by omega, by omega⟩, ⟨by omega, by omega⟩, ⟨by omega, by omega⟩⟩ h
              · rw [if_neg h5]
                by_cases h6 : rd c i = 1
                · exact absurd ⟨⟨by omega, by omega⟩, ⟨by omega, by omega⟩, ⟨by omega, by omega⟩⟩ h
                · rw [if_neg h6]

theorem impl_isMachine_eq (a b c : List Int) : Ev (fun k => impl_isMachine.f k a b c) (decide (MachOk a b c)) := by
  unfold impl_isMachine.f
  have no (h : ¬MachOk a b c) : Ev (fun k => impl_isMachine.j0 k (c.length : Int) true a b c) (decide (MachOk a b c)) := by
    rw [decide_eq_false h]
    exact Ev.step (f := fun _ => some false) (fun k => by simp only [impl_isMachine.j0, if_true]) (Ev.now _)
  by_cases h1 : (c.length : Int) < 1
  · simp only [if_pos h1]; exact no (fun h => by have := h.1; omega)
  · simp only [if_neg h1]
    by_cases h2 : (c.length : Int) > 12
    · simp only [if_pos h2]; exact no (fun h => by have := h.1; omega)
    · simp only [if_neg h2]
      by_cases h3 : (a.length : Int) = c.length
      · simp only [if_pos h3]
        by_cases h4 : (b.length : Int) = c.length
        · refine Ev.step (f := fun k => impl_isMachine.l0 k (c.length : Int) (c.length : Int) ((0 : Nat) : Int) a b c) (fun k => ?_) (implMach_from a b c (by omega) (by omega) (by omega) (by omega) c.length 0 (by omega) (fun j hj => absurd hj (by omega)))
          rw [h4, bne_self_eq_false]
          simp only [impl_isMachine.j0, Bool.false_eq_true, if_false]
          rfl
        · have : ((b.length : Int) != c.length) = true := bne_iff_ne.2 h4
          rw [this]
          exact no (fun h => by have := h.1; omega)
      · simp only [if_neg h3]; exact no (fun h => by have := h.1; omega)

end Go.Proofs.Ytlgdhmjoemdmlaa.Sem

end
section
/- The state of a machine after a text, in plain words; no condition but the rows' and the text's lengths. -/
namespace Go.Proofs.Ytlgdhmjoemdmlaa.Sem
open Go.RowKit Go.Proofs.Ytlgdhmjoemdmlaa.PA Go.Proofs.YtlgdhmjoemdmlaaW.PrintWords Go.Proofs.YtlgdhmjoemdmlaaW.PrintLast Go.Proofs.YtlgdhmjoemdmlaaW.PrintMore
set_option linter.unusedVariables false
set_option linter.unusedSimpArgs false

/-- The state after the letters. -/
def stateOf (a b : List Int) : List UInt8 → Int → Int
  | [], s => s
  | x :: r, s => stateOf a b r (if x = 48 then rd a s else rd b s)
theorem bt_list (s : ByteArray) (i : Nat) (h : i < s.data.toList.length) : bt s (i : Int) = (s.data.toList[i].toNat : Int) := by
  unfold bt
  have hlt : (i : Int).toNat < s.size := by rw [Int.toNat_natCast]; rw [Array.length_toList] at h; exact h
  rw [dif_pos hlt]
  have e2 : s[(i : Int).toNat]'hlt = s.data.toList[i] := by
    rw [Array.getElem_toList]
    rfl
  rw [e2]
theorem size_list (s : ByteArray) : s.size = s.data.toList.length := by rw [Array.length_toList]; rfl
theorem u8_48 (x : UInt8) : ((x.toNat : Int) = 48) ↔ x = 48 := by
  constructor
  · intro h; apply UInt8.toNat_inj.1; show x.toNat = 48; omega
  · rintro rfl; rfl
theorem u8_49 (x : UInt8) : ((x.toNat : Int) = 49) ↔ x = 49 := by
  constructor
  · intro h; apply UInt8.toNat_inj.1; show x.toNat = 49; omega
  · rintro rfl; rfl

theorem mach_step {a b c : List Int} (h : MachOk a b c) {st : Int} (h0 : 0 ≤ st) (h1 : st < a.length) (x : UInt8) : 0 ≤ (if x = 48 then rd a st else rd b st) ∧ (if x = 48 then rd a st else rd b st) < a.length := by
  have := h.2 st.toNat (by omega)
  unfold StOk at this
  rw [show ((st.toNat : Nat) : Int) = st by omega] at this
  split
  · exact this.1
  · exact this.2.1
theorem state_range {a b c : List Int} (h : MachOk a b c) : ∀ (l : List UInt8) (st : Int), 0 ≤ st → st < a.length → 0 ≤ stateOf a b l st ∧ stateOf a b l st < a.length
  | [], st, h0, h1 => ⟨h0, h1⟩
  | x :: r, st, h0, h1 => by
    have := mach_step h h0 h1 x
    exact state_range h r _ this.1 this.2

theorem impl_state_from {a b c : List Int} (h : MachOk a b c) (s : ByteArray) (hs : s.size ≤ 2000000) (d : Nat) : ∀ (i : Nat) (st : Int), i + d = s.data.toList.length → 0 ≤ st → st < a.length → Ev (fun k => impl_Machine_after.l0 k s st (s.size : Int) (i : Int) a b c) (stateOf a b (s.data.toList.drop i) st) := by
  have hz := size_list s
  have hb' := h.1.2.2.1
  induction d with
  | zero =>
    intro i st hi _ _
    rw [List.drop_of_length_le (by omega)]
    refine Ev.step (f := fun _ => some st) (fun k => ?_) (Ev.now _)
    simp only [impl_Machine_after.l0]
    rw [if_neg (by omega)]
  | succ d ih =>
    intro i st hi h0 h1
    have hlt : i < s.data.toList.length := by omega
    have g1 : (i : Int) < (s.size : Int) := by omega
    have g0 : (0 : Int) ≤ (i : Int) := by omega
    have g2 : st < (b.length : Int) := by omega
    have hb := bt_list s i hlt
    have hw : wrap64 ((i : Int) + 1) = ((i + 1 : Nat) : Int) := by unfold wrap64; omega
    rw [List.drop_eq_getElem_cons hlt]
    have hst := mach_step h h0 h1 s.data.toList[i]
    have ih := ih (i + 1) _ (by omega) hst.1 hst.2
    generalize s.data.toList[i] = x at hb ih ⊢
    show Ev _ (stateOf a b (s.data.toList.drop (i + 1)) (if x = 48 then rd a st else rd b st))
    by_cases hx : x = 48
    · rw [if_pos hx] at ih ⊢
      refine Ev.step (f := fun k => impl_Machine_after.l0 k s (rd a st) (s.size : Int) ((i + 1 : Nat) : Int) a b c) (fun k => ?_) ih
      simp only [impl_Machine_after.l0]
      rw [if_pos g1, if_pos g0, if_pos g1, hb, if_pos ((u8_48 x).2 hx), if_pos h0, if_pos h1, hw]
    · rw [if_neg hx] at ih ⊢
      refine Ev.step (f := fun k => impl_Machine_after.l0 k s (rd b st) (s.size : Int) ((i + 1 : Nat) : Int) a b c) (fun k => ?_) ih
      simp only [impl_Machine_after.l0]
      rw [if_pos g1, if_pos g0, if_pos g1, hb, if_neg (fun e => hx ((u8_48 x).1 e)), if_pos h0, if_pos g2, hw]

end Go.Proofs.Ytlgdhmjoemdmlaa.Sem

end
section
/- Reached states: both programs' loops, in plain words; no condition but that each state's letters lead to a state. -/
namespace Go.Proofs.Ytlgdhmjoemdmlaa.Sem
open Go.RowKit Go.Proofs.Ytlgdhmjoemdmlaa.PA Go.Proofs.YtlgdhmjoemdmlaaW.PrintWords Go.Proofs.YtlgdhmjoemdmlaaW.PrintLast Go.Proofs.YtlgdhmjoemdmlaaW.PrintMore
set_option linter.unusedVariables false
set_option linter.unusedSimpArgs false

theorem rdN (l : List Int) (i : Nat) (h : i < l.length) : rd l (i : Int) = l[i] := by
  unfold rd
  rw [List.getD_eq_getElem?_getD, Int.toNat_natCast, List.getElem?_eq_getElem h]
  rfl
theorem w1 (i : Nat) (h : i < 9223372036854775807) : wrap64 ((i : Int) + 1) = ((i + 1 : Nat) : Int) := by unfold wrap64; omega

theorem index_from (l : List Int) (x : Int) (hl : l.length ≤ 1000000) (d : Nat) : ∀ i, i + d = l.length → ∃ r, Ev (fun k => slices_Index_int_int.l0 k l x (l.length : Int) (i : Int)) r ∧ (decide (r ≥ 0) = decide (x ∈ l.drop i)) := by
  induction d with
  | zero =>
    intro i hi
    refine ⟨-1, Ev.step (f := fun _ => some (-1)) (fun k => ?_) (Ev.now _), ?_⟩
    · simp only [slices_Index_int_int.l0]
      rw [if_neg (by omega)]
    · rw [List.drop_of_length_le (by omega)]; simp
  | succ d ih =>
    intro i hi
    have hlt : i < l.length := by omega
    rw [List.drop_eq_getElem_cons hlt]
    by_cases h : x = l[i]
    · refine ⟨(i : Int), Ev.step (f := fun _ => some (i : Int)) (fun k => ?_) (Ev.now _), ?_⟩
      · simp only [slices_Index_int_int.l0]
        rw [if_pos (by omega), if_pos (by omega), if_pos (by omega), rdN l i hlt, if_pos h]
      · rw [decide_eq_true (show (i : Int) ≥ 0 by omega), decide_eq_true (show x ∈ l[i] :: l.drop (i + 1) by rw [h]; exact List.mem_cons_self)]
    · obtain ⟨r, hr, hd⟩ := ih (i + 1) (by omega)
      refine ⟨r, Ev.step (f := fun k => slices_Index_int_int.l0 k l x (l.length : Int) ((i + 1 : Nat) : Int)) (fun k => ?_) hr, ?_⟩
      · simp only [slices_Index_int_int.l0]
        rw [if_pos (by omega), if_pos (by omega), if_pos (by omega), rdN l i hlt, if_neg h, w1 i (by omega)]
      · rw [hd]
        refine decide_eq_decide.2 ⟨fun h' => List.mem_cons_of_mem _ h', fun h' => ?_⟩
        rcases List.mem_cons.1 h' with e | e
        · exact absurd e h
        · exact e

theorem contains_eq (l : List Int) (x : Int) (hl : l.length ≤ 1000000) : Ev (fun k => slices_Contains_int_int.f k l x) (decide (x ∈ l)) := by
  obtain ⟨r, hr, hd⟩ := index_from l x hl l.length 0 (by omega)
  rw [List.drop_zero] at hd
  unfold slices_Contains_int_int.f slices_Index_int_int.f
  refine Ev.bind hr ?_
  rw [hd]
  exact Ev.now _

theorem reached_two (out : List Int) (i : Nat) (u v : Int) (a b c : List Int) (hl : out.length ≤ 100000) (r : List Int) (h : Ev (fun k => impl_Machine_reached.l0 k (addI (addI out u) v) (wrap64 ((i : Int) + 1)) a b c) r) :
    Ev (fun k => impl_Machine_reached.l1 k out (i : Int) [u, v] (([u, v] : List Int).length : Int) 0 a b c) r := by
  have hl1 : (addI out u).length ≤ 100001 := by
    unfold addI
    split
    · omega
    · rw [List.length_append, List.length_singleton]; omega
  have w0 : wrap64 (0 + 1) = 1 := by unfold wrap64; omega
  have w2 : wrap64 (1 + 1) = 2 := by unfold wrap64; omega
  have end_ : ∀ o : List Int, Ev (fun k => impl_Machine_reached.l0 k o (wrap64 ((i : Int) + 1)) a b c) r → Ev (fun k => impl_Machine_reached.l1 k o (i : Int) [u, v] 2 2 a b c) r := fun o ho =>
    Ev.step (f := fun k => impl_Machine_reached.l0 k o (wrap64 ((i : Int) + 1)) a b c) (fun k => by simp only [impl_Machine_reached.l1]; rw [if_neg (by omega)]) ho
  have two : ∀ o : List Int, o.length ≤ 100001 → Ev (fun k => impl_Machine_reached.l0 k (addI o v) (wrap64 ((i : Int) + 1)) a b c) r → Ev (fun k => impl_Machine_reached.l1 k o (i : Int) [u, v] 2 1 a b c) r := fun o hol ho => by
    have hc := contains_eq o v (by omega)
    refine Ev.step (f := fun k => (slices_Contains_int_int.f k o v).bind fun t => if t = true then impl_Machine_reached.l1 k o (i : Int) [u, v] 2 2 a b c else if o.length < 17592186044416 then impl_Machine_reached.l1 k (o ++ [v]) (i : Int) [u, v] 2 2 a b c else none) (fun k => ?_) (Ev.bind hc ?_)
    · simp only [impl_Machine_reached.l1]
      rw [if_pos (by omega), if_pos (by omega), if_pos (by simp), w2]
      rfl
    · by_cases hm : v ∈ o
      · rw [decide_eq_true hm]
        simp only [if_true]
        rw [addI, if_pos hm] at ho
        exact end_ o ho
      · rw [decide_eq_false hm]
        simp only [Bool.false_eq_true, if_false, if_pos (show o.length < 17592186044416 by omega)]
        rw [addI, if_neg hm] at ho
        exact end_ _ ho
  have hc := contains_eq out u (by omega)
  refine Ev.step (f := fun k => (slices_Contains_int_int.f k out u).bind fun t => if t = true then impl_Machine_reached.l1 k out (i : Int) [u, v] 2 1 a b c else if out.length < 17592186044416 then impl_Machine_reached.l1 k (out ++ [u]) (i : Int) [u, v] 2 1 a b c else none) (fun k => ?_) (Ev.bind hc ?_)
  · simp only [impl_Machine_reached.l1]
    rw [if_pos (by simp), if_pos (by omega), if_pos (by simp), w0]
    rfl
  · by_cases hm : u ∈ out
    · rw [decide_eq_true hm]
      simp only [if_true]
      rw [addI, if_pos hm] at hl1
      refine two out hl1 ?_
      rw [show addI out u = out from if_pos hm] at h
      exact h
    · rw [decide_eq_false hm]
      simp only [Bool.false_eq_true, if_false, if_pos (show out.length < 17592186044416 by omega)]
      rw [show addI out u = out ++ [u] from if_neg hm] at h hl1
      exact two _ hl1 h

theorem reached_from {a b : List Int} (c : List Int) {n : Nat} (S : Ste a b n) {z : Int} (hz : 0 ≤ z ∧ z < n) (d : Nat) : ∀ (i : Nat) (out : List Int), Row a b z out i → i ≤ out.length → n ≤ i + d →
    ∃ out', Ev (fun k => impl_Machine_reached.l0 k out (i : Int) a b c) out' ∧ Row a b z out' out'.length := by
  induction d with
  | zero =>
    intro i out R hi hn
    have hf := R.few S hz
    obtain rfl : i = out.length := by omega
    refine ⟨out, Ev.step (f := fun _ => some out) (fun k => ?_) (Ev.now _), R⟩
    simp only [impl_Machine_reached.l0]
    rw [if_neg (by omega)]
  | succ d ih =>
    intro i out R hi hn
    have hf := R.few S hz
    have n12 := S.n12
    by_cases hlt : i < out.length
    · have hx := (R.snd _ (List.getElem_mem hlt)).range S hz
      obtain ⟨R1, hi1⟩ := R.add hi i hlt (x := rd a out[i]) (Or.inl rfl)
      have hm1 : out[i] ∈ addI out (rd a out[i]) := (mem_addI _ _ _).2 (Or.inl (List.getElem_mem hlt))
      obtain ⟨e1, he1⟩ := addI_pre out (rd a out[i])
      have hlt1 : i < (addI out (rd a out[i])).length := by rw [he1, List.length_append]; omega
      have hg1 : (addI out (rd a out[i]))[i] = out[i] := by simp only [he1]; rw [List.getElem_append_left hlt]
      obtain ⟨R2, hi2⟩ := R1.add hi1 i hlt1 (x := rd b out[i]) (Or.inr (by rw [hg1]))
      obtain ⟨e2, he2⟩ := addI_pre (addI out (rd a out[i])) (rd b out[i])
      have R3 := R2.next hlt ⟨e1 ++ e2, by rw [he2, he1, List.append_assoc]⟩ ((mem_addI _ _ _).2 (Or.inl ((mem_addI _ _ _).2 (Or.inr rfl)))) ((mem_addI _ _ _).2 (Or.inr rfl))
      obtain ⟨out', ho, Ro⟩ := ih (i + 1) _ R3 (by rw [he2, List.length_append]; omega) (by omega)
      refine ⟨out', Ev.step (f := fun k => impl_Machine_reached.l1 k out (i : Int) [rd a out[i], rd b out[i]] (([rd a out[i], rd b out[i]] : List Int).length : Int) 0 a b c) (fun k => ?_) (reached_two out i _ _ a b c (by omega) out' (by rw [w1 i (by omega)]; exact ho)), Ro⟩
      simp only [impl_Machine_reached.l0]
      rw [if_pos (by omega), if_pos (by omega), rdN out i hlt, if_pos hx.1, if_pos (by rw [S.la]; exact hx.2), if_pos (by rw [S.lb]; exact hx.2)]
      rfl
    · obtain rfl : i = out.length := by omega
      refine ⟨out, Ev.step (f := fun _ => some out) (fun k => ?_) (Ev.now _), R⟩
      simp only [impl_Machine_reached.l0]
      rw [if_neg (by omega)]

theorem impl_reached {a b : List Int} (c : List Int) {n : Nat} (S : Ste a b n) {z : Int} (hz : 0 ≤ z ∧ z < n) : ∃ out, Ev (fun k => impl_Machine_reached.f k a b c z) out ∧ Row a b z out out.length := by
  unfold impl_Machine_reached.f
  exact reached_from c S hz n 0 [z] (Row.start a b z) (by simp) (by omega)

/-! ### the reference's marks -/
theorem rmark_from {a b : List Int} (c : List Int) {n : Nat} (S : Ste a b n) (r : Nat) (res : List Int) (d : Nat) : ∀ (j : Nat) (s : List Int), s.length = n → j + d = n →
    Ev (fun k => spec_l4Reached.l0 k ((List.range' j d).foldl (upd a b) s) (wrap64 ((r : Int) + 1)) a b c) res → Ev (fun k => spec_l4Reached.l1 k s (r : Int) (j : Int) a b c) res := by
  have n12 := S.n12
  induction d with
  | zero =>
    intro j s hs hj h
    refine Ev.step (f := fun k => spec_l4Reached.l0 k s (wrap64 ((r : Int) + 1)) a b c) (fun k => ?_) h
    simp only [spec_l4Reached.l1]
    rw [if_neg (by omega)]
  | succ d ih =>
    intro j s hs hj h
    have st := S.st j (by omega) (by omega)
    rw [List.range'_succ, List.foldl_cons] at h
    refine Ev.step (f := fun k => spec_l4Reached.l1 k (upd a b s j) (r : Int) ((j + 1 : Nat) : Int) a b c) (fun k => ?_) (ih (j + 1) (upd a b s j) (by unfold upd; split <;> simp [hs]) (by omega) h)
    simp only [spec_l4Reached.l1]
    rw [if_pos (by omega), if_pos (by omega), w1 j (by omega)]
    unfold upd
    by_cases h1 : rd s j = 1
    · have ha := S.la
      have hb := S.lb
      rw [if_pos h1, if_pos h1, if_pos (by omega), if_pos st.1.1, if_pos (by omega), if_pos (by omega), if_pos st.2.1, if_pos (by omega)]
    · rw [if_neg h1, if_neg h1]

theorem mark_rounds {a b : List Int} (c : List Int) {n : Nat} (S : Ste a b n) (d : Nat) : ∀ (r : Nat) (s : List Int), s.length = n → r + d = n →
    Ev (fun k => spec_l4Reached.l0 k s (r : Int) a b c) (passes a b n d s) := by
  have n12 := S.n12
  induction d with
  | zero =>
    intro r s hs hr
    refine Ev.step (f := fun _ => some s) (fun k => ?_) (Ev.now _)
    simp only [spec_l4Reached.l0]
    rw [if_neg (by omega)]
  | succ d ih =>
    intro r s hs hr
    have hp : (pass a b n s).length = n := by
      unfold pass
      have : ∀ (l : List Nat) (s : List Int), (l.foldl (upd a b) s).length = s.length := fun l => by
        induction l with
        | nil => exact fun s => rfl
        | cons j l ih => exact fun s => by rw [List.foldl_cons, ih]; unfold upd; split <;> simp
      rw [this, hs]
    have ih := ih (r + 1) (pass a b n s) hp (by omega)
    refine Ev.step (f := fun k => spec_l4Reached.l1 k s (r : Int) ((0 : Nat) : Int) a b c) (fun k => ?_) (rmark_from c S r _ n 0 s hs (by omega) (by rw [w1 r (by omega)]; rw [← List.range_eq_range']; exact ih))
    simp only [spec_l4Reached.l0]
    rw [if_pos (by omega)]
    rfl

theorem spec_reached {a b : List Int} (c : List Int) {n : Nat} (S : Ste a b n) (hn : 0 < n) : ∃ s, Ev (fun k => spec_l4Reached.f k a b c) s ∧ s.length = n ∧ ∀ x : Int, 0 ≤ x → x < n → (Rch a b 0 x → rd s x = 1) ∧ (¬ Rch a b 0 x → rd s x = 0) := by
  obtain ⟨out, _, R⟩ := impl_reached c S (z := 0) ⟨by omega, by omega⟩
  obtain ⟨h1, h2⟩ := marked S (z := 0) ⟨by omega, by omega⟩ R
  have n12 := S.n12
  have la := S.la
  refine ⟨_, ?_, h1, h2⟩
  unfold spec_l4Reached.f
  simp only [la, Int.toNat_natCast, if_pos (show (0 : Int) ≤ (n : Int) by omega), if_pos (show n ≤ 35184372088832 by omega), Option.bind_some, List.length_replicate, if_pos (show (0 : Int) < (n : Int) by omega)]
  exact mark_rounds c S n 0 _ (by simp) (by omega)
end Go.Proofs.Ytlgdhmjoemdmlaa.Sem

end
section
/- Words printed by the print tool, the unused ones left out, merged into one text by mergew.py. -/
section
/- Machines: measured, copied, compared; in plain words; no condition but a row's length. -/
namespace Go.Proofs.Ytlgdhmjoemdmlaa.Sem
open Go.RowKit Go.Proofs.Ytlgdhmjoemdmlaa.PA Go.Proofs.YtlgdhmjoemdmlaaW.PrintWords Go.Proofs.YtlgdhmjoemdmlaaW.PrintLast Go.Proofs.YtlgdhmjoemdmlaaW.PrintMore
set_option linter.unusedVariables false
set_option linter.unusedSimpArgs false

theorem szIntS_eq (l : List Int) (b : l.length ≤ 9223372036854775807) (n : Int) (h : 0 ≤ n) (h' : n ≤ 1048576) : laws_szIntS.f l n = some (if n < l.length then -1 else n - l.length) := by
  have hw : wrap64 (n - (l.length : Int)) = n - l.length := by unfold wrap64; omega
  unfold laws_szIntS.f
  rw [hw]
  by_cases hc : n < (l.length : Int)
  · rw [if_pos (by omega), if_pos hc]
  · rw [if_neg (by omega), if_neg hc]

/-- The measure: less than 0 exactly if the rows are too long in all. -/
theorem szMachine_eq (a b c : List Int) (ba : a.length ≤ 9223372036854775807) (bb : b.length ≤ 9223372036854775807) (bc : c.length ≤ 9223372036854775807) :
    ∃ t, laws_szMachine.f a b c 1048576 = some t ∧ (t < 0 ∨ a.length ≤ 1048576 ∧ b.length ≤ 1048576 ∧ c.length ≤ 1048576) := by
  unfold laws_szMachine.f
  rw [szIntS_eq a ba _ (by decide) (by decide), Option.bind_some]
  by_cases h1 : (1048576 : Int) < a.length
  · rw [if_pos h1]
    exact ⟨-1, rfl, Or.inl (by decide)⟩
  · rw [if_neg h1, if_neg (by omega), szIntS_eq b bb _ (by omega) (by omega), Option.bind_some]
    by_cases h2 : (1048576 : Int) - a.length < b.length
    · rw [if_pos h2]
      exact ⟨-1, rfl, Or.inl (by decide)⟩
    · rw [if_neg h2, if_neg (by omega), szIntS_eq c bc _ (by omega) (by omega), Option.bind_some]
      by_cases h3 : (1048576 : Int) - a.length - b.length < c.length
      · rw [if_pos h3]
        exact ⟨-1, rfl, Or.inl (by decide)⟩
      · rw [if_neg h3, if_neg (by omega)]
        exact ⟨_, rfl, Or.inr (by omega)⟩

theorem toMachine_eq (a b c : List Int) (ha : a.length ≤ 1048576) (hb : b.length ≤ 1048576) (hc : c.length ≤ 1048576) : Ev (fun k => laws_toMachine.f k a b c) (a, b, c) := by
  unfold laws_toMachine.f
  exact Ev.bind (toIntS_eq a ha) (Ev.bind (toIntS_eq b hb) (Ev.bind (toIntS_eq c hc) (Ev.now _)))

theorem eqMachine_self (a b c : List Int) (ha : a.length ≤ 1048576) (hb : b.length ≤ 1048576) (hc : c.length ≤ 1048576) : Ev (fun k => laws_eqMachine.f k a b c a b c) true := by
  unfold laws_eqMachine.f
  refine Ev.bind (eqIntS_self a ha) ?_
  simp only [if_true]
  refine Ev.bind (eqIntS_self b hb) ?_
  simp only [if_true]
  refine Ev.bind (eqIntS_self c hc) ?_
  simp only [if_true]
  exact Ev.now _
end Go.Proofs.Ytlgdhmjoemdmlaa.Sem

end
section
/- Rows of numbers, marked and held; machines, marked and held; in plain words; no condition but a row's length. -/
namespace Go.Proofs.Ytlgdhmjoemdmlaa.Sem
open Go.RowKit Go.Proofs.Ytlgdhmjoemdmlaa.PA Go.Proofs.YtlgdhmjoemdmlaaW.PrintWords Go.Proofs.YtlgdhmjoemdmlaaW.PrintLast Go.Proofs.YtlgdhmjoemdmlaaW.PrintMore
set_option linter.unusedVariables false
set_option linter.unusedSimpArgs false

/-- The numbers from one on. -/
def nums (a : Int) (n : Nat) : List Int := (List.range n).map fun i : Nat => a + (i : Int)
theorem nums_length (a : Int) (n : Nat) : (nums a n).length = n := by unfold nums; rw [List.length_map, List.length_range]
theorem nums_succ (a : Int) (n : Nat) : nums a (n + 1) = nums a n ++ [a + (n : Int)] := by unfold nums; rw [List.range_succ, List.map_append]; rfl

theorem mark_from (l : List Int) (a : Int) (ha : 0 ≤ a) (ha' : a ≤ 100000000) (hl : l.length ≤ 1048576) (d : Nat) : ∀ i, i + d = l.length →
    Ev (fun k => laws_markIntS.l0 k (nums a i ++ l.drop i) (a + (i : Int)) (i : Int)) (a + (l.length : Int), nums a l.length) := by
  induction d with
  | zero =>
    intro i hi
    obtain rfl : i = l.length := by omega
    rw [List.drop_of_length_le (Nat.le_refl _), List.append_nil]
    refine Ev.step (f := fun _ => some (a + (l.length : Int), nums a l.length)) (fun k => ?_) (Ev.now _)
    simp only [laws_markIntS.l0, nums_length]
    rw [if_neg (by omega)]
  | succ d ih =>
    intro i hi
    have hlt : i < l.length := by omega
    refine Ev.step (f := fun k => laws_markIntS.l0 k (nums a (i + 1) ++ l.drop (i + 1)) (a + ((i + 1 : Nat) : Int)) ((i + 1 : Nat) : Int)) (fun k => ?_) (ih (i + 1) (by omega))
    have hw : wrap64 ((i : Int) + 1) = ((i + 1 : Nat) : Int) := by unfold wrap64; omega
    have hw2 : wrap64 (a + (i : Int) + 1) = a + ((i + 1 : Nat) : Int) := by unfold wrap64; omega
    simp only [laws_markIntS.l0]
    rw [if_pos (by rw [List.length_append, nums_length, List.length_drop]; omega), if_pos (by omega), hw, hw2, Int.toNat_natCast, List.drop_eq_getElem_cons hlt, set_mid _ _ _ _ _ (nums_length a i), nums_succ, List.append_assoc]
    rfl
theorem mark_eq (l : List Int) (a : Int) (ha : 0 ≤ a) (ha' : a ≤ 100000000) (hl : l.length ≤ 1048576) : Ev (fun k => laws_markIntS.f k l a) (a + (l.length : Int), nums a l.length) := by
  have h := mark_from l a ha ha' hl l.length 0 (by omega)
  unfold laws_markIntS.f
  have e : nums a 0 ++ l.drop 0 = l := by simp [nums]
  rw [e, show a + ((0 : Nat) : Int) = a by simp] at h
  exact h

theorem held_from (a : Int) (n : Nat) (ha : 0 ≤ a) (ha' : a ≤ 100000000) (hn : n ≤ 1048576) (d : Nat) : ∀ i, i + d = n → Ev (fun k => laws_heldIntS.l0 k (nums a n) (a + (i : Int)) (i : Int)) (a + (n : Int)) := by
  induction d with
  | zero =>
    intro i hi
    obtain rfl : i = n := by omega
    refine Ev.step (f := fun _ => some (a + (i : Int))) (fun k => ?_) (Ev.now _)
    simp only [laws_heldIntS.l0, nums_length]
    rw [if_neg (by omega)]
  | succ d ih =>
    intro i hi
    have hlt : i < n := by omega
    have hw : wrap64 ((i : Int) + 1) = ((i + 1 : Nat) : Int) := by unfold wrap64; omega
    have hw2 : wrap64 (a + (i : Int) + 1) = a + ((i + 1 : Nat) : Int) := by unfold wrap64; omega
    have hr : rd (nums a n) (i : Int) = a + (i : Int) := by
      rw [rd_at _ _ (by rw [nums_length]; exact hlt)]
      simp [nums]
    refine Ev.step (f := fun k => laws_heldIntS.l0 k (nums a n) (a + ((i + 1 : Nat) : Int)) ((i + 1 : Nat) : Int)) (fun k => ?_) (ih (i + 1) (by omega))
    simp only [laws_heldIntS.l0, nums_length]
    rw [if_pos (by omega), if_pos (by omega), hr, if_pos rfl, hw, hw2]
theorem held_eq (a : Int) (n : Nat) (ha : 0 ≤ a) (ha' : a ≤ 100000000) (hn : n ≤ 1048576) : Ev (fun k => laws_heldIntS.f k (nums a n) a) (a + (n : Int)) := by
  have h := held_from a n ha ha' hn n 0 (by omega)
  unfold laws_heldIntS.f
  rw [show a + ((0 : Nat) : Int) = a by simp] at h
  exact h

theorem markMachine_gen (a b c : List Int) (x : Int) (h0 : 0 ≤ x) (h1 : x ≤ 10000000) (ha : a.length ≤ 1048576) (hb : b.length ≤ 1048576) (hc : c.length ≤ 1048576) :
    Ev (fun k => laws_markMachine.f k a b c x) (x + (a.length : Int) + b.length + c.length, nums x a.length, nums (x + (a.length : Int)) b.length, nums (x + (a.length : Int) + b.length) c.length) := by
  unfold laws_markMachine.f
  exact Ev.bind (mark_eq a x (by omega) (by omega) ha) (Ev.bind (mark_eq b (x + (a.length : Int)) (by omega) (by omega) hb) (Ev.bind (mark_eq c (x + (a.length : Int) + b.length) (by omega) (by omega) hc) (Ev.now _)))
theorem markMachine_eq (a b c : List Int) (ha : a.length ≤ 1048576) (hb : b.length ≤ 1048576) (hc : c.length ≤ 1048576) :
    Ev (fun k => laws_markMachine.f k a b c 1) (1 + (a.length : Int) + b.length + c.length, nums 1 a.length, nums (1 + (a.length : Int)) b.length, nums (1 + (a.length : Int) + b.length) c.length) := by
  unfold laws_markMachine.f
  exact Ev.bind (mark_eq a 1 (by omega) (by omega) ha) (Ev.bind (mark_eq b (1 + (a.length : Int)) (by omega) (by omega) hb) (Ev.bind (mark_eq c (1 + (a.length : Int) + b.length) (by omega) (by omega) hc) (Ev.now _)))
end Go.Proofs.Ytlgdhmjoemdmlaa.Sem

end

end
section
/- strings.Repeat of one letter, by the library's own contract; no condition but the count. -/
namespace Go.Proofs
open Go.Shelf
def Ytlgdhmjoemdmlaa.lays105_ren : Go.Shelf.Ren := ⟨fun | 105 => 22 | 212 => 28 | 99 => 29 | 165 => 30 | 166 => 31 | 170 => 32 | 169 => 33 | 263 => 37 | 264 => 38 | 206 => 39 | 240 => 40 | 241 => 41 | 276 => 43 | 277 => 44 | n => n, fun | 9 => 9 | 3 => 3 | 4 => 4 | 20 => 20 | 0 => 0 | 46 => 44 | 109 => 45 | 5 => 5 | 72 => 51 | 76 => 55 | 51 => 62 | 146 => 63 | 53 => 65 | 148 => 66 | 70 => 48 | 37 => 49 | 75 => 54 | 127 => 68 | 164 => 69 | 80 => 58 | n => n, fun | n => n⟩
theorem Ytlgdhmjoemdmlaa.lays105 : Go.Proofs.Lays.n105 Try.prog Ytlgdhmjoemdmlaa.lays105_ren := {
  mixed := by kernel_rfl
  f99 := Try.func29.trans (congrArg some (by kernel_rfl))
  f105 := Try.func22.trans (congrArg some (by kernel_rfl))
  f165 := Try.func30.trans (congrArg some (by kernel_rfl))
  f166 := Try.func31.trans (congrArg some (by kernel_rfl))
  f169 := Try.func33.trans (congrArg some (by kernel_rfl))
  f170 := Try.func32.trans (congrArg some (by kernel_rfl))
  f206 := Try.func39.trans (congrArg some (by kernel_rfl))
  f212 := Try.func28.trans (congrArg some (by kernel_rfl))
  f240 := Try.func40.trans (congrArg some (by kernel_rfl))
  f241 := Try.func41.trans (congrArg some (by kernel_rfl))
  f263 := Try.func37.trans (congrArg some (by kernel_rfl))
  f264 := Try.func38.trans (congrArg some (by kernel_rfl))
  f276 := Try.func43.trans (congrArg some (by kernel_rfl))
  f277 := Try.func44.trans (congrArg some (by kernel_rfl))
  t0 := Try.underlying0
  a0 := Try.isAgg0
  z0 := Try.sizeOf0
  v0 := Try.zeroValue0
  t3 := Try.underlying3
  a3 := Try.isAgg3
  z3 := Try.sizeOf3
  v3 := Try.zeroValue3
  t4 := Try.underlying4
  a4 := Try.isAgg4
  z4 := Try.sizeOf4
  v4 := Try.zeroValue4
  t5 := Try.underlying5
  a5 := Try.isAgg5
  z5 := Try.sizeOf5
  v5 := Try.zeroValue5
  t9 := Try.underlying9
  a9 := Try.isAgg9
  z9 := Try.sizeOf9
  v9 := Try.zeroValue9
  t20 := Try.underlying20
  a20 := Try.isAgg20
  z20 := Try.sizeOf20
  v20 := Try.zeroValue20
  t37 := Try.underlying49
  a37 := Try.isAgg49
  z37 := Try.sizeOf49
  v37 := Try.zeroValue49
  t46 := Try.underlying44
  a46 := Try.isAgg44
  z46 := Try.sizeOf44
  v46 := Try.zeroValue44
  t51 := Try.underlying62
  a51 := Try.isAgg62
  z51 := Try.sizeOf62
  v51 := Try.zeroValue62
  t53 := Try.underlying65
  a53 := Try.isAgg65
  z53 := Try.sizeOf65
  v53 := Try.zeroValue65
  t70 := Try.underlying48
  a70 := Try.isAgg48
  z70 := Try.sizeOf48
  v70 := Try.zeroValue48
  t72 := Try.underlying51
  a72 := Try.isAgg51
  z72 := Try.sizeOf51
  v72 := Try.zeroValue51
  t75 := Try.underlying54
  a75 := Try.isAgg54
  z75 := Try.sizeOf54
  v75 := Try.zeroValue54
  t76 := Try.underlying55
  a76 := Try.isAgg55
  z76 := Try.sizeOf55
  v76 := Try.zeroValue55
  t109 := Try.underlying45
  a109 := Try.isAgg45
  z109 := Try.sizeOf45
  v109 := Try.zeroValue45
  t127 := Try.underlying68
  a127 := Try.isAgg68
  z127 := Try.sizeOf68
  v127 := Try.zeroValue68
  t146 := Try.underlying63
  a146 := Try.isAgg63
  z146 := Try.sizeOf63
  v146 := Try.zeroValue63
  t148 := Try.underlying66
  a148 := Try.isAgg66
  z148 := Try.sizeOf66
  v148 := Try.zeroValue66
  t164 := Try.underlying69
  a164 := Try.isAgg69
  z164 := Try.sizeOf69
  v164 := Try.zeroValue69 }
theorem Ytlgdhmjoemdmlaa.builder105 : Builder.Extra Try.prog Ytlgdhmjoemdmlaa.lays105_ren where
  sizeBuilder := by kernel_rfl
  liesBuilder := by kernel_rfl
  t5 := Try.underlying5
  a5 := Try.isAgg5
  z5 := Try.sizeOf5
  v5 := Try.zeroValue5
  infoByte := by kernel_rfl
  cellsByte := by kernel_rfl
  sizeByte := by kernel_rfl
  neB5 := by decide
end Go.Proofs
namespace Go.Proofs.Ytlgdhmjoemdmlaa.Man
open Go.RowKit Go.Proofs.Ytlgdhmjoemdmlaa.PA Go.Proofs.YtlgdhmjoemdmlaaW.PrintWords Go.Proofs.YtlgdhmjoemdmlaaW.PrintLast
set_option linter.unusedVariables false
set_option linter.unusedSimpArgs false

/-- A row of one letter. -/
def rep (x : UInt8) (n : Nat) : ByteArray := ⟨(List.replicate n x).toArray⟩
theorem rep_list (x : UInt8) (n : Nat) : (rep x n).data.toList = List.replicate n x := rfl
theorem rep_size (x : UInt8) (n : Nat) : (rep x n).size = n := by
  show (List.replicate n x).toArray.size = n
  rw [List.size_toArray, List.length_replicate]
theorem repeat_one (x : UInt8) : ∀ n, Go.Lib.repeatL [x] n = List.replicate n x
  | 0 => rfl
  | n + 1 => by
    show [x] ++ Go.Lib.repeatL [x] n = _
    rw [repeat_one x n, List.replicate_succ]
    rfl
theorem repeats (x : UInt8) (n : Nat) (w : World) (hn : n ≤ 1000) : Calls Try.prog 22 #[.string (⟨#[x]⟩ : ByteArray), .int .i64 (n : Int)] w fun e w' => e = .returned (.string (rep x n)) ∧ Below w.heap.size w w' := by
  have h := Any.strings_Repeat Go.Proofs.Ytlgdhmjoemdmlaa.lays105 Go.Proofs.Ytlgdhmjoemdmlaa.builder105 (⟨#[x]⟩ : ByteArray) n w (by omega) (by rw [show (⟨#[x]⟩ : ByteArray).size = 1 from rfl]; omega)
  refine h.mono fun e w' ⟨he, hb⟩ => ⟨?_, hb⟩
  rw [he]
  show _ = Ending.returned (.string ⟨(List.replicate n x).toArray⟩)
  rw [← repeat_one x n]
end Go.Proofs.Ytlgdhmjoemdmlaa.Man

end
section
/- slices.IndexFunc and slices.ContainsFunc over a row of numbers, for every predicate that may lay blocks of its own; no condition but the row and the predicate's own contract. -/
namespace Go.Proofs.Ytlgdhmjoemdmlaa.ManI
open Go.RowKit Go.Proofs.Ytlgdhmjoemdmlaa.PA Go.Proofs.YtlgdhmjoemdmlaaW.PrintWords Go.Proofs.YtlgdhmjoemdmlaaW.PrintLast Go.Proofs.YtlgdhmjoemdmlaaW.PrintMore
set_option linter.unusedVariables false
set_option linter.unusedSimpArgs false

/-- Where the first element is of which p holds; -1. -/
def idx {α : Type} (p : α → Bool) : List α → Nat → Int
  | [], _ => -1
  | x :: l, i => if p x = true then (i : Int) else idx p l (i + 1)

theorem idx_any {α : Type} (p : α → Bool) (l : List α) (i : Nat) : decide (0 ≤ idx p l i) = l.any p := by
  induction l generalizing i with
  | nil => rfl
  | cons x l ih =>
    rw [idx, List.any_cons]
    by_cases h : p x = true
    · rw [if_pos h, h]; simp
    · rw [if_neg h, ih, Bool.eq_false_iff.mpr h]; rfl

/-- What is asked of a predicate on numbers. -/
def PredInt (g : Nat) (lb : Array Value) (p : Int → Bool) (w : World) (l : List Int) : Prop :=
  ∀ (W : World) (x : Int), x ∈ l → Below w.heap.size w W → Calls Try.prog g (#[.int .i64 x] ++ lb) W fun e w' => e = .returned (.bool (p x)) ∧ Below W.heap.size W w'

set_option maxHeartbeats 4000000 in
theorem IndexFunc (p : Int → Bool) (g : Nat) (lb : Array Value) (eg : ∀ args w, (callFunc g args).run Try.prog w = .ok (.enter g args) w) (A : Option Addr) (c : Nat) (l : List Int) (w : World)
    (hp : PredInt g lb p w l) (hr : Kd.C (Kd.int .i64) w A l.length l) :
    Calls Try.prog 35 #[.slice A l.length c, .func (.func g) #[] lb] w fun e w' => e = .returned (.int .i64 (idx p l 0)) ∧ Below w.heap.size w w' := by
  have HR := Aside0.mk hr
  have HB := Aside0.mk (Below.refl w.heap.size w)
  have HP := Aside0.mk hp
  have hlen : l.length ≤ 9223372036854775807 := hr.2.1
  clear hr hp
  go_enter Try.func35, Try.ntmps35
  go_wp2
  go_loopg [5, 8] l.length (fun gg _ s8 wr => ∃ kk : Nat, kk ≤ l.length ∧ l.length - kk ≤ gg ∧ s8 = .int .i64 kk ∧ Aside0 (Below w.heap.size w wr) ∧ Aside0 (idx p l 0 = idx p (l.drop kk) kk))
  case atStart => exact ⟨0, Nat.zero_le _, by omega, rfl, HB, ⟨rfl⟩⟩
  case round =>
    clear HB
    obtain ⟨kk, hkk, hg, rfl, HB, HI⟩ := hrel
    by_cases hlt : kk < l.length
    · have hltz : (kk : Int) < (l.length : Int) := by omega
      have hk0 : (0 : Int) ≤ (kk : Int) := by omega
      obtain ⟨ad, e1, x0⟩ := Kd.at_int HR.out (kk : Int) hk0 hltz
      cases e1
      simp only [Int.toNat_natCast] at x0
      replace x0 := (HB.out.cell (World.block_lt_of_cell? w _ x0)).trans x0
      have hd : l.drop kk = rd l (kk : Int) :: l.drop (kk + 1) := by
        rw [List.drop_eq_getElem_cons hlt]
        congr 1
        unfold rd
        rw [List.getD_eq_getElem?_getD, Int.toNat_natCast, List.getElem?_eq_getElem hlt]
        rfl
      have hcall := HP.out wr (rd l (kk : Int)) (List.mem_of_mem_drop (i := kk) (by rw [hd]; exact List.mem_cons_self)) HB.out
      have HC := Aside0.mk hcall
      rw [hd, idx] at HI
      clear hcall hd
      obtain ⟨y, hy⟩ : ∃ y, rd l (kk : Int) = y := ⟨_, rfl⟩
      rw [hy] at HC HI x0
      clear hy
      cases hq : p y with
      | true =>
        rw [hq] at HC HI
        clear hq
        go_wp2_with (go_at_fn g; refine HC.out.mono ?_; rintro e w' ⟨rfl, hb'⟩)
        go_ret
        exact ⟨by rw [HI.out]; simp, below_step HB.out hb'⟩
      | false =>
        rw [hq] at HC HI
        clear hq
        go_wp2_with (go_at_fn g; refine HC.out.mono ?_; rintro e w' ⟨rfl, hb'⟩)
        go_roundg (l.length - (kk + 1))
        case measure => omega
        case rel => exact ⟨kk + 1, by omega, by omega, by go_num, ⟨below_step HB.out hb'⟩, ⟨by rw [HI.out]; simp⟩⟩
    · have hltz : ¬ (kk : Int) < (l.length : Int) := by omega
      obtain rfl : kk = l.length := by omega
      go_wp2
      go_ret
      exact ⟨by rw [HI.out]; simp [idx], HB.out⟩

theorem ContainsFunc (p : Int → Bool) (g : Nat) (lb : Array Value) (eg : ∀ args w, (callFunc g args).run Try.prog w = .ok (.enter g args) w) (A : Option Addr) (c : Nat) (l : List Int) (w : World)
    (hp : PredInt g lb p w l) (hr : Kd.C (Kd.int .i64) w A l.length l) :
    Calls Try.prog 25 #[.slice A l.length c, .func (.func g) #[] lb] w fun e w' => e = .returned (.bool (l.any p)) ∧ Below w.heap.size w w' := by
  have HC := Aside0.mk (IndexFunc p g lb eg A c l w hp hr)
  have HI := Aside0.mk (idx_any p l 0)
  clear hp hr eg
  go_enter Try.func25, Try.ntmps25
  go_wp2_with (go_at_call 35; refine HC.out.mono ?_; rintro e w' ⟨rfl, hb'⟩)
  go_ret
  exact ⟨by rw [← HI.out]; rfl, hb'⟩
end Go.Proofs.Ytlgdhmjoemdmlaa.ManI

end
