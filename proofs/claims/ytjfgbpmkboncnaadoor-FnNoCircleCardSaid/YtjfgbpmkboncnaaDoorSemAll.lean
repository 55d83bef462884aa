/- Words printed by the print tool, the unused ones left out, merged into one text by mergew.py. -/
import Derived.Test.YtjfgbpmkboncnaaDoorSemBase
import Derived.Test.YtjfgbpmkboncnaaDoorPAx1
import Derived.Test.YtjfgbpmkboncnaaDoorPAx21
import Derived.Test.YtjfgbpmkboncnaaDoorPAx22
import Derived.Test.YtjfgbpmkboncnaaDoorPAx24
import Derived.Test.YtjfgbpmkboncnaaDoorSemMach
import Derived.Test.YtjfgbpmkboncnaaDoorPAx23
import Derived.Test.YtjfgbpmkboncnaaDoorPAx25
import Derived.Test.YtjfgbpmkboncnaaDoorManOrd
import Derived.Test.YtjfgbpmkboncnaaDoorPAx26
import Derived.Test.YtjfgbpmkboncnaaDoorPAx27
import Derived.Lib.SlTrimSet
import Derived.Test.YtjfgbpmkboncnaaDoorPAx9
import Derived.Test.YtjfgbpmkboncnaaDoorPAx7
import Derived.Test.YtjfgbpmkboncnaaDoorPAx28
section
/- Reached states, in plain words: the least set closed under both letters; the row that grows, and the marks; no condition but that each state's letters lead to a state. -/
namespace Go.Proofs.YtjfgbpmkboncnaaDoor.Sem
open Go.RowKit Go.Proofs.YtjfgbpmkboncnaaDoor.PA Go.Proofs.YtjfgbpmkboncnaaDoorW.PrintWords Go.Proofs.YtjfgbpmkboncnaaDoorW.PrintLast Go.Proofs.YtjfgbpmkboncnaaDoorW.PrintMore
set_option linter.unusedVariables false
set_option linter.unusedSimpArgs false

/-- Both letters lead from each state to a state. -/
structure Ste (a b : List Int) (n : Nat) : Prop where
  la : a.length = n
  lb : b.length = n
  n12 : n ≤ 12
  st : ∀ x : Int, 0 ≤ x → x < n → (0 ≤ rd a x ∧ rd a x < n) ∧ (0 ≤ rd b x ∧ rd b x < n)

/-- What is reached from a state. -/
inductive Rch (a b : List Int) (z : Int) : Int → Prop
  | here : Rch a b z z
  | zero {x : Int} : Rch a b z x → Rch a b z (rd a x)
  | one {x : Int} : Rch a b z x → Rch a b z (rd b x)

theorem Rch.range {a b : List Int} {n : Nat} (S : Ste a b n) {z x : Int} (hz : 0 ≤ z ∧ z < n) (h : Rch a b z x) : 0 ≤ x ∧ x < n := by
  induction h with
  | here => exact hz
  | zero _ ih => exact (S.st _ ih.1 ih.2).1
  | one _ ih => exact (S.st _ ih.1 ih.2).2
theorem Rch.trans {a b : List Int} {x y z : Int} (h1 : Rch a b x y) (h2 : Rch a b y z) : Rch a b x z := by
  induction h2 with
  | here => exact h1
  | zero _ ih => exact ih.zero
  | one _ ih => exact ih.one

theorem nodup_le {α : Type} [DecidableEq α] : ∀ (K A : List α), K.Nodup → (∀ x ∈ K, x ∈ A) → K.length ≤ A.length
  | [], A, _, _ => Nat.zero_le _
  | x :: K, A, h, hA => by
    have hx : x ∈ A := hA x (List.mem_cons_self)
    rw [List.nodup_cons] at h
    have := nodup_le K (A.erase x) h.2 (fun y hy => (List.mem_erase_of_ne (fun e => h.1 (by rw [← e]; exact hy))).2 (hA y (List.mem_cons_of_mem _ hy)))
    rw [List.length_erase_of_mem hx] at this
    have := List.length_pos_of_mem hx
    simp only [List.length_cons]
    omega

/-- A new one is put at the end. -/
def addI (l : List Int) (x : Int) : List Int := if x ∈ l then l else l ++ [x]
theorem mem_addI (l : List Int) (x y : Int) : y ∈ addI l x ↔ y ∈ l ∨ y = x := by
  unfold addI
  split
  · rename_i h
    exact ⟨Or.inl, fun h' => h'.elim id (fun e => e ▸ h)⟩
  · simp
theorem addI_pre (l : List Int) (x : Int) : ∃ e, addI l x = l ++ e := by
  unfold addI
  split
  · exact ⟨[], by simp⟩
  · exact ⟨[x], rfl⟩

/-- The row of reached ones, the first of which have been looked at. -/
structure Row (a b : List Int) (z : Int) (out : List Int) (i : Nat) : Prop where
  nd : out.Nodup
  at0 : ∃ e, out = z :: e
  snd : ∀ x ∈ out, Rch a b z x
  done : ∀ x ∈ out.take i, rd a x ∈ out ∧ rd b x ∈ out
  ord : ∀ j (h : j < out.length), 0 < j → ∃ m, ∃ h' : m < out.length, m < j ∧ (out[j] = rd a out[m] ∨ out[j] = rd b out[m])

theorem Row.add {a b : List Int} {z : Int} {out : List Int} {i : Nat} (R : Row a b z out i) (hi : i ≤ out.length) (m : Nat) (hm : m < out.length) {x : Int} (hx : x = rd a out[m] ∨ x = rd b out[m]) : Row a b z (addI out x) i ∧ i ≤ (addI out x).length := by
  unfold addI
  split
  · exact ⟨R, hi⟩
  · rename_i hn
    refine ⟨⟨?_, ?_, ?_, ?_, ?_⟩, by rw [List.length_append]; omega⟩
    · rw [List.nodup_append]
      exact ⟨R.nd, by simp, fun p hp q hq => by rw [List.mem_singleton.1 hq]; exact fun e => hn (e ▸ hp)⟩
    · obtain ⟨e, he⟩ := R.at0
      exact ⟨e ++ [x], by rw [he]; rfl⟩
    · intro y hy
      rcases List.mem_append.1 hy with hy | hy
      · exact R.snd y hy
      · rw [List.mem_singleton.1 hy]
        have hr := R.snd out[m] (List.getElem_mem hm)
        rcases hx with rfl | rfl
        · exact hr.zero
        · exact hr.one
    · intro y hy
      rw [List.take_append_of_le_length hi] at hy
      exact ⟨List.mem_append_left _ (R.done y hy).1, List.mem_append_left _ (R.done y hy).2⟩
    · intro j hj h0
      rw [List.length_append] at hj
      simp only [List.length_singleton] at hj
      by_cases hl : j < out.length
      · obtain ⟨m', hm', h1, h2⟩ := R.ord j hl h0
        refine ⟨m', by rw [List.length_append]; omega, h1, ?_⟩
        rw [List.getElem_append_left hl, List.getElem_append_left hm']
        exact h2
      · refine ⟨m, by rw [List.length_append]; omega, by omega, ?_⟩
        rw [List.getElem_append_right (by omega), List.getElem_append_left hm]
        simpa using hx

theorem Row.full {a b : List Int} {z : Int} {out : List Int} (R : Row a b z out out.length) (x : Int) : x ∈ out ↔ Rch a b z x := by
  refine ⟨R.snd x, fun h => ?_⟩
  have hd := R.done
  rw [List.take_of_length_le (Nat.le_refl _)] at hd
  induction h with
  | here =>
    obtain ⟨e, he⟩ := R.at0
    rw [he]; exact List.mem_cons_self
  | zero _ ih => exact (hd _ ih).1
  | one _ ih => exact (hd _ ih).2

theorem Row.few {a b : List Int} {n : Nat} (S : Ste a b n) {z : Int} (hz : 0 ≤ z ∧ z < n) {out : List Int} {i : Nat} (R : Row a b z out i) : out.length ≤ n := by
  have := nodup_le out ((List.range n).map (fun m : Nat => (m : Int))) R.nd (fun x hx => by
    have := (R.snd x hx).range S hz
    exact List.mem_map.2 ⟨x.toNat, List.mem_range.2 (by omega), by omega⟩)
  rwa [List.length_map, List.length_range] at this

theorem Row.start (a b : List Int) (z : Int) : Row a b z [z] 0 :=
  ⟨by simp, ⟨[], rfl⟩, fun x hx => by rw [List.mem_singleton.1 hx]; exact Rch.here, fun x hx => by simp at hx, fun j hj h0 => by simp at hj; omega⟩

theorem Row.next {a b : List Int} {z : Int} {out out' : List Int} {i : Nat} (R : Row a b z out' i) (hi : i < out.length) (hp : ∃ e, out' = out ++ e) (h1 : rd a out[i] ∈ out') (h2 : rd b out[i] ∈ out') : Row a b z out' (i + 1) := by
  obtain ⟨e, rfl⟩ := hp
  refine ⟨R.nd, R.at0, R.snd, fun x hx => ?_, R.ord⟩
  rw [List.take_succ_eq_append_getElem (by rw [List.length_append]; omega)] at hx
  rcases List.mem_append.1 hx with hx | hx
  · exact R.done x hx
  · rw [List.mem_singleton.1 hx, List.getElem_append_left hi]
    exact ⟨h1, h2⟩

/-! ### marks -/
def upd (a b : List Int) (s : List Int) (j : Nat) : List Int := if rd s j = 1 then (s.set (rd a j).toNat 1).set (rd b j).toNat 1 else s
def pass (a b : List Int) (n : Nat) (s : List Int) : List Int := (List.range n).foldl (upd a b) s
def passes (a b : List Int) (n : Nat) : Nat → List Int → List Int
  | 0, s => s
  | r + 1, s => passes a b n r (pass a b n s)

theorem rd_set (s : List Int) (i : Nat) (hi : i < s.length) (x : Int) (h0 : 0 ≤ x) : rd (s.set i 1) x = if x = (i : Int) then 1 else rd s x := by
  unfold rd
  rw [List.getD_eq_getElem?_getD, List.getD_eq_getElem?_getD, List.getElem?_set]
  by_cases h : x = (i : Int)
  · rw [if_pos h, if_pos (by omega), if_pos hi]
    rfl
  · rw [if_neg h, if_neg (by omega)]

/-- Marks: 0 or 1, one for each state; just reached ones are marked. -/
structure Mk (a b : List Int) (z : Int) (n : Nat) (s : List Int) : Prop where
  len : s.length = n
  bit : ∀ x : Int, 0 ≤ x → x < n → rd s x = 0 ∨ rd s x = 1
  snd : ∀ x : Int, 0 ≤ x → x < n → rd s x = 1 → Rch a b z x

theorem Mk.set1 {a b : List Int} {z : Int} {n : Nat} {s : List Int} (M : Mk a b z n s) {y : Int} (hy : 0 ≤ y ∧ y < n) (hr : Rch a b z y) : Mk a b z n (s.set y.toNat 1) ∧ ∀ x : Int, 0 ≤ x → rd s x = 1 ∨ x = y → rd (s.set y.toNat 1) x = 1 := by
  have hl : y.toNat < s.length := by rw [M.len]; omega
  have hc : ((y.toNat : Nat) : Int) = y := Int.toNat_of_nonneg hy.1
  refine ⟨⟨by rw [List.length_set]; exact M.len, fun x h0 h1 => ?_, fun x h0 h1 h => ?_⟩, fun x h0 h => ?_⟩
  · rw [rd_set s _ hl x h0]
    split
    · exact Or.inr rfl
    · exact M.bit x h0 h1
  · rw [rd_set s _ hl x h0] at h
    split at h
    · rename_i e
      rw [e, hc]; exact hr
    · exact M.snd x h0 h1 h
  · rw [rd_set s _ hl x h0]
    split
    · rfl
    · rename_i e
      exact h.resolve_right (fun e' => e (by rw [e', hc]))

theorem Mk.upd {a b : List Int} {z : Int} {n : Nat} (S : Ste a b n) {s : List Int} (M : Mk a b z n s) (j : Nat) (hj : j < n) :
    Mk a b z n (upd a b s j) ∧ (∀ x : Int, 0 ≤ x → rd s x = 1 → rd (Sem.upd a b s j) x = 1) ∧ (rd s j = 1 → rd (Sem.upd a b s j) (rd a j) = 1 ∧ rd (Sem.upd a b s j) (rd b j) = 1) := by
  unfold Sem.upd
  by_cases h : rd s j = 1
  · rw [if_pos h]
    have hr := M.snd j (by omega) (by omega) h
    have hs := S.st j (by omega) (by omega)
    obtain ⟨M1, k1⟩ := M.set1 hs.1 hr.zero
    obtain ⟨M2, k2⟩ := M1.set1 hs.2 hr.one
    exact ⟨M2, fun x h0 hx => k2 x h0 (Or.inl (k1 x h0 (Or.inl hx))), fun _ => ⟨k2 _ hs.1.1 (Or.inl (k1 _ hs.1.1 (Or.inr rfl))), k2 _ hs.2.1 (Or.inr rfl)⟩⟩
  · rw [if_neg h]
    exact ⟨M, fun _ _ h => h, fun h' => absurd h' h⟩

theorem Mk.fold {a b : List Int} {z : Int} {n : Nat} (S : Ste a b n) : ∀ (l : List Nat), (∀ j ∈ l, j < n) → ∀ {s : List Int}, Mk a b z n s →
    Mk a b z n (l.foldl (Sem.upd a b) s) ∧ (∀ x : Int, 0 ≤ x → rd s x = 1 → rd (l.foldl (Sem.upd a b) s) x = 1) ∧ ∀ j ∈ l, rd s j = 1 → rd (l.foldl (Sem.upd a b) s) (rd a j) = 1 ∧ rd (l.foldl (Sem.upd a b) s) (rd b j) = 1
  | [], _, _, M => ⟨M, fun _ _ h => h, fun _ h => by cases h⟩
  | j :: l, hl, s, M => by
    have hj := hl j List.mem_cons_self
    obtain ⟨M1, k1, d1⟩ := M.upd S j hj
    obtain ⟨M2, k2, d2⟩ := Mk.fold S l (fun i hi => hl i (List.mem_cons_of_mem _ hi)) M1
    have hs := S.st j (by omega) (by omega)
    refine ⟨M2, fun x h0 hx => k2 x h0 (k1 x h0 hx), fun i hi h => ?_⟩
    rcases List.mem_cons.1 hi with rfl | hi
    · exact ⟨k2 _ hs.1.1 (d1 h).1, k2 _ hs.2.1 (d1 h).2⟩
    · exact d2 i hi (k1 i (by omega) h)

theorem Mk.pass {a b : List Int} {z : Int} {n : Nat} (S : Ste a b n) {s : List Int} (M : Mk a b z n s) :
    Mk a b z n (pass a b n s) ∧ (∀ x : Int, 0 ≤ x → rd s x = 1 → rd (Sem.pass a b n s) x = 1) ∧ ∀ x : Int, 0 ≤ x → x < n → rd s x = 1 → rd (Sem.pass a b n s) (rd a x) = 1 ∧ rd (Sem.pass a b n s) (rd b x) = 1 := by
  obtain ⟨M1, k1, d1⟩ := Mk.fold S (List.range n) (fun j hj => List.mem_range.1 hj) M
  refine ⟨M1, k1, fun x h0 h1 h => ?_⟩
  obtain ⟨j, rfl⟩ := Int.eq_ofNat_of_zero_le h0
  exact d1 j (List.mem_range.2 (by omega)) h

/-- After so many passes the first ones of the row are marked. -/
theorem Mk.passes {a b : List Int} {z : Int} {n : Nat} (S : Ste a b n) (hz : 0 ≤ z ∧ z < n) {out : List Int} (R : Row a b z out out.length) (r : Nat) : ∀ (c : Nat) {s : List Int}, Mk a b z n s → (∀ j (h : j < out.length), j ≤ c → rd s out[j] = 1) →
    Mk a b z n (passes a b n r s) ∧ ∀ j (h : j < out.length), j ≤ c + r → rd (Sem.passes a b n r s) out[j] = 1 := by
  induction r with
  | zero => exact fun c s M h => ⟨M, h⟩
  | succ r ih =>
    intro c s M h
    obtain ⟨M1, k1, d1⟩ := M.pass S
    have hr : ∀ j (h : j < out.length), 0 ≤ out[j] ∧ out[j] < n := fun j h => (R.snd _ (List.getElem_mem h)).range S hz
    obtain ⟨M2, h2⟩ := ih (c + 1) M1 (fun j hj hle => by
      by_cases hc : j ≤ c
      · exact k1 _ (hr j hj).1 (h j hj hc)
      · obtain ⟨m, hm, hmj, e⟩ := R.ord j hj (by omega)
        have := d1 _ (hr m hm).1 (hr m hm).2 (h m hm (by omega))
        rcases e with e | e
        · rw [e]; exact this.1
        · rw [e]; exact this.2)
    exact ⟨M2, fun j hj hle => h2 j hj (by omega)⟩

theorem marked {a b : List Int} {n : Nat} (S : Ste a b n) {z : Int} (hz : 0 ≤ z ∧ z < n) {out : List Int} (R : Row a b z out out.length) :
    (passes a b n n ((List.replicate n 0).set z.toNat 1)).length = n ∧ ∀ x : Int, 0 ≤ x → x < n → (Rch a b z x → rd (passes a b n n ((List.replicate n 0).set z.toNat 1)) x = 1) ∧ (¬ Rch a b z x → rd (passes a b n n ((List.replicate n 0).set z.toNat 1)) x = 0) := by
  have hrep : ∀ x : Int, 0 ≤ x → x < n → rd (List.replicate n (0 : Int)) x = 0 := fun x h0 h1 => by
    unfold rd
    rw [List.getD_eq_getElem?_getD, List.getElem?_replicate]
    split <;> rfl
  have M0 : Mk a b z n (List.replicate n 0) := ⟨by simp, fun x h0 h1 => Or.inl (hrep x h0 h1), fun x h0 h1 h => by rw [hrep x h0 h1] at h; exact absurd h (by decide)⟩
  obtain ⟨M1, k1⟩ := M0.set1 hz Rch.here
  obtain ⟨e, he⟩ := R.at0
  obtain ⟨M2, h2⟩ := Mk.passes S hz R n 0 M1 (fun j hj h0 => by
    obtain rfl : j = 0 := by omega
    have : out[0] = z := by simp [he]
    rw [this]
    exact k1 z hz.1 (Or.inr rfl))
  have hf := R.few S hz
  refine ⟨M2.len, fun x h0 h1 => ⟨fun h => ?_, fun h => ?_⟩⟩
  · obtain ⟨j, hj, e⟩ := List.mem_iff_getElem.1 ((R.full x).2 h)
    rw [← e]
    exact h2 j hj (by omega)
  · rcases M2.bit x h0 h1 with h' | h'
    · exact h'
    · exact absurd (M2.snd x h0 h1 h') h
end Go.Proofs.YtjfgbpmkboncnaaDoor.Sem

end
section
/- Reached states: both programs' loops, in plain words; no condition but that each state's letters lead to a state. -/
namespace Go.Proofs.YtjfgbpmkboncnaaDoor.Sem
open Go.RowKit Go.Proofs.YtjfgbpmkboncnaaDoor.PA Go.Proofs.YtjfgbpmkboncnaaDoorW.PrintWords Go.Proofs.YtjfgbpmkboncnaaDoorW.PrintLast Go.Proofs.YtjfgbpmkboncnaaDoorW.PrintMore
set_option linter.unusedVariables false
set_option linter.unusedSimpArgs false

theorem rdN (l : List Int) (i : Nat) (h : i < l.length) : rd l (i : Int) = l[i] := by
  unfold rd
  rw [List.getD_eq_getElem?_getD, Int.toNat_natCast, List.getElem?_eq_getElem h]
  rfl
theorem w1 (i : Nat) (h : i < 9223372036854775807) : wrap64 ((i : Int) + 1) = ((i + 1 : Nat) : Int) := by unfold wrap64; omega

theorem index_from (l : List Int) (x : Int) (hl : l.length ≤ 1000000) (d : Nat) : ∀ i, i + d = l.length → ∃ r, Ev (fun k => slices_Index_int_int.l0 k l x (l.length : Int) (i : Int)) r ∧ (decide (r ≥ 0) = decide (x ∈ l.drop i)) := by
  induction d with
  | zero =>
    intro i hi
    refine ⟨-1, Ev.step (f := fun _ => some (-1)) (fun k => ?_) (Ev.now _), ?_⟩
    · simp only [slices_Index_int_int.l0]
      rw [if_neg (by omega)]
    · rw [List.drop_of_length_le (by omega)]; simp
  | succ d ih =>
    intro i hi
    have hlt : i < l.length := by omega
    rw [List.drop_eq_getElem_cons hlt]
    by_cases h : x = l[i]
    · refine ⟨(i : Int), Ev.step (f := fun _ => some (i : Int)) (fun k => ?_) (Ev.now _), ?_⟩
      · simp only [slices_Index_int_int.l0]
        rw [if_pos (by omega), if_pos (by omega), if_pos (by omega), rdN l i hlt, if_pos h]
      · rw [decide_eq_true (show (i : Int) ≥ 0 by omega), decide_eq_true (show x ∈ l[i] :: l.drop (i + 1) by rw [h]; exact List.mem_cons_self)]
    · obtain ⟨r, hr, hd⟩ := ih (i + 1) (by omega)
      refine ⟨r, Ev.step (f := fun k => slices_Index_int_int.l0 k l x (l.length : Int) ((i + 1 : Nat) : Int)) (fun k => ?_) hr, ?_⟩
      · simp only [slices_Index_int_int.l0]
        rw [if_pos (by omega), if_pos (by omega), if_pos (by omega), rdN l i hlt, if_neg h, w1 i (by omega)]
      · rw [hd]
        refine decide_eq_decide.2 ⟨fun h' => List.mem_cons_of_mem _ h', fun h' => ?_⟩
        rcases List.mem_cons.1 h' with e | e
        · exact absurd e h
        · exact e

theorem contains_eq (l : List Int) (x : Int) (hl : l.length ≤ 1000000) : Ev (fun k => slices_Contains_int_int.f k l x) (decide (x ∈ l)) := by
  obtain ⟨r, hr, hd⟩ := index_from l x hl l.length 0 (by omega)
  rw [List.drop_zero] at hd
  unfold slices_Contains_int_int.f slices_Index_int_int.f
  refine Ev.bind hr ?_
  rw [hd]
  exact Ev.now _

theorem reached_two (out : List Int) (i : Nat) (u v : Int) (a b c : List Int) (hl : out.length ≤ 100000) (r : List Int) (h : Ev (fun k => impl_Machine_reached.l0 k (addI (addI out u) v) (wrap64 ((i : Int) + 1)) a b c) r) :
    Ev (fun k => impl_Machine_reached.l1 k out (i : Int) [u, v] (([u, v] : List Int).length : Int) 0 a b c) r := by
  have hl1 : (addI out u).length ≤ 100001 := by
    unfold addI
    split
    · omega
    · rw [List.length_append, List.length_singleton]; omega
  have w0 : wrap64 (0 + 1) = 1 := by unfold wrap64; omega
  have w2 : wrap64 (1 + 1) = 2 := by unfold wrap64; omega
  have end_ : ∀ o : List Int, Ev (fun k => impl_Machine_reached.l0 k o (wrap64 ((i : Int) + 1)) a b c) r → Ev (fun k => impl_Machine_reached.l1 k o (i : Int) [u, v] 2 2 a b c) r := fun o ho =>
    Ev.step (f := fun k => impl_Machine_reached.l0 k o (wrap64 ((i : Int) + 1)) a b c) (fun k => by simp only [impl_Machine_reached.l1]; rw [if_neg (by omega)]) ho
  have two : ∀ o : List Int, o.length ≤ 100001 → Ev (fun k => impl_Machine_reached.l0 k (addI o v) (wrap64 ((i : Int) + 1)) a b c) r → Ev (fun k => impl_Machine_reached.l1 k o (i : Int) [u, v] 2 1 a b c) r := fun o hol ho => by
    have hc := contains_eq o v (by omega)
    refine Ev.step (f := fun k => (slices_Contains_int_int.f k o v).bind fun t => if t = true then impl_Machine_reached.l1 k o (i : Int) [u, v] 2 2 a b c else if o.length < 17592186044416 then impl_Machine_reached.l1 k (o ++ [v]) (i : Int) [u, v] 2 2 a b c else none) (fun k => ?_) (Ev.bind hc ?_)
    · simp only [impl_Machine_reached.l1]
      rw [if_pos (by omega), if_pos (by omega), if_pos (by simp), w2]
      rfl
    · by_cases hm : v ∈ o
      · rw [decide_eq_true hm]
        simp only [if_true]
        rw [addI, if_pos hm] at ho
        exact end_ o ho
      · rw [decide_eq_false hm]
        simp only [Bool.false_eq_true, if_false, if_pos (show o.length < 17592186044416 by omega)]
        rw [addI, if_neg hm] at ho
        exact end_ _ ho
  have hc := contains_eq out u (by omega)
  refine Ev.step (f := fun k => (slices_Contains_int_int.f k out u).bind fun t => if t = true then impl_Machine_reached.l1 k out (i : Int) [u, v] 2 1 a b c else if out.length < 17592186044416 then impl_Machine_reached.l1 k (out ++ [u]) (i : Int) [u, v] 2 1 a b c else none) (fun k => ?_) (Ev.bind hc ?_)
  · simp only [impl_Machine_reached.l1]
    rw [if_pos (by simp), if_pos (by omega), if_pos (by simp), w0]
    rfl
  · by_cases hm : u ∈ out
    · rw [decide_eq_true hm]
      simp only [if_true]
      rw [addI, if_pos hm] at hl1
      refine two out hl1 ?_
      rw [show addI out u = out from if_pos hm] at h
      exact h
    · rw [decide_eq_false hm]
      simp only [Bool.false_eq_true, if_false, if_pos (show out.length < 17592186044416 by omega)]
      rw [show addI out u = out ++ [u] from if_neg hm] at h hl1
      exact two _ hl1 h

theorem reached_from {a b : List Int} (c : List Int) {n : Nat} (S : Ste a b n) {z : Int} (hz : 0 ≤ z ∧ z < n) (d : Nat) : ∀ (i : Nat) (out : List Int), Row a b z out i → i ≤ out.length → n ≤ i + d →
    ∃ out', Ev (fun k => impl_Machine_reached.l0 k out (i : Int) a b c) out' ∧ Row a b z out' out'.length := by
  induction d with
  | zero =>
    intro i out R hi hn
    have hf := R.few S hz
    obtain rfl : i = out.length := by omega
    refine ⟨out, Ev.step (f := fun _ => some out) (fun k => ?_) (Ev.now _), R⟩
    simp only [impl_Machine_reached.l0]
    rw [if_neg (by omega)]
  | succ d ih =>
    intro i out R hi hn
    have hf := R.few S hz
    have n12 := S.n12
    by_cases hlt : i < out.length
    · have hx := (R.snd _ (List.getElem_mem hlt)).range S hz
      obtain ⟨R1, hi1⟩ := R.add hi i hlt (x := rd a out[i]) (Or.inl rfl)
      have hm1 : out[i] ∈ addI out (rd a out[i]) := (mem_addI _ _ _).2 (Or.inl (List.getElem_mem hlt))
      obtain ⟨e1, he1⟩ := addI_pre out (rd a out[i])
      have hlt1 : i < (addI out (rd a out[i])).length := by rw [he1, List.length_append]; omega
      have hg1 : (addI out (rd a out[i]))[i] = out[i] := by simp only [he1]; rw [List.getElem_append_left hlt]
      obtain ⟨R2, hi2⟩ := R1.add hi1 i hlt1 (x := rd b out[i]) (Or.inr (by rw [hg1]))
      obtain ⟨e2, he2⟩ := addI_pre (addI out (rd a out[i])) (rd b out[i])
      have R3 := R2.next hlt ⟨e1 ++ e2, by rw [he2, he1, List.append_assoc]⟩ ((mem_addI _ _ _).2 (Or.inl ((mem_addI _ _ _).2 (Or.inr rfl)))) ((mem_addI _ _ _).2 (Or.inr rfl))
      obtain ⟨out', ho, Ro⟩ := ih (i + 1) _ R3 (by rw [he2, List.length_append]; omega) (by omega)
      refine ⟨out', Ev.step (f := fun k => impl_Machine_reached.l1 k out (i : Int) [rd a out[i], rd b out[i]] (([rd a out[i], rd b out[i]] : List Int).length : Int) 0 a b c) (fun k => ?_) (reached_two out i _ _ a b c (by omega) out' (by rw [w1 i (by omega)]; exact ho)), Ro⟩
      simp only [impl_Machine_reached.l0]
      rw [if_pos (by omega), if_pos (by omega), rdN out i hlt, if_pos hx.1, if_pos (by rw [S.la]; exact hx.2), if_pos (by rw [S.lb]; exact hx.2)]
      rfl
    · obtain rfl : i = out.length := by omega
      refine ⟨out, Ev.step (f := fun _ => some out) (fun k => ?_) (Ev.now _), R⟩
      simp only [impl_Machine_reached.l0]
      rw [if_neg (by omega)]

theorem impl_reached {a b : List Int} (c : List Int) {n : Nat} (S : Ste a b n) {z : Int} (hz : 0 ≤ z ∧ z < n) : ∃ out, Ev (fun k => impl_Machine_reached.f k a b c z) out ∧ Row a b z out out.length := by
  unfold impl_Machine_reached.f
  exact reached_from c S hz n 0 [z] (Row.start a b z) (by simp) (by omega)

/-! ### the reference's marks -/
theorem mark_from {a b : List Int} (c : List Int) {n : Nat} (S : Ste a b n) (r : Nat) (res : List Int) (d : Nat) : ∀ (j : Nat) (s : List Int), s.length = n → j + d = n →
    Ev (fun k => spec_l4Reached.l0 k ((List.range' j d).foldl (upd a b) s) (wrap64 ((r : Int) + 1)) a b c) res → Ev (fun k => spec_l4Reached.l1 k s (r : Int) (j : Int) a b c) res := by
  have n12 := S.n12
  induction d with
  | zero =>
    intro j s hs hj h
    refine Ev.step (f := fun k => spec_l4Reached.l0 k s (wrap64 ((r : Int) + 1)) a b c) (fun k => ?_) h
    simp only [spec_l4Reached.l1]
    rw [if_neg (by omega)]
  | succ d ih =>
    intro j s hs hj h
    have st := S.st j (by omega) (by omega)
    rw [List.range'_succ, List.foldl_cons] at h
    refine Ev.step (f := fun k => spec_l4Reached.l1 k (upd a b s j) (r : Int) ((j + 1 : Nat) : Int) a b c) (fun k => ?_) (ih (j + 1) (upd a b s j) (by unfold upd; split <;> simp [hs]) (by omega) h)
    simp only [spec_l4Reached.l1]
    rw [if_pos (by omega), if_pos (by omega), w1 j (by omega)]
    unfold upd
    by_cases h1 : rd s j = 1
    · have ha := S.la
      have hb := S.lb
      rw [if_pos h1, if_pos h1, if_pos (by omega), if_pos st.1.1, if_pos (by omega), if_pos (by omega), if_pos st.2.1, if_pos (by omega)]
    · rw [if_neg h1, if_neg h1]

theorem mark_rounds {a b : List Int} (c : List Int) {n : Nat} (S : Ste a b n) (d : Nat) : ∀ (r : Nat) (s : List Int), s.length = n → r + d = n →
    Ev (fun k => spec_l4Reached.l0 k s (r : Int) a b c) (passes a b n d s) := by
  have n12 := S.n12
  induction d with
  | zero =>
    intro r s hs hr
    refine Ev.step (f := fun _ => some s) (fun k => ?_) (Ev.now _)
    simp only [spec_l4Reached.l0]
    rw [if_neg (by omega)]
  | succ d ih =>
    intro r s hs hr
    have hp : (pass a b n s).length = n := by
      unfold pass
      have : ∀ (l : List Nat) (s : List Int), (l.foldl (upd a b) s).length = s.length := fun l => by
        induction l with
        | nil => exact fun s => rfl
        | cons j l ih => exact fun s => by rw [List.foldl_cons, ih]; unfold upd; split <;> simp
      rw [this, hs]
    have ih := ih (r + 1) (pass a b n s) hp (by omega)
    refine Ev.step (f := fun k => spec_l4Reached.l1 k s (r : Int) ((0 : Nat) : Int) a b c) (fun k => ?_) (mark_from c S r _ n 0 s hs (by omega) (by rw [w1 r (by omega)]; rw [← List.range_eq_range']; exact ih))
    simp only [spec_l4Reached.l0]
    rw [if_pos (by omega)]
    rfl

theorem spec_reached {a b : List Int} (c : List Int) {n : Nat} (S : Ste a b n) (hn : 0 < n) : ∃ s, Ev (fun k => spec_l4Reached.f k a b c) s ∧ s.length = n ∧ ∀ x : Int, 0 ≤ x → x < n → (Rch a b 0 x → rd s x = 1) ∧ (¬ Rch a b 0 x → rd s x = 0) := by
  obtain ⟨out, _, R⟩ := impl_reached c S (z := 0) ⟨by omega, by omega⟩
  obtain ⟨h1, h2⟩ := marked S (z := 0) ⟨by omega, by omega⟩ R
  have n12 := S.n12
  have la := S.la
  refine ⟨_, ?_, h1, h2⟩
  unfold spec_l4Reached.f
  simp only [la, Int.toNat_natCast, if_pos (show (0 : Int) ≤ (n : Int) by omega), if_pos (show n ≤ 35184372088832 by omega), Option.bind_some, List.length_replicate, if_pos (show (0 : Int) < (n : Int) by omega)]
  exact mark_rounds c S n 0 _ (by simp) (by omega)
end Go.Proofs.YtjfgbpmkboncnaaDoor.Sem

end
section
/- Circles, in plain words: both programs' answers; no condition but a row's length. -/
namespace Go.Proofs.YtjfgbpmkboncnaaDoor.Sem
open Go.RowKit Go.Proofs.YtjfgbpmkboncnaaDoor.PA Go.Proofs.YtjfgbpmkboncnaaDoorW.PrintWords Go.Proofs.YtjfgbpmkboncnaaDoorW.PrintLast Go.Proofs.YtjfgbpmkboncnaaDoorW.PrintMore
set_option linter.unusedVariables false
set_option linter.unusedSimpArgs false

theorem MachOk.ste {a b c : List Int} (h : MachOk a b c) : Ste a b a.length ∧ 0 < a.length := by
  obtain ⟨⟨h1, h2, h3, h4⟩, hs⟩ := h
  refine ⟨⟨rfl, h3, h2, fun x h0 hx => ?_⟩, h1⟩
  have := hs x.toNat (by omega)
  unfold StOk at this
  rw [Int.toNat_of_nonneg h0] at this
  exact ⟨this.1, this.2.1⟩

/-- From a state no way leads away and back. -/
def Good (a b : List Int) (x : Int) : Prop := ∀ y, Rch a b x y → y ≠ x → ¬ Rch a b y x
def Good1 (a b : List Int) (x : Int) : Prop := (rd a x ≠ x → ¬ Rch a b (rd a x) x) ∧ (rd b x ≠ x → ¬ Rch a b (rd b x) x)
theorem first_step {a b : List Int} {x y : Int} (h : Rch a b x y) : y ≠ x → ∃ m, (m = rd a x ∨ m = rd b x) ∧ m ≠ x ∧ Rch a b m y := by
  induction h with
  | here => exact fun h => absurd rfl h
  | @zero z _ ih =>
    intro hne
    by_cases hz : z = x
    · subst hz
      exact ⟨rd a z, Or.inl rfl, hne, Rch.here⟩
    · obtain ⟨m, h1, h2, h3⟩ := ih hz
      exact ⟨m, h1, h2, h3.zero⟩
  | @one z _ ih =>
    intro hne
    by_cases hz : z = x
    · subst hz
      exact ⟨rd b z, Or.inr rfl, hne, Rch.here⟩
    · obtain ⟨m, h1, h2, h3⟩ := ih hz
      exact ⟨m, h1, h2, h3.one⟩
theorem good_iff (a b : List Int) (x : Int) : Good a b x ↔ Good1 a b x := by
  constructor
  · intro h
    exact ⟨fun h1 => h _ Rch.here.zero h1, fun h1 => h _ Rch.here.one h1⟩
  · intro h y hy hne hb
    obtain ⟨m, hm, h1, h2⟩ := first_step hy hne
    have h3 := h2.trans hb
    rcases hm with rfl | rfl
    · exact h.1 h1 h3
    · exact h.2 h1 h3

/-! ### the program -/
theorem impl_circle_in {a b : List Int} (c : List Int) {n : Nat} (S : Ste a b n) (x : Int) (xs : List Int) (i : Nat) (ys : List Int) (hys : ∀ y ∈ ys, 0 ≤ y ∧ y < n) (hl : ys.length ≤ 12) (res : Bool) (d : Nat) : ∀ j, j + d = ys.length →
    ((∀ y ∈ ys.drop j, y ≠ x → ¬ Rch a b y x) → Ev (fun k => impl_NoCircle.l0 k xs (xs.length : Int) (wrap64 ((i : Int) + 1)) a b c) res) → ((∃ y ∈ ys.drop j, y ≠ x ∧ Rch a b y x) → res = false) →
    Ev (fun k => impl_NoCircle.l1 k x xs (xs.length : Int) (i : Int) ys (ys.length : Int) (j : Int) a b c) res := by
  induction d with
  | zero =>
    intro j hj h1 h2
    have := h1 (by rw [List.drop_of_length_le (by omega)]; simp)
    refine Ev.step (f := fun k => impl_NoCircle.l0 k xs (xs.length : Int) (wrap64 ((i : Int) + 1)) a b c) (fun k => ?_) this
    simp only [impl_NoCircle.l1]
    rw [if_neg (by omega)]
  | succ d ih =>
    intro j hj h1 h2
    have hlt : j < ys.length := by omega
    rw [List.drop_eq_getElem_cons hlt] at h1 h2
    have ih := ih (j + 1) (by omega)
    have hw : wrap64 ((j : Int) + 1) = ((j + 1 : Nat) : Int) := w1 j (by omega)
    by_cases he : ys[j] = x
    · refine Ev.step (f := fun k => impl_NoCircle.l1 k x xs (xs.length : Int) (i : Int) ys (ys.length : Int) ((j + 1 : Nat) : Int) a b c) (fun k => ?_) (ih (fun h => h1 (fun y hy => ?_)) (fun h => h2 ?_))
      · simp only [impl_NoCircle.l1]
        rw [if_pos (by omega), if_pos (by omega), if_pos (by omega), rdN ys j hlt, if_pos he, hw]
      · rcases List.mem_cons.1 hy with rfl | hy
        · exact fun h' => absurd he h'
        · exact h y hy
      · obtain ⟨y, hy, h⟩ := h
        exact ⟨y, List.mem_cons_of_mem _ hy, h⟩
    · have hy := hys _ (List.getElem_mem hlt)
      obtain ⟨out, ho, R⟩ := impl_reached c S hy
      have hf := R.few S hy
      have n12 := S.n12
      have hc := contains_eq out x (by omega)
      refine Ev.step (f := fun k => (impl_Machine_reached.f k a b c ys[j]).bind fun t => (slices_Contains_int_int.f k t x).bind fun q => if q = true then some false else impl_NoCircle.l1 k x xs (xs.length : Int) (i : Int) ys (ys.length : Int) ((j + 1 : Nat) : Int) a b c) (fun k => ?_) (Ev.bind ho (Ev.bind hc ?_))
      · simp only [impl_NoCircle.l1]
        rw [if_pos (by omega), if_pos (by omega), if_pos (by omega), rdN ys j hlt, if_neg he, hw]
      · by_cases hm : x ∈ out
        · rw [decide_eq_true hm]
          simp only [if_true]
          rw [h2 ⟨ys[j], List.mem_cons_self, he, (R.full x).1 hm⟩]
          exact Ev.now _
        · rw [decide_eq_false hm]
          simp only [Bool.false_eq_true, if_false]
          refine ih (fun h => h1 (fun y hy' => ?_)) (fun h => h2 ?_)
          · rcases List.mem_cons.1 hy' with rfl | hy'
            · exact fun _ h' => hm ((R.full x).2 h')
            · exact h y hy'
          · obtain ⟨y, hy', h⟩ := h
            exact ⟨y, List.mem_cons_of_mem _ hy', h⟩

theorem impl_circle_from {a b : List Int} (c : List Int) {n : Nat} (S : Ste a b n) (xs : List Int) (hxs : ∀ y ∈ xs, 0 ≤ y ∧ y < n) (hl : xs.length ≤ 12) (d : Nat) : ∀ i, i + d = xs.length →
    ∃ res, Ev (fun k => impl_NoCircle.l0 k xs (xs.length : Int) (i : Int) a b c) res ∧ (res = true ↔ ∀ x ∈ xs.drop i, Good a b x) := by
  induction d with
  | zero =>
    intro i hi
    refine ⟨true, Ev.step (f := fun _ => some true) (fun k => ?_) (Ev.now _), ?_⟩
    · simp only [impl_NoCircle.l0]
      rw [if_neg (by omega)]
    · rw [List.drop_of_length_le (by omega)]; simp
  | succ d ih =>
    intro i hi
    have hlt : i < xs.length := by omega
    obtain ⟨res, hr, hres⟩ := ih (i + 1) (by omega)
    have hx := hxs _ (List.getElem_mem hlt)
    obtain ⟨out, ho, R⟩ := impl_reached c S hx
    have hf := R.few S hx
    have n12 := S.n12
    have hw : wrap64 ((i : Int) + 1) = ((i + 1 : Nat) : Int) := w1 i (by omega)
    rw [List.drop_eq_getElem_cons hlt]
    have step : ∀ r, Ev (fun k => impl_NoCircle.l1 k xs[i] xs (xs.length : Int) (i : Int) out (out.length : Int) ((0 : Nat) : Int) a b c) r → Ev (fun k => impl_NoCircle.l0 k xs (xs.length : Int) (i : Int) a b c) r := fun r h => by
      refine Ev.step (f := fun k => (impl_Machine_reached.f k a b c xs[i]).bind fun t => impl_NoCircle.l1 k xs[i] xs (xs.length : Int) (i : Int) t (t.length : Int) ((0 : Nat) : Int) a b c) (fun k => ?_) (Ev.bind ho h)
      simp only [impl_NoCircle.l0]
      rw [if_pos (by omega), if_pos (by omega), if_pos (by omega), rdN xs i hlt]
      rfl
    by_cases hg : Good a b xs[i]
    · refine ⟨res, step res (impl_circle_in c S _ xs i out (fun y hy => (R.snd y hy).range S hx) (by omega) res out.length 0 (by omega) (fun _ => by rw [hw]; exact hr) (fun h => ?_)), ?_⟩
      · obtain ⟨y, hy, h1, h2⟩ := h
        rw [List.drop_zero] at hy
        exact absurd h2 (hg y (R.snd y hy) h1)
      · rw [hres]
        exact ⟨fun h x hx => by
          rcases List.mem_cons.1 hx with rfl | hx
          · exact hg
          · exact h x hx, fun h x hx => h x (List.mem_cons_of_mem _ hx)⟩
    · refine ⟨false, step false (impl_circle_in c S _ xs i out (fun y hy => (R.snd y hy).range S hx) (by omega) false out.length 0 (by omega) (fun h => ?_) (fun _ => rfl)), ?_⟩
      · rw [List.drop_zero] at h
        exact absurd (fun y hy h1 => h y ((R.full y).2 hy) h1) hg
      · exact ⟨fun h => absurd h (by simp), fun h => absurd (h _ List.mem_cons_self) hg⟩

/-- What NoCircle answers. -/
def NoC (a b c : List Int) : Prop := MachOk a b c ∧ ∀ x, Rch a b 0 x → Good a b x

theorem impl_NoCircle_eq (a b c : List Int) : ∃ res, Ev (fun k => impl_NoCircle.f k a b c) res ∧ (res = true ↔ NoC a b c) := by
  unfold impl_NoCircle.f
  by_cases h : MachOk a b c
  · obtain ⟨S, hn⟩ := h.ste
    have hz : (0 : Int) ≤ 0 ∧ (0 : Int) < a.length := ⟨by omega, by omega⟩
    obtain ⟨out, ho, R⟩ := impl_reached c S hz
    have hf := R.few S hz
    have n12 := S.n12
    obtain ⟨res, hr, hres⟩ := impl_circle_from c S out (fun y hy => (R.snd y hy).range S hz) (by omega) out.length 0 (by omega)
    rw [List.drop_zero] at hres
    refine ⟨res, Ev.bind (impl_isMachine_eq a b c) ?_, ?_⟩
    · rw [decide_eq_true h]
      simp only [if_true]
      exact Ev.bind ho hr
    · rw [hres]
      exact ⟨fun h' => ⟨h, fun x hx => h' x ((R.full x).2 hx)⟩, fun h' x hx => h'.2 x ((R.full x).1 hx)⟩
  · refine ⟨false, Ev.bind (impl_isMachine_eq a b c) ?_, ?_⟩
    · rw [decide_eq_false h]
      simp only [Bool.false_eq_true, if_false]
      exact Ev.now _
    · exact ⟨fun h' => absurd h' (by simp), fun h' => absurd h'.1 h⟩

/-! ### the reference -/
theorem spec_circle_mark {a b : List Int} (c : List Int) {n : Nat} (S : Ste a b n) (x3 : List Int) (x4 x5 : Int) (r : Nat) (res : Bool) (d : Nat) : ∀ (j : Nat) (s : List Int), s.length = n → j + d = n →
    Ev (fun k => spec_NoCircle.l2 k x3 x4 x5 ((List.range' j d).foldl (upd a b) s) (wrap64 ((r : Int) + 1)) a b c) res → Ev (fun k => spec_NoCircle.l3 k x3 x4 x5 s (r : Int) (j : Int) a b c) res := by
  have n12 := S.n12
  induction d with
  | zero =>
    intro j s hs hj h
    refine Ev.step (f := fun k => spec_NoCircle.l2 k x3 x4 x5 s (wrap64 ((r : Int) + 1)) a b c) (fun k => ?_) h
    simp only [spec_NoCircle.l3]
    rw [if_neg (by omega)]
  | succ d ih =>
    intro j s hs hj h
    have st := S.st j (by omega) (by omega)
    rw [List.range'_succ, List.foldl_cons] at h
    refine Ev.step (f := fun k => spec_NoCircle.l3 k x3 x4 x5 (upd a b s j) (r : Int) ((j + 1 : Nat) : Int) a b c) (fun k => ?_) (ih (j + 1) (upd a b s j) (by unfold upd; split <;> simp [hs]) (by omega) h)
    simp only [spec_NoCircle.l3]
    rw [if_pos (by omega), if_pos (by omega), w1 j (by omega)]
    unfold upd
    by_cases h1 : rd s j = 1
    · have ha := S.la
      have hb := S.lb
      rw [if_pos h1, if_pos h1, if_pos (by omega), if_pos st.1.1, if_pos (by omega), if_pos (by omega), if_pos st.2.1, if_pos (by omega)]
    · rw [if_neg h1, if_neg h1]

theorem pass_len (a b : List Int) (n : Nat) (s : List Int) (hs : s.length = n) : (pass a b n s).length = n := by
  unfold pass
  have : ∀ (l : List Nat) (s : List Int), (l.foldl (upd a b) s).length = s.length := fun l => by
    induction l with
    | nil => exact fun s => rfl
    | cons j l ih => exact fun s => by rw [List.foldl_cons, ih]; unfold upd; split <;> simp
  rw [this, hs]

theorem spec_circle_rounds {a b : List Int} (c : List Int) {n : Nat} (S : Ste a b n) (x3 : List Int) (x4 : Nat) (hx : x4 < n) (x5 : Int) (res : Bool) (d : Nat) : ∀ (r : Nat) (s : List Int), s.length = n → r + d = n →
    (passes a b n d s).length = n → Ev (fun k => if rd (passes a b n d s) x4 = 1 then some false else spec_NoCircle.l1 k x3 (x4 : Int) (wrap64 (x5 + 1)) a b c) res → Ev (fun k => spec_NoCircle.l2 k x3 (x4 : Int) x5 s (r : Int) a b c) res := by
  have n12 := S.n12
  induction d with
  | zero =>
    intro r s hs hr hl h
    refine Ev.step (f := fun k => if rd s x4 = 1 then some false else spec_NoCircle.l1 k x3 (x4 : Int) (wrap64 (x5 + 1)) a b c) (fun k => ?_) h
    simp only [spec_NoCircle.l2]
    rw [if_neg (by omega), if_pos (by omega), if_pos (by omega)]
  | succ d ih =>
    intro r s hs hr hl h
    have ih := ih (r + 1) (pass a b n s) (pass_len a b n s hs) (by omega) hl h
    refine Ev.step (f := fun k => spec_NoCircle.l3 k x3 (x4 : Int) x5 s (r : Int) ((0 : Nat) : Int) a b c) (fun k => ?_) (spec_circle_mark c S x3 x4 x5 r _ n 0 s hs (by omega) (by rw [w1 r (by omega)]; rw [← List.range_eq_range']; exact ih))
    simp only [spec_NoCircle.l2]
    rw [if_pos (by omega)]
    rfl

/-- One letter: it leads back, or on. -/
theorem spec_circle_letter {a b : List Int} (c : List Int) {n : Nat} (S : Ste a b n) (x3 : List Int) (x4 : Nat) (hx : x4 < n) (x5 : Int) (m : Int) (hm : 0 ≤ m ∧ m < n) (res : Bool)
    (h1 : (m ≠ x4 → ¬ Rch a b m x4) → Ev (fun k => spec_NoCircle.l1 k x3 (x4 : Int) (wrap64 (x5 + 1)) a b c) res) (h2 : m ≠ x4 → Rch a b m x4 → res = false) : Ev (fun k => spec_NoCircle.j2 k x3 (x4 : Int) x5 m a b c) res := by
  have n12 := S.n12
  have la := S.la
  by_cases he : m = (x4 : Int)
  · refine Ev.step (f := fun k => spec_NoCircle.l1 k x3 (x4 : Int) (wrap64 (x5 + 1)) a b c) (fun k => ?_) (h1 (fun h => absurd he h))
    simp only [spec_NoCircle.j2]
    rw [if_pos he]
  · obtain ⟨out, _, R⟩ := impl_reached c S hm
    obtain ⟨hl, hk⟩ := marked S hm R
    have hk := hk x4 (by omega) (by omega)
    refine Ev.step (f := fun k => spec_NoCircle.l2 k x3 (x4 : Int) x5 ((List.replicate n 0).set m.toNat 1) ((0 : Nat) : Int) a b c) (fun k => ?_) (spec_circle_rounds c S x3 x4 hx x5 res n 0 _ (by simp) (by omega) hl ?_)
    · simp only [spec_NoCircle.j2, if_neg he, la, Int.toNat_natCast, if_pos (show (0 : Int) ≤ (n : Int) by omega), if_pos (show n ≤ 35184372088832 by omega), Option.bind_some, List.length_replicate, if_pos hm.1, if_pos hm.2]
      rfl
    · by_cases hr : Rch a b m x4
      · simp only [if_pos (hk.1 hr)]
        rw [h2 he hr]
        exact Ev.now _
      · have h0 := hk.2 hr
        simp only [h0, show ¬ (0 : Int) = 1 by omega, if_false]
        exact h1 (fun _ => hr)

theorem spec_circle_from {a b : List Int} (c : List Int) {n : Nat} (S : Ste a b n) (s : List Int) (hs : s.length = n) (hk : ∀ x : Int, 0 ≤ x → x < n → (Rch a b 0 x → rd s x = 1) ∧ (¬ Rch a b 0 x → rd s x = 0)) (d : Nat) : ∀ i : Nat, i + d = n →
    ∃ res, Ev (fun k => spec_NoCircle.l0 k s (i : Int) a b c) res ∧ (res = true ↔ ∀ x : Nat, i ≤ x → x < n → Rch a b 0 x → Good1 a b x) := by
  have n12 := S.n12
  have la := S.la
  have lb := S.lb
  induction d with
  | zero =>
    intro i hi
    refine ⟨true, Ev.step (f := fun _ => some true) (fun k => ?_) (Ev.now _), ?_⟩
    · simp only [spec_NoCircle.l0]
      rw [if_neg (by omega)]
    · exact ⟨fun _ x h1 h2 => by omega, fun _ => rfl⟩
  | succ d ih =>
    intro i hi
    obtain ⟨res, hr, hres⟩ := ih (i + 1) (by omega)
    have hki := hk i (by omega) (by omega)
    have st := S.st i (by omega) (by omega)
    have hw : wrap64 ((i : Int) + 1) = ((i + 1 : Nat) : Int) := w1 i (by omega)
    have hnext : (∀ x : Nat, i ≤ x → x < n → Rch a b 0 x → Good1 a b x) ↔ (Rch a b 0 i → Good1 a b i) ∧ ∀ x : Nat, i + 1 ≤ x → x < n → Rch a b 0 x → Good1 a b x := by
      constructor
      · intro h
        exact ⟨h i (Nat.le_refl _) (by omega), fun x h1 h2 => h x (by omega) h2⟩
      · rintro ⟨h0, h⟩ x h1 h2 h3
        rcases Nat.lt_or_ge i x with h4 | h4
        · exact h x (by omega) h2 h3
        · obtain rfl : x = i := by omega
          exact h0 h3
    rw [hnext, ← hres]
    by_cases hz : Rch a b 0 i
    · have start : ∀ r, Ev (fun k => spec_NoCircle.l1 k s (i : Int) 0 a b c) r → Ev (fun k => spec_NoCircle.l0 k s (i : Int) a b c) r := fun r h => by
        refine Ev.step (f := fun k => spec_NoCircle.l1 k s (i : Int) 0 a b c) (fun k => ?_) h
        simp only [spec_NoCircle.l0]
        rw [if_pos (by omega), if_pos (by omega), hki.1 hz, if_neg (by omega)]
      have w0 : wrap64 (0 + 1) = 1 := by unfold wrap64; omega
      have w2 : wrap64 (1 + 1) = 2 := by unfold wrap64; omega
      have l2 : ∀ r, Ev (fun k => spec_NoCircle.l0 k s ((i + 1 : Nat) : Int) a b c) r → Ev (fun k => spec_NoCircle.l1 k s (i : Int) 2 a b c) r := fun r h => by
        refine Ev.step (f := fun k => spec_NoCircle.l0 k s ((i + 1 : Nat) : Int) a b c) (fun k => ?_) h
        simp only [spec_NoCircle.l1]
        rw [if_neg (by omega), hw]
      have l1 : ∀ r, Ev (fun k => spec_NoCircle.j2 k s (i : Int) 1 (rd b i) a b c) r → Ev (fun k => spec_NoCircle.l1 k s (i : Int) 1 a b c) r := fun r h => by
        refine Ev.step (f := fun k => spec_NoCircle.j2 k s (i : Int) 1 (rd b i) a b c) (fun k => ?_) h
        simp only [spec_NoCircle.l1]
        rw [if_pos (by omega), if_pos (by omega), if_pos (by omega), if_pos True.intro, if_pos (by omega)]
      have l0 : ∀ r, Ev (fun k => spec_NoCircle.j2 k s (i : Int) 0 (rd a i) a b c) r → Ev (fun k => spec_NoCircle.l1 k s (i : Int) 0 a b c) r := fun r h => by
        refine Ev.step (f := fun k => spec_NoCircle.j2 k s (i : Int) 0 (rd a i) a b c) (fun k => ?_) h
        simp only [spec_NoCircle.l1]
        rw [if_pos (by omega), if_pos (by omega), if_pos (by omega), if_neg (by omega)]
      by_cases hg : Good1 a b i
      · refine ⟨res, start _ (l0 _ (spec_circle_letter c S s i (by omega) 0 _ st.1 _ (fun _ => ?_) (fun h1 h2 => absurd h2 (hg.1 h1)))), ⟨fun h => ⟨fun _ => hg, h⟩, fun h => h.2⟩⟩
        rw [w0]
        refine l1 _ (spec_circle_letter c S s i (by omega) 1 _ st.2 _ (fun _ => ?_) (fun h1 h2 => absurd h2 (hg.2 h1)))
        rw [w2]
        exact l2 _ hr
      · refine ⟨false, start _ (l0 _ (spec_circle_letter c S s i (by omega) 0 _ st.1 _ (fun ha => ?_) (fun _ _ => rfl))), ⟨fun h => absurd h (by simp), fun h => absurd (h.1 hz) hg⟩⟩
        rw [w0]
        exact l1 _ (spec_circle_letter c S s i (by omega) 1 _ st.2 _ (fun hb => absurd ⟨ha, hb⟩ hg) (fun _ _ => rfl))
    · refine ⟨res, Ev.step (f := fun k => spec_NoCircle.l0 k s ((i + 1 : Nat) : Int) a b c) (fun k => ?_) hr, ⟨fun h => ⟨fun h' => absurd h' hz, h⟩, fun h => h.2⟩⟩
      simp only [spec_NoCircle.l0]
      rw [if_pos (by omega), if_pos (by omega), if_pos (hki.2 hz), hw]

theorem spec_NoCircle_eq (a b c : List Int) (hl : a.length ≤ 1048577) : ∃ res, Ev (fun k => spec_NoCircle.f k a b c) res ∧ (res = true ↔ NoC a b c) := by
  unfold spec_NoCircle.f
  by_cases h : MachOk a b c
  · obtain ⟨S, hn⟩ := h.ste
    obtain ⟨s, hs, h1, h2⟩ := spec_reached c S hn
    obtain ⟨res, hr, hres⟩ := spec_circle_from c S s h1 h2 a.length 0 (by omega)
    refine ⟨res, Ev.bind (spec_MachineOk_eq a b c hl) ?_, ?_⟩
    · rw [decide_eq_true h]
      simp only [if_true]
      exact Ev.bind hs hr
    · rw [hres]
      constructor
      · refine fun h' => ⟨h, fun x hx => ?_⟩
        have hx' := hx.range S (z := 0) ⟨by omega, by omega⟩
        obtain ⟨m, rfl⟩ := Int.eq_ofNat_of_zero_le hx'.1
        exact (good_iff a b m).2 (h' m (by omega) (by omega) hx)
      · exact fun h' x _ _ hx => (good_iff a b x).1 (h'.2 x hx)
  · refine ⟨false, Ev.bind (spec_MachineOk_eq a b c hl) ?_, ?_⟩
    · rw [decide_eq_false h]
      simp only [Bool.false_eq_true, if_false]
      exact Ev.now _
    · exact ⟨fun h' => absurd h' (by simp), fun h' => absurd h'.1 h⟩
end Go.Proofs.YtjfgbpmkboncnaaDoor.Sem

end
section
/- Whether order matters, in plain words: both programs' answers; no condition but a row's length. -/
namespace Go.Proofs.YtjfgbpmkboncnaaDoor.Sem
open Go.RowKit Go.Proofs.YtjfgbpmkboncnaaDoor.PA Go.Proofs.YtjfgbpmkboncnaaDoorW.PrintWords Go.Proofs.YtjfgbpmkboncnaaDoorW.PrintLast Go.Proofs.YtjfgbpmkboncnaaDoorW.PrintMore
set_option linter.unusedVariables false
set_option linter.unusedSimpArgs false

theorem MachOk.steps {a b c : List Int} (h : MachOk a b c) : Ste a b a.length ∧ 0 < a.length := by
  obtain ⟨⟨h1, h2, h3, h4⟩, hs⟩ := h
  refine ⟨⟨rfl, h3, h2, fun x h0 hx => ?_⟩, h1⟩
  have := hs x.toNat (by omega)
  unfold StOk at this
  rw [Int.toNat_of_nonneg h0] at this
  exact ⟨this.1, this.2.1⟩

/-- What AnyOrder answers. -/
def AnyO (a b c : List Int) : Prop := MachOk a b c ∧ ∀ x, Rch a b 0 x → rd b (rd a x) = rd a (rd b x)

theorem impl_anyOrder_eq {a b : List Int} (c : List Int) (S : Ste a b a.length) (hn : 0 < a.length) : ∃ res, Ev (fun k => impl_anyOrder.f k a b c) res ∧ (res = true ↔ ∀ x, Rch a b 0 x → rd b (rd a x) = rd a (rd b x)) := by
  have hz : (0 : Int) ≤ 0 ∧ (0 : Int) < a.length := ⟨by omega, by omega⟩
  obtain ⟨out, ho, R⟩ := impl_reached c S hz
  refine ⟨!out.any (Man.diff a b), ?_, ?_⟩
  · unfold impl_anyOrder.f Man.anyOrderF
    refine Ev.bind ho ?_
    have hin : ∀ x ∈ out, Man.InR a b x := fun x hx => by
      have h := (R.snd x hx).range S hz
      have st := S.st x h.1 h.2
      have lb := S.lb
      unfold Man.InR
      exact ⟨⟨h.1, h.2, by omega⟩, ⟨st.1.1, by omega⟩, st.2⟩
    simp only [if_pos hin]
    exact Ev.now _
  · rw [Bool.not_eq_true', List.any_eq_false]
    unfold Man.diff
    constructor
    · intro h x hx
      have := h x ((R.full x).2 hx)
      simpa using this
    · intro h x hx
      have := h x ((R.full x).1 hx)
      simpa using this

theorem impl_AnyOrder_eq (a b c : List Int) : ∃ res, Ev (fun k => impl_AnyOrder.f k a b c) res ∧ (res = true ↔ AnyO a b c) := by
  unfold impl_AnyOrder.f
  by_cases h : MachOk a b c
  · obtain ⟨S, hn⟩ := h.steps
    obtain ⟨res, hr, e⟩ := impl_anyOrder_eq c S hn
    refine ⟨res, Ev.bind (impl_isMachine_eq a b c) ?_, ?_⟩
    · rw [decide_eq_true h]
      simp only [if_true]
      exact Ev.bind hr (Ev.now _)
    · rw [e]
      exact ⟨fun h' => ⟨h, h'⟩, fun h' => h'.2⟩
  · refine ⟨false, Ev.bind (impl_isMachine_eq a b c) ?_, ?_⟩
    · rw [decide_eq_false h]
      simp only [Bool.false_eq_true, if_false]
      exact Ev.now _
    · exact ⟨fun h' => absurd h' (by simp), fun h' => absurd h'.1 h⟩

end Go.Proofs.YtjfgbpmkboncnaaDoor.Sem

end
section
/- What a machine says after a text, in plain words: the program's answer; no condition but the rows' and the text's lengths. -/
namespace Go.Proofs.YtjfgbpmkboncnaaDoor.Sem
open Go.RowKit Go.Proofs.YtjfgbpmkboncnaaDoor.PA Go.Proofs.YtjfgbpmkboncnaaDoorW.PrintWords Go.Proofs.YtjfgbpmkboncnaaDoorW.PrintLast Go.Proofs.YtjfgbpmkboncnaaDoorW.PrintMore
set_option linter.unusedVariables false
set_option linter.unusedSimpArgs false

/-- The state after the letters. -/
def stateOf (a b : List Int) : List UInt8 → Int → Int
  | [], s => s
  | x :: r, s => stateOf a b r (if x = 48 then rd a s else rd b s)
def bitsOk (l : List UInt8) : Bool := l.all (fun x => x == 48 || x == 49)
/-- What SaysYes answers. -/
def saysB (a b c : List Int) (l : List UInt8) : Bool := decide (MachOk a b c) && (bitsOk l && rd c (stateOf a b l 0) == 1)

theorem bt_list (s : ByteArray) (i : Nat) (h : i < s.data.toList.length) : bt s (i : Int) = (s.data.toList[i].toNat : Int) := by
  unfold bt
  have hlt : (i : Int).toNat < s.size := by rw [Int.toNat_natCast]; rw [Array.length_toList] at h; exact h
  rw [dif_pos hlt]
  have e2 : s[(i : Int).toNat]'hlt = s.data.toList[i] := by
    rw [Array.getElem_toList]
    rfl
  rw [e2]
theorem size_list (s : ByteArray) : s.size = s.data.toList.length := by rw [Array.length_toList]; rfl
theorem u8_48 (x : UInt8) : ((x.toNat : Int) = 48) ↔ x = 48 := by
  constructor
  · intro h; apply UInt8.toNat_inj.1; show x.toNat = 48; omega
  · rintro rfl; rfl
theorem mach_step {a b c : List Int} (h : MachOk a b c) {st : Int} (h0 : 0 ≤ st) (h1 : st < a.length) (x : UInt8) : 0 ≤ (if x = 48 then rd a st else rd b st) ∧ (if x = 48 then rd a st else rd b st) < a.length := by
  have := h.2 st.toNat (by omega)
  unfold StOk at this
  rw [show ((st.toNat : Nat) : Int) = st by omega] at this
  split
  · exact this.1
  · exact this.2.1
theorem state_range {a b c : List Int} (h : MachOk a b c) : ∀ (l : List UInt8) (st : Int), 0 ≤ st → st < a.length → 0 ≤ stateOf a b l st ∧ stateOf a b l st < a.length
  | [], st, h0, h1 => ⟨h0, h1⟩
  | x :: r, st, h0, h1 => by
    have := mach_step h h0 h1 x
    exact state_range h r _ this.1 this.2

theorem impl_state_from {a b c : List Int} (h : MachOk a b c) (s : ByteArray) (hs : s.size ≤ 2000000) (d : Nat) : ∀ (i : Nat) (st : Int), i + d = s.data.toList.length → 0 ≤ st → st < a.length → Ev (fun k => impl_Machine_after.l0 k s st (s.size : Int) (i : Int) a b c) (stateOf a b (s.data.toList.drop i) st) := by
  have hz := size_list s
  have hb' := h.1.2.2.1
  induction d with
  | zero =>
    intro i st hi _ _
    rw [List.drop_of_length_le (by omega)]
    refine Ev.step (f := fun _ => some st) (fun k => ?_) (Ev.now _)
    simp only [impl_Machine_after.l0]
    rw [if_neg (by omega)]
  | succ d ih =>
    intro i st hi h0 h1
    have hlt : i < s.data.toList.length := by omega
    have g1 : (i : Int) < (s.size : Int) := by omega
    have g0 : (0 : Int) ≤ (i : Int) := by omega
    have g2 : st < (b.length : Int) := by omega
    have hb := bt_list s i hlt
    have hw : wrap64 ((i : Int) + 1) = ((i + 1 : Nat) : Int) := by unfold wrap64; omega
    rw [List.drop_eq_getElem_cons hlt]
    have hst := mach_step h h0 h1 s.data.toList[i]
    have ih := ih (i + 1) _ (by omega) hst.1 hst.2
    generalize s.data.toList[i] = x at hb ih ⊢
    show Ev _ (stateOf a b (s.data.toList.drop (i + 1)) (if x = 48 then rd a st else rd b st))
    by_cases hx : x = 48
    · rw [if_pos hx] at ih ⊢
      refine Ev.step (f := fun k => impl_Machine_after.l0 k s (rd a st) (s.size : Int) ((i + 1 : Nat) : Int) a b c) (fun k => ?_) ih
      simp only [impl_Machine_after.l0]
      rw [if_pos g1, if_pos g0, if_pos g1, hb, if_pos ((u8_48 x).2 hx), if_pos h0, if_pos h1, hw]
    · rw [if_neg hx] at ih ⊢
      refine Ev.step (f := fun k => impl_Machine_after.l0 k s (rd b st) (s.size : Int) ((i + 1 : Nat) : Int) a b c) (fun k => ?_) ih
      simp only [impl_Machine_after.l0]
      rw [if_pos g1, if_pos g0, if_pos g1, hb, if_neg (fun e => hx ((u8_48 x).1 e)), if_pos h0, if_pos g2, hw]

theorem drop_all (p : UInt8 → Bool) : ∀ l : List UInt8, (∀ x ∈ l.dropWhile p, p x = true) → ∀ x ∈ l, p x = true
  | [], _, x, hx => absurd hx (by simp)
  | y :: r, h, x, hx => by
    by_cases hy : p y = true
    · rw [List.dropWhile_cons_of_pos hy] at h
      rcases List.mem_cons.1 hx with rfl | hx
      · exact hy
      · exact drop_all p r h x hx
    · rw [List.dropWhile_cons_of_neg hy] at h
      exact absurd (h y List.mem_cons_self) hy
theorem drop_nil (p : UInt8 → Bool) : ∀ l : List UInt8, (∀ x ∈ l, p x = true) → l.dropWhile p = []
  | [], _ => rfl
  | y :: r, h => by
    rw [List.dropWhile_cons_of_pos (h y List.mem_cons_self)]
    exact drop_nil p r (fun x hx => h x (List.mem_cons_of_mem _ hx))
theorem nil_drop (p : UInt8 → Bool) (l : List UInt8) (h : l.dropWhile p = []) : ∀ x ∈ l, p x = true := drop_all p l (by rw [h]; intro x hx; exact absurd hx (by simp))
theorem trim_nil (l cs : List UInt8) : Go.Lib.trimS l cs = [] ↔ ∀ x ∈ l, cs.contains x = true := by
  unfold Go.Lib.trimS Go.Lib.trimLeftS Go.Lib.trimRightS
  constructor
  · intro h x hx
    have h1 := nil_drop _ _ h
    have h2 := drop_all (fun x => cs.contains x) l.reverse (fun y hy => h1 y (List.mem_reverse.2 hy))
    exact h2 x (List.mem_reverse.2 hx)
  · intro h
    rw [drop_nil (fun x => cs.contains x) l.reverse (fun x hx => h x (List.mem_reverse.1 hx))]
    rfl
theorem two_has (x : UInt8) : ([48, 49] : List UInt8).contains x = (x == 48 || x == 49) := by
  show List.elem x [48, 49] = _
  simp only [List.elem]
  cases (x == 48) <;> cases (x == 49) <;> rfl
theorem trim_bits (l : List UInt8) : Go.Lib.trimS l [48, 49] = [] ↔ bitsOk l = true := by
  rw [trim_nil]
  unfold bitsOk
  rw [List.all_eq_true]
  constructor
  · intro h x hx
    rw [← two_has]
    exact h x hx
  · intro h x hx
    rw [two_has]
    exact h x hx

theorem impl_SaysYes_eq (a b c : List Int) (s : ByteArray) (hs : s.size ≤ 2000000) : Ev (fun k => impl_SaysYes.f k a b c s) (saysB a b c s.data.toList) := by
  unfold impl_SaysYes.f saysB
  refine Ev.bind (impl_isMachine_eq a b c) ?_
  by_cases h : MachOk a b c
  · rw [decide_eq_true h]
    simp only [if_true, Bool.true_and]
    have ht : strings_Trim.f s (⟨#[48, 49]⟩ : ByteArray) = some ⟨(Go.Lib.trimS s.data.toList [48, 49]).toArray⟩ := by
      unfold strings_Trim.f Man.trimF
      exact if_pos ⟨by omega, by decide, by decide⟩
    simp only [ht, Option.bind_some]
    have hl : (⟨(Go.Lib.trimS s.data.toList [48, 49]).toArray⟩ : ByteArray).toList = Go.Lib.trimS s.data.toList [48, 49] := by rw [ByteArray.toList_eq]
    rw [hl]
    cases hb : bitsOk s.data.toList with
    | false =>
      simp only [if_neg (fun e => Bool.false_ne_true (hb.symm.trans ((trim_bits _).1 e))), Bool.false_and]
      exact Ev.now _
    | true =>
      simp only [if_pos ((trim_bits _).2 hb), Bool.true_and]
      have hr := state_range h s.data.toList 0 (by omega) (by have := h.1.1; omega)
      have hc := h.1.2.2.2
      have hst : Ev (fun k => impl_Machine_after.f k a b c s) (stateOf a b s.data.toList 0) := by
        unfold impl_Machine_after.f
        exact impl_state_from h s hs s.data.toList.length 0 0 (by omega) (by omega) (by have := h.1.1; omega)
      refine Ev.bind hst ?_
      simp only [if_pos hr.1, if_pos (show stateOf a b s.data.toList 0 < (c.length : Int) by omega)]
      exact Ev.now _
  · rw [decide_eq_false h]
    simp only [Bool.false_eq_true, if_false, Bool.false_and]
    exact Ev.now _
end Go.Proofs.YtjfgbpmkboncnaaDoor.Sem

end
section
/- Long rows of one letter lead to a state that stays, where there are no circles; no condition but that. -/
namespace Go.Proofs.YtjfgbpmkboncnaaDoor.Sem
open Go.RowKit Go.Proofs.YtjfgbpmkboncnaaDoor.PA Go.Proofs.YtjfgbpmkboncnaaDoorW.PrintWords Go.Proofs.YtjfgbpmkboncnaaDoorW.PrintLast Go.Proofs.YtjfgbpmkboncnaaDoorW.PrintMore
set_option linter.unusedVariables false
set_option linter.unusedSimpArgs false

def it (f : Int → Int) : Nat → Int → Int
  | 0, x => x
  | m + 1, x => f (it f m x)
theorem it_in (f : Int → Int) (m : Nat) (x : Int) : it f m (f x) = f (it f m x) := by
  induction m with
  | zero => rfl
  | succ m ih => show f (it f m (f x)) = f (f (it f m x)); rw [ih]
theorem it_add (f : Int → Int) (m k : Nat) (x : Int) : it f (k + m) x = it f k (it f m x) := by
  induction k with
  | zero => rw [Nat.zero_add]; rfl
  | succ k ih => rw [show k + 1 + m = (k + m) + 1 by omega]; show f (it f (k + m) x) = f (it f k (it f m x)); rw [ih]
theorem it_fix (f : Int → Int) (x : Int) (h : f x = x) (m : Nat) : it f m x = x := by
  induction m with
  | zero => rfl
  | succ m ih => show f (it f m x) = x; rw [ih, h]

theorem fixes (f : Int → Int) (R : Int → Prop) (hR : ∀ y, R y → R (f y)) (n : Nat) (hn : ∀ y, R y → 0 ≤ y ∧ y < (n : Int)) (hg : ∀ y, R y → f y ≠ y → ∀ m, it f m (f y) ≠ y) (x : Int) (hx : R x) : f (it f n x) = it f n x := by
  have hit : ∀ m, R (it f m x) := fun m => by
    induction m with
    | zero => exact hx
    | succ m ih => exact hR _ ih
  by_cases hf : f (it f n x) = it f n x
  · exact hf
  · exfalso
    have nofix : ∀ m, m ≤ n → f (it f m x) ≠ it f m x := fun m hm e => hf (by
      have h2 := it_fix f (it f m x) e (n - m)
      rw [← it_add, show n - m + m = n by omega] at h2
      rw [h2]
      exact e)
    have hK : ((List.range (n + 1)).map fun i => it f i x).Nodup := by
      refine List.pairwise_map.2 (List.Pairwise.imp_of_mem ?_ List.pairwise_lt_range)
      intro i j hi hj hij e
      have hi' := List.mem_range.1 hi
      have hj' := List.mem_range.1 hj
      refine hg _ (hit i) (nofix i (by omega)) (j - i - 1) ?_
      rw [it_in]
      show it f (j - i - 1 + 1) (it f i x) = it f i x
      rw [← it_add, show j - i - 1 + 1 + i = j by omega]
      exact e.symm
    have hA : ∀ y ∈ (List.range (n + 1)).map (fun i => it f i x), y ∈ (List.range n).map (fun i : Nat => (i : Int)) := fun y hy => by
      obtain ⟨i, _, rfl⟩ := List.mem_map.1 hy
      have h := hn _ (hit i)
      exact List.mem_map.2 ⟨(it f i x).toNat, List.mem_range.2 (by omega), by omega⟩
    have hl := nodup_le _ _ hK hA
    rw [List.length_map, List.length_map, List.length_range, List.length_range] at hl
    omega

theorem rch_itA {a b : List Int} {z : Int} (m : Nat) : ∀ x, Rch a b z x → Rch a b z (it (rd a) m x) := fun x h => by
  induction m with
  | zero => exact h
  | succ m ih => exact ih.zero
theorem rch_itB {a b : List Int} {z : Int} (m : Nat) : ∀ x, Rch a b z x → Rch a b z (it (rd b) m x) := fun x h => by
  induction m with
  | zero => exact h
  | succ m ih => exact ih.one
theorem long_a {a b c : List Int} (h : NoC a b c) (x : Int) (hx : Rch a b 0 x) : rd a (it (rd a) a.length x) = it (rd a) a.length x := by
  obtain ⟨S, hn⟩ := h.1.ste
  refine fixes (rd a) (fun y => Rch a b 0 y) (fun y hy => hy.zero) a.length (fun y hy => hy.range S ⟨by omega, by omega⟩) (fun y hy hne m e => ?_) x hx
  have h1 : Rch a b (rd a y) (it (rd a) m (rd a y)) := rch_itA m _ Rch.here
  rw [e] at h1
  exact h.2 y hy (rd a y) Rch.here.zero hne h1
theorem long_b {a b c : List Int} (h : NoC a b c) (x : Int) (hx : Rch a b 0 x) : rd b (it (rd b) a.length x) = it (rd b) a.length x := by
  obtain ⟨S, hn⟩ := h.1.ste
  refine fixes (rd b) (fun y => Rch a b 0 y) (fun y hy => hy.one) a.length (fun y hy => hy.range S ⟨by omega, by omega⟩) (fun y hy hne m e => ?_) x hx
  have h1 : Rch a b (rd b y) (it (rd b) m (rd b y)) := rch_itB m _ Rch.here
  rw [e] at h1
  exact h.2 y hy (rd b y) Rch.here.one hne h1
theorem comm_it {a b c : List Int} (h : AnyO a b c) (m : Nat) (x : Int) (hx : Rch a b 0 x) : rd a (it (rd b) m x) = it (rd b) m (rd a x) := by
  induction m with
  | zero => rfl
  | succ m ih =>
    show rd a (rd b (it (rd b) m x)) = rd b (it (rd b) m (rd a x))
    rw [← ih, h.2 _ (rch_itB m x hx)]
theorem state_rep (a b : List Int) (x : UInt8) (f : Int → Int) (hf : ∀ s, (if x = 48 then rd a s else rd b s) = f s) (r : List UInt8) (m : Nat) : ∀ s, stateOf a b (List.replicate m x ++ r) s = stateOf a b r (it f m s) := by
  induction m with
  | zero => intro s; rfl
  | succ m ih =>
    intro s
    rw [List.replicate_succ]
    show stateOf a b (List.replicate m x ++ r) (if x = 48 then rd a s else rd b s) = _
    rw [hf, ih, it_in]
    rfl
theorem state_long (a b : List Int) (n : Nat) (r : List UInt8) : stateOf a b (List.replicate n 48 ++ (List.replicate n 49 ++ r)) 0 = stateOf a b r (it (rd b) n (it (rd a) n 0)) := by
  rw [state_rep a b 48 (rd a) (fun s => if_pos rfl), state_rep a b 49 (rd b) (fun s => if_neg (by decide))]
theorem bits_long (n : Nat) (r : List UInt8) (h : bitsOk r = true) : bitsOk (List.replicate n 48 ++ (List.replicate n 49 ++ r)) = true := by
  unfold bitsOk at h ⊢
  rw [List.all_append, List.all_append, h]
  have h1 : (List.replicate n (48 : UInt8)).all (fun x => x == 48 || x == 49) = true := List.all_eq_true.2 (fun x hx => by rw [List.eq_of_mem_replicate hx]; rfl)
  have h2 : (List.replicate n (49 : UInt8)).all (fun x => x == 48 || x == 49) = true := List.all_eq_true.2 (fun x hx => by rw [List.eq_of_mem_replicate hx]; rfl)
  rw [h1, h2]
  rfl
/-- One more letter does not matter. -/
theorem says_long {a b c : List Int} (h : NoC a b c) (ho : AnyO a b c) (r : List UInt8) (hr : r = [48] ∨ r = [49]) : saysB a b c (List.replicate a.length 48 ++ (List.replicate a.length 49 ++ r)) = saysB a b c (List.replicate a.length 48 ++ (List.replicate a.length 49 ++ [])) := by
  unfold saysB
  have hb : bitsOk r = true := by rcases hr with rfl | rfl <;> rfl
  rw [bits_long _ _ hb, bits_long _ [] rfl, state_long, state_long]
  have h0 : Rch a b 0 (it (rd a) a.length 0) := rch_itA _ _ Rch.here
  have e : stateOf a b r (it (rd b) a.length (it (rd a) a.length 0)) = stateOf a b [] (it (rd b) a.length (it (rd a) a.length 0)) := by
    rcases hr with rfl | rfl
    · show rd a _ = _
      rw [comm_it ho _ _ h0, long_a h 0 Rch.here]
      rfl
    · show rd b _ = _
      rw [long_b h _ h0]
      rfl
  rw [e]
end Go.Proofs.YtjfgbpmkboncnaaDoor.Sem

end
section
/- The contrary of a machine, in plain words: the program's answer; no condition but a row's length. -/
namespace Go.Proofs.YtjfgbpmkboncnaaDoor.Sem
open Go.RowKit Go.Proofs.YtjfgbpmkboncnaaDoor.PA Go.Proofs.YtjfgbpmkboncnaaDoorW.PrintWords Go.Proofs.YtjfgbpmkboncnaaDoorW.PrintLast Go.Proofs.YtjfgbpmkboncnaaDoorW.PrintMore
set_option linter.unusedVariables false
set_option linter.unusedSimpArgs false

/-- What MachineNot answers. -/
def notM (a b c : List Int) : List Int × List Int × List Int := if MachOk a b c then (a, b, c.map fun x => wrap64 (1 - x)) else ([], [], [])

theorem impl_not_from (c x y : List Int) (hc : c.length ≤ 1000) (d : Nat) : ∀ i, i + d = c.length →
    Ev (fun k => impl_MachineNot.l0 k c (c.length : Int) (i : Int) x y ((c.take i).map fun x => wrap64 (1 - x))) (x, y, c.map fun x => wrap64 (1 - x)) := by
  induction d with
  | zero =>
    intro i hi
    rw [List.take_of_length_le (by omega)]
    refine Ev.step (f := fun _ => some (x, y, c.map fun x => wrap64 (1 - x))) (fun k => ?_) (Ev.now _)
    simp only [impl_MachineNot.l0]
    rw [if_neg (by omega)]
  | succ d ih =>
    intro i hi
    have hlt : i < c.length := by omega
    have hw : wrap64 ((i : Int) + 1) = ((i + 1 : Nat) : Int) := by unfold wrap64; omega
    refine Ev.step (f := fun k => impl_MachineNot.l0 k c (c.length : Int) ((i + 1 : Nat) : Int) x y ((c.take (i + 1)).map fun x => wrap64 (1 - x))) (fun k => ?_) (ih (i + 1) (by omega))
    simp only [impl_MachineNot.l0]
    rw [if_pos (by omega), if_pos (by omega), if_pos (by omega), if_pos (by rw [List.length_map, List.length_take]; omega), hw, rd_at c i hlt, List.take_succ_eq_append_getElem hlt, List.map_append]
    rfl

theorem impl_MachineNot_eq (a b c : List Int) : Ev (fun k => impl_MachineNot.f k a b c) (notM a b c) := by
  unfold impl_MachineNot.f notM
  refine Ev.bind (impl_isMachine_eq a b c) ?_
  by_cases h : MachOk a b c
  · obtain ⟨h1, h2, h3, h4⟩ := h.1
    simp only [decide_eq_true h, if_true, Option.bind_some, List.nil_append, List.length_nil, if_pos (show 0 + a.length < 17592186044416 by omega), if_pos (show 0 + b.length < 17592186044416 by omega), if_pos h]
    exact impl_not_from c a b (by omega) c.length 0 (by omega)
  · simp only [decide_eq_false h, Bool.false_eq_true, if_false, if_neg h]
    exact Ev.now _
end Go.Proofs.YtjfgbpmkboncnaaDoor.Sem

end
section
/- The contrary of a machine is one, and its contrary is the machine; no condition. -/
namespace Go.Proofs.YtjfgbpmkboncnaaDoor.Sem
open Go.RowKit Go.Proofs.YtjfgbpmkboncnaaDoor.PA Go.Proofs.YtjfgbpmkboncnaaDoorW.PrintWords Go.Proofs.YtjfgbpmkboncnaaDoorW.PrintLast Go.Proofs.YtjfgbpmkboncnaaDoorW.PrintMore
set_option linter.unusedVariables false
set_option linter.unusedSimpArgs false

theorem wrap_one {x : Int} (h0 : 0 ≤ x) (h1 : x ≤ 1) : wrap64 (1 - x) = 1 - x := by unfold wrap64; omega
theorem bit_of {a b c : List Int} (h : MachOk a b c) {x : Int} (hx : x ∈ c) : 0 ≤ x ∧ x ≤ 1 := by
  obtain ⟨i, hi, rfl⟩ := List.mem_iff_getElem.1 hx
  have := (h.2 i (by have := h.1.2.2.2; omega)).2.2
  rw [rd_at c i hi] at this
  exact this
theorem not_ok {a b c : List Int} (h : MachOk a b c) : MachOk a b (c.map fun x => wrap64 (1 - x)) := by
  refine ⟨⟨h.1.1, h.1.2.1, h.1.2.2.1, by rw [List.length_map]; exact h.1.2.2.2⟩, fun i hi => ⟨(h.2 i hi).1, (h.2 i hi).2.1, ?_⟩⟩
  have hc : i < c.length := by have := h.1.2.2.2; omega
  rw [rd_at _ i (by rw [List.length_map]; exact hc), List.getElem_map]
  obtain ⟨h0, h1⟩ := bit_of h (List.getElem_mem hc)
  rw [wrap_one h0 h1]
  omega
end Go.Proofs.YtjfgbpmkboncnaaDoor.Sem

end
