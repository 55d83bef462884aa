/- The triangle of a machine, in plain words: both programs' answers; no condition but a row's length. -/
import Derived.Test.YtiplbleghaoehaaSemA
import Derived.Test.YtiplbleghaoehaaManTri
import Derived.Test.YtiplbleghaoehaaPAx28
import Derived.Test.YtiplbleghaoehaaPAx27
import Derived.Test.YtiplbleghaoehaaPAx18
namespace Go.Proofs.Ytiplbleghaoehaa.Sem
open Go.RowKit Go.Proofs.Ytiplbleghaoehaa.PA Go.Proofs.YtiplbleghaoehaaW.PrintWords Go.Proofs.YtiplbleghaoehaaW.PrintLast Go.Proofs.YtiplbleghaoehaaW.PrintMore
set_option linter.unusedVariables false
set_option linter.unusedSimpArgs false

theorem spec_state_from {a b c : List Int} (h : MachOk a b c) (s : ByteArray) (hs : s.size ≤ 2000000) (d : Nat) : ∀ (i : Nat) (st : Int), i + d = s.data.toList.length → 0 ≤ st → st < a.length → Ev (fun k => spec_l4State.l0 k s st (i : Int) a b c) (stateOf a b (s.data.toList.drop i) st) := by
  have hz := size_list s
  have hb' := h.1.2.2.1
  induction d with
  | zero =>
    intro i st hi _ _
    rw [List.drop_of_length_le (by omega)]
    refine Ev.step (f := fun _ => some st) (fun k => ?_) (Ev.now _)
    simp only [spec_l4State.l0]
    rw [if_neg (by omega)]
  | succ d ih =>
    intro i st hi h0 h1
    have hlt : i < s.data.toList.length := by omega
    have g1 : (i : Int) < (s.size : Int) := by omega
    have g0 : (0 : Int) ≤ (i : Int) := by omega
    have g2 : st < (b.length : Int) := by omega
    have hb := bt_list s i hlt
    have hw : wrap64 ((i : Int) + 1) = ((i + 1 : Nat) : Int) := by unfold wrap64; omega
    rw [List.drop_eq_getElem_cons hlt]
    have hst := mach_step h h0 h1 s.data.toList[i]
    have ih := ih (i + 1) _ (by omega) hst.1 hst.2
    generalize s.data.toList[i] = x at hb ih ⊢
    show Ev _ (stateOf a b (s.data.toList.drop (i + 1)) (if x = 48 then rd a st else rd b st))
    by_cases hx : x = 48
    · rw [if_pos hx] at ih ⊢
      refine Ev.step (f := fun k => spec_l4State.l0 k s (rd a st) ((i + 1 : Nat) : Int) a b c) (fun k => ?_) ih
      simp only [spec_l4State.l0]
      rw [if_pos g1, if_pos g0, hb, if_pos ((u8_48 x).2 hx), if_pos h0, if_pos h1, hw]
    · rw [if_neg hx] at ih ⊢
      refine Ev.step (f := fun k => spec_l4State.l0 k s (rd b st) ((i + 1 : Nat) : Int) a b c) (fun k => ?_) ih
      simp only [spec_l4State.l0]
      rw [if_pos g1, if_pos g0, hb, if_neg (fun e => hx ((u8_48 x).1 e)), if_pos h0, if_pos g2, hw]
theorem spec_state_eq {a b c : List Int} (h : MachOk a b c) (s : ByteArray) (hs : s.size ≤ 2000000) : Ev (fun k => spec_l4State.f k a b c s) (stateOf a b s.data.toList 0) := by
  unfold spec_l4State.f
  exact spec_state_from h s hs s.data.toList.length 0 0 (by omega) (by omega) (by have := h.1.1; omega)

/-- The text so far: zeros, then ones. -/
def txt (l : List UInt8) : ByteArray := ⟨l.toArray⟩
theorem txt_snoc (l : List UInt8) (x : UInt8) : txt l ++ (⟨#[x]⟩ : ByteArray) = txt (l ++ [x]) := by
  apply ByteArray.ext
  rw [ByteArray.data_append]
  simp [txt]
theorem txt_list (l : List UInt8) : (txt l).data.toList = l := rfl
theorem txt_size (l : List UInt8) : (txt l).size = l.length := rfl
def lets (z : Nat) (j : Nat) : List UInt8 := (List.range j).map fun i => if i < z then 48 else 49
theorem lets_succ (z j : Nat) : lets z (j + 1) = lets z j ++ [if j < z then 48 else 49] := by
  unfold lets
  rw [List.range_succ, List.map_append]
  rfl
theorem lets_len (z j : Nat) : (lets z j).length = j := by unfold lets; rw [List.length_map, List.length_range]
theorem lets_all (al so : Nat) (h : so ≤ al) : lets (al - so) al = List.replicate (al - so) 48 ++ List.replicate so 49 := by
  unfold lets
  apply List.ext_getElem
  · rw [List.length_map, List.length_range, List.length_append, List.length_replicate, List.length_replicate]; omega
  · intro i h1 h2
    rw [List.getElem_map, List.getElem_range, List.getElem_append]
    simp only [List.length_replicate, List.getElem_replicate]
    split <;> simp_all

theorem ent_eq {a b c : List Int} (h : MachOk a b c) (al so : Nat) : rd c (stateOf a b (List.replicate (al - so) 48 ++ List.replicate so 49) 0) = Man.ent (Man.triP a b c) al so := by
  have hn := h.1.1
  have hr := state_range h (List.replicate (al - so) 48 ++ List.replicate so 49) 0 (by omega) (by omega)
  unfold Man.ent Man.triP
  generalize stateOf a b (List.replicate (al - so) 48 ++ List.replicate so 49) 0 = st at hr ⊢
  have := h.2 st.toNat (by omega)
  unfold StOk at this
  rw [Int.toNat_of_nonneg hr.1] at this
  have h3 := this.2.2
  by_cases h1 : rd c st = 1
  · rw [h1]; rfl
  · rw [if_neg (by simpa using h1)]; omega

theorem spec_word {a b c : List Int} (h : MachOk a b c) (al so : Nat) (hal : al ≤ 5) (hso : so ≤ al) (z res : List Int) (hz : z.length ≤ 100)
    (hn : Ev (fun k => spec_TriangleOf.l1 k (z ++ [Man.ent (Man.triP a b c) al so]) (al : Int) ((so + 1 : Nat) : Int) a b c) res) (d : Nat) : ∀ j, j + d = al →
    Ev (fun k => spec_TriangleOf.l2 k z (al : Int) (so : Int) (txt (lets (al - so) j)) (j : Int) a b c) res := by
  have hd : wrap64 ((al : Int) - (so : Int)) = ((al - so : Nat) : Int) := by unfold wrap64; omega
  have h1 := h.1.1
  induction d with
  | zero =>
    intro j hj
    obtain rfl : j = al := by omega
    have hr := state_range h (txt (lets (j - so) j)).data.toList 0 (by omega) (by omega)
    have hc := h.1.2.2.2
    have hw : wrap64 ((so : Int) + 1) = ((so + 1 : Nat) : Int) := by unfold wrap64; omega
    have hs := spec_state_eq h (txt (lets (j - so) j)) (by rw [txt_size, lets_len]; omega)
    refine Ev.step (f := fun k => (spec_l4State.f k a b c (txt (lets (j - so) j))).bind fun t141 => (if 0 ≤ t141 then (if t141 < (c.length : Int) then (if z.length < 17592186044416 then (spec_TriangleOf.l1 k (z ++ [rd c t141]) (j : Int) (wrap64 ((so : Int) + 1)) a b c) else (none)) else (none)) else (none))) (fun k => ?_) (Ev.bind hs ?_)
    · simp only [spec_TriangleOf.l2]
      rw [if_neg (by omega)]
    · simp only [if_pos hr.1, if_pos (show stateOf a b (txt (lets (j - so) j)).data.toList 0 < (c.length : Int) by omega), if_pos (show z.length < 17592186044416 by omega), hw]
      rw [txt_list, lets_all j so hso, ent_eq h]
      exact hn
  | succ d ih =>
    intro j hj
    have ih := ih (j + 1) (by omega)
    have hw : wrap64 ((j : Int) + 1) = ((j + 1 : Nat) : Int) := by unfold wrap64; omega
    have hsz : (txt (lets (al - so) j)).size + 1 ≤ 9223372036854775807 := by rw [txt_size, lets_len]; omega
    refine Ev.step (f := fun k => spec_TriangleOf.l2 k z (al : Int) (so : Int) (txt (lets (al - so) (j + 1))) ((j + 1 : Nat) : Int) a b c) (fun k => ?_) ih
    simp only [spec_TriangleOf.l2]
    rw [if_pos (by omega), hd, hw, lets_succ, ← txt_snoc]
    by_cases hx : j < al - so
    · rw [if_pos (by omega), if_pos hsz, if_pos hx]
    · rw [if_neg (by omega), if_pos hsz, if_neg hx]

theorem spec_row {a b c : List Int} (h : MachOk a b c) (al : Nat) (hal : al ≤ 5) (res : List Int)
    (hn : Ev (fun k => spec_TriangleOf.l0 k (Man.preT (Man.triP a b c) (al + 1)) ((al + 1 : Nat) : Int) a b c) res) (d : Nat) : ∀ so, so + d = al + 1 →
    Ev (fun k => spec_TriangleOf.l1 k (Man.preT (Man.triP a b c) al ++ (List.range so).map (Man.ent (Man.triP a b c) al)) (al : Int) (so : Int) a b c) res := by
  have hw : wrap64 ((al : Int) + 1) = ((al + 1 : Nat) : Int) := by unfold wrap64; omega
  have hl := Man.preT_len (Man.triP a b c) al
  have hl2 : al * al ≤ 5 * 5 := Nat.mul_le_mul hal hal
  induction d with
  | zero =>
    intro so hs
    obtain rfl : so = al + 1 := by omega
    rw [← Man.preT_succ]
    refine Ev.step (f := fun k => spec_TriangleOf.l0 k (Man.preT (Man.triP a b c) (al + 1)) ((al + 1 : Nat) : Int) a b c) (fun k => ?_) hn
    simp only [spec_TriangleOf.l1]
    rw [if_neg (by omega), hw]
  | succ d ih =>
    intro so hs
    have ih := ih (so + 1) (by omega)
    rw [Man.inT_succ, ← List.append_assoc] at ih
    have hwd := spec_word h al so hal (by omega) _ res (by rw [List.length_append, List.length_map, List.length_range]; omega) ih al 0 (by omega)
    refine Ev.step (f := fun k => spec_TriangleOf.l2 k (Man.preT (Man.triP a b c) al ++ (List.range so).map (Man.ent (Man.triP a b c) al)) (al : Int) (so : Int) (txt (lets (al - so) 0)) ((0 : Nat) : Int) a b c) (fun k => ?_) hwd
    simp only [spec_TriangleOf.l1]
    rw [if_pos (by omega)]
    rfl

theorem spec_tri_from {a b c : List Int} (h : AnyO a b c) (hl : a.length ≤ 1048577) (d : Nat) : ∀ al, al + d = 6 → Ev (fun k => spec_TriangleOf.l0 k (Man.preT (Man.triP a b c) al) (al : Int) a b c) (Man.triRow (Man.triP a b c)) := by
  induction d with
  | zero =>
    intro al ha
    obtain rfl : al = 6 := by omega
    refine Ev.step (f := fun k => spec_TriangleOf.j1 k (Man.preT (Man.triP a b c) 6) ((6 : Nat) : Int) false a b c) (fun k => ?_) (Ev.step (f := fun _ => some (Man.triRow (Man.triP a b c))) (fun k => ?_) (Ev.now _))
    · simp only [spec_TriangleOf.l0]
      rw [if_neg (by omega)]
    · simp only [spec_TriangleOf.j1]
      rw [if_neg (by decide)]
      rfl
  | succ d ih =>
    intro al ha
    have ih := spec_row h.1 al (by omega) _ (ih (al + 1) (by omega)) (al + 1) 0 (by omega)
    rw [List.range_zero, List.map_nil, List.append_nil] at ih
    obtain ⟨r, hr, e⟩ := spec_AnyOrder_eq a b c hl
    have e := e.2 h
    subst e
    refine Ev.step (f := fun k => (spec_AnyOrder.f k a b c).bind fun t140 => (spec_TriangleOf.j1 k (Man.preT (Man.triP a b c) al) (al : Int) t140 a b c)) (fun k => ?_) (Ev.bind hr (Ev.step (f := fun k => spec_TriangleOf.l1 k (Man.preT (Man.triP a b c) al) (al : Int) ((0 : Nat) : Int) a b c) (fun k => ?_) ih))
    · simp only [spec_TriangleOf.l0]
      rw [if_pos (by omega)]
    · simp only [spec_TriangleOf.j1]
      rfl

open Classical in
/-- What TriangleOf answers. -/
noncomputable def triOf (a b c : List Int) : List Int := if AnyO a b c then Man.triRow (Man.triP a b c) else []
theorem triOf_len (a b c : List Int) : (triOf a b c).length ≤ 100 := by
  unfold triOf
  split
  · have := Man.preT_len (Man.triP a b c) 6
    unfold Man.triRow
    omega
  · simp

theorem spec_TriangleOf_eq (a b c : List Int) (hl : a.length ≤ 1048577) : Ev (fun k => spec_TriangleOf.f k a b c) (triOf a b c) := by
  unfold spec_TriangleOf.f triOf
  by_cases h : AnyO a b c
  · rw [if_pos h]
    exact spec_tri_from h hl 6 0 (by omega)
  · rw [if_neg h]
    obtain ⟨r, hr, e⟩ := spec_AnyOrder_eq a b c hl
    have e : r = false := by
      cases r with
      | false => rfl
      | true => exact absurd (e.1 rfl) h
    subst e
    refine Ev.step (f := fun k => (spec_AnyOrder.f k a b c).bind fun t140 => (spec_TriangleOf.j1 k [] 0 t140 a b c)) (fun k => ?_) (Ev.bind hr (Ev.step (f := fun _ => some []) (fun k => ?_) (Ev.now _)))
    · simp only [spec_TriangleOf.l0]
      rw [if_pos (by decide)]
    · simp only [spec_TriangleOf.j1]
      rw [if_neg (by decide)]

theorem impl_TriangleOf_eq (a b c : List Int) : Ev (fun k => impl_TriangleOf.f k a b c) (triOf a b c) := by
  unfold impl_TriangleOf.f Man.triF triOf
  by_cases h : MachOk a b c
  · obtain ⟨S, hn⟩ := h.steps
    obtain ⟨r, hr, e⟩ := impl_anyOrder_eq c S hn
    refine Ev.bind (impl_isMachine_eq a b c) ?_
    rw [decide_eq_true h]
    simp only [if_true]
    refine Ev.bind hr ?_
    cases r with
    | true => rw [if_pos (show AnyO a b c from ⟨h, e.1 rfl⟩)]; simp only [if_true, if_pos h]; exact Ev.now _
    | false => rw [if_neg (show ¬ AnyO a b c from fun h' => absurd (e.2 h'.2) (by simp))]; simp only [Bool.false_eq_true, if_false]; exact Ev.now _
  · refine Ev.bind (impl_isMachine_eq a b c) ?_
    rw [decide_eq_false h, if_neg (show ¬ AnyO a b c from fun h' => h h'.1)]
    simp only [Bool.false_eq_true, if_false]
    exact Ev.now _
end Go.Proofs.Ytiplbleghaoehaa.Sem
