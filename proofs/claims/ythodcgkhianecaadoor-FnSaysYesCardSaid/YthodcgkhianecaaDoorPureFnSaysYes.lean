/- The law FnSaysYes over plain bytes: it answers true, for every code; no condition. -/
import Derived.Test.YthodcgkhianecaaDoorSemA
import Derived.Test.YthodcgkhianecaaDoorSemTriI
import Derived.Test.YthodcgkhianecaaDoorPAx23
import Derived.Test.YthodcgkhianecaaDoorPAx21
namespace Go.Proofs.YthodcgkhianecaaDoor.Sem
open Go.RowKit Go.Proofs.YthodcgkhianecaaDoor.PA Go.Proofs.YthodcgkhianecaaDoorW.PrintWords Go.Proofs.YthodcgkhianecaaDoorW.PrintLast Go.Proofs.YthodcgkhianecaaDoorW.PrintMore
set_option linter.unusedVariables false
set_option linter.unusedSimpArgs false

theorem ext_list (s : ByteArray) (i j : Nat) : (s.extract i j).data.toList = (s.data.toList.drop i).take (j - i) := by
  rw [ByteArray.data_extract, Array.toList_extract]
theorem app_list (s t : ByteArray) : (s ++ t).data.toList = s.data.toList ++ t.data.toList := by
  rw [ByteArray.data_append, Array.toList_append]
theorem drop_two (l : List UInt8) (i : Nat) (h : i + 1 < l.length) : l = l.take i ++ l[i] :: l[i + 1] :: l.drop (i + 2) := by
  rw [← List.drop_eq_getElem_cons h, ← List.drop_eq_getElem_cons (by omega), List.take_append_drop]
theorem take_one (l : List UInt8) (i : Nat) (h : i < l.length) : (l.drop i).take 1 = [l[i]] := by
  rw [List.drop_eq_getElem_cons h]
  rfl
theorem says_swap {a b c : List Int} (H : AnyO a b c) (p r : List UInt8) (x y : UInt8) : saysB a b c (p ++ y :: x :: r) = saysB a b c (p ++ x :: y :: r) := by
  unfold saysB bitsOk
  rw [state_app, state_app, state_swap H y x r _ (rch_state p 0 .here), List.all_append, List.all_append, List.all_cons, List.all_cons, List.all_cons, List.all_cons]
  congr 2
  cases (y == 48 || y == 49) <;> cases (x == 48 || x == 49) <;> rfl
theorem says_tri {a b c : List Int} (H : AnyO a b c) (l : List UInt8) (hb : bitsOk l = true) : saysB a b c l = Man.triP a b c l.length (ones l) := by
  unfold saysB Man.triP
  rw [decide_eq_true H.1, hb, Bool.true_and, Bool.true_and, state_sort H l 0 .here]
theorem bits_snoc (l : List UInt8) (x : UInt8) (h : bitsOk l = true) (hx : x = 48 ∨ x = 49) : bitsOk (l ++ [x]) = true := by
  unfold bitsOk at h ⊢
  rw [List.all_append, h, Bool.true_and]
  rcases hx with rfl | rfl <;> rfl
theorem ones_snoc (l : List UInt8) (x : UInt8) : ones (l ++ [x]) = ones l + (if x = 48 then 0 else 1) := by
  unfold ones
  rw [List.countP_append, List.countP_singleton]
  by_cases h : x = 48 <;> simp [h]
section
variable {a b c : List Int} (H : AnyO a b c) (s : ByteArray) (hs : s.size ≤ 9)
include H hs
theorem sy_end (hb : bitsOk s.data.toList = true) : Ev (fun k => (impl_TriangleOf.f k a b c).bind fun t419 => ((impl_PlaceOf.f (s.size : Int) ((ones s.data.toList : Nat) : Int)).bind fun t422 => (if t422 < 0 then (some true) else (if t422 < (t419.length : Int) then (if 0 ≤ t422 then (some (saysB a b c s.data.toList == ((rd t419 t422) == 1))) else (none)) else (some false))))) true := by
  have hz := size_list s
  have ho := ones_le s.data.toList
  have ht := impl_TriangleOf_eq a b c
  have e : triOf a b c = Man.triRow (Man.triP a b c) := by unfold triOf; rw [if_pos H]
  rw [e] at ht
  refine Ev.bind ht ?_
  unfold impl_PlaceOf.f
  by_cases c5 : (s.size : Int) > 5
  · simp only [if_neg (show ¬ (s.size : Int) < 0 by omega), if_pos c5, Option.bind_some, if_pos (show (-1 : Int) < 0 by omega)]
    exact Ev.now _
  · have hp := Man.pl_eq s.size (ones s.data.toList) (by omega) (by omega)
    have hr := Man.pl_range s.size (ones s.data.toList) (by omega) (by omega)
    have hl := triRow_len (Man.triP a b c)
    simp only [if_neg (show ¬ (s.size : Int) < 0 by omega), if_neg c5, if_neg (show ¬ ((ones s.data.toList : Nat) : Int) < 0 by omega), if_neg (show ¬ ((ones s.data.toList : Nat) : Int) > (s.size : Int) by omega), hp, Option.bind_some, if_neg (show ¬ Man.pl s.size (ones s.data.toList) < 0 by omega), if_pos (show Man.pl s.size (ones s.data.toList) < ((Man.triRow (Man.triP a b c)).length : Int) by omega), if_pos hr.1]
    rw [triRow_at _ _ _ (by omega) (by omega), ent_one, says_tri H _ hb, ← hz, beq_self_eq_true]
    exact Ev.now _
theorem sy_swap (i : Nat) (h1 : 1 ≤ i) (hi : i < s.size) : (((s.extract 0 (i - 1) ++ s.extract i (i + 1)) ++ s.extract (i - 1) i) ++ s.extract (i + 1) s.size).size ≤ 9 ∧ saysB a b c (((s.extract 0 (i - 1) ++ s.extract i (i + 1)) ++ s.extract (i - 1) i) ++ s.extract (i + 1) s.size).data.toList = saysB a b c s.data.toList := by
  have hz := size_list s
  constructor
  · simp only [ByteArray.size_append, ByteArray.size_extract]
    omega
  · rw [app_list, app_list, app_list, ext_list, ext_list, ext_list, ext_list]
    obtain ⟨j, rfl⟩ : ∃ j, i = j + 1 := ⟨i - 1, by omega⟩
    rw [show j + 1 - 1 = j by omega, show j + 1 + 1 - (j + 1) = 1 by omega, show j + 1 - j = 1 by omega, take_one _ _ (by omega), take_one _ _ (by omega), List.drop_zero, Nat.sub_zero, List.take_of_length_le (i := s.size - (j + 1 + 1)) (by rw [List.length_drop]; omega)]
    conv => rhs; rw [drop_two s.data.toList j (by omega)]
    rw [List.append_assoc, List.append_assoc]
    exact says_swap H _ _ _ _
theorem sy_go (d : Nat) : ∀ (i : Nat) (x : Int), i + d = s.size → bitsOk (s.data.toList.take i) = true → x = ((ones (s.data.toList.take i) : Nat) : Int) → Ev (fun k => laws_FnSaysYes.l0 k s (saysB a b c s.data.toList) x (i : Int) a b c) true := by
  have hz := size_list s
  induction d with
  | zero =>
    intro i x hi hb hx
    have ht : s.data.toList.take i = s.data.toList := List.take_of_length_le (by omega)
    rw [ht] at hb hx
    refine Ev.step (fun k => ?_) (sy_end H s hs hb)
    simp only [laws_FnSaysYes.l0]
    rw [if_neg (by omega), hx]
  | succ d ih =>
    intro i x hi hb hx
    have hlt : i < s.data.toList.length := by omega
    have hw : wrap64 ((i : Int) + 1) = ((i + 1 : Nat) : Int) := by unfold wrap64; omega
    have hol := ones_le (s.data.toList.take i)
    have htl : (s.data.toList.take i).length ≤ i := List.length_take_le ..
    have hbt := bt_list s i hlt
    have htk : s.data.toList.take (i + 1) = s.data.toList.take i ++ [s.data.toList[i]] := (List.take_append_getElem hlt).symm
    -- a letter that is one
    have step : ∀ x' : Int, s.data.toList[i] = 48 ∨ s.data.toList[i] = 49 → x' = ((ones (s.data.toList.take (i + 1)) : Nat) : Int) → Ev (fun k => laws_FnSaysYes.j2 k s (saysB a b c s.data.toList) x' (i : Int) false a b c) true := by
      intro x' hl hx'
      have hn := ih (i + 1) x' (by omega) (by rw [htk]; exact bits_snoc _ _ hb hl) hx'
      by_cases h0 : i = 0
      · refine Ev.step (fun k => ?_) hn
        simp only [laws_FnSaysYes.j2, Bool.false_eq_true, if_false]
        rw [if_neg (by omega), hw]
      · obtain ⟨hsz, hsw⟩ := sy_swap H s hs i (by omega) (by omega)
        have hs2 := impl_SaysYes_eq a b c _ (show (((s.extract 0 (i - 1) ++ s.extract i (i + 1)) ++ s.extract (i - 1) i) ++ s.extract (i + 1) s.size).size ≤ 2000000 by omega)
        rw [hsw] at hs2
        have hw0 : wrap64 ((i : Int) - 1) = ((i - 1 : Nat) : Int) := by unfold wrap64; omega
        have z1 : (s.extract 0 (i - 1)).size ≤ 9 := by rw [ByteArray.size_extract]; omega
        have z2 : (s.extract i (i + 1)).size ≤ 9 := by rw [ByteArray.size_extract]; omega
        have z3 : (s.extract (i - 1) i).size ≤ 9 := by rw [ByteArray.size_extract]; omega
        have z4 : (s.extract (i + 1) s.size).size ≤ 9 := by rw [ByteArray.size_extract]; omega
        have body : Ev (fun k => (impl_SaysYes.f k a b c ((((s.extract 0 (i - 1)) ++ (s.extract i (i + 1))) ++ (s.extract (i - 1) i)) ++ (s.extract (i + 1) s.size))).bind fun t424 => (if (t424 != saysB a b c s.data.toList) = true then (some false) else (laws_FnSaysYes.l0 k s (saysB a b c s.data.toList) x' ((i + 1 : Nat) : Int) a b c))) true := by
          refine Ev.bind hs2 ?_
          simp only [bne_self_eq_false, Bool.false_eq_true, if_false]
          exact hn
        refine Ev.step (fun k => ?_) body
        simp only [laws_FnSaysYes.j2, Bool.false_eq_true, if_false, hw, hw0, Int.toNat_natCast]
        rw [if_pos (by omega), if_pos (by omega), if_pos (by omega), if_pos (by omega), if_pos (by omega), if_pos (by omega), if_pos (by omega), if_pos (by omega), if_pos (by omega), if_pos (by rw [ByteArray.size_append]; omega), if_pos (by omega), if_pos (by rw [ByteArray.size_append, ByteArray.size_append]; omega)]
    have x1 : ((s.data.toList[i]).toNat : Int) = 48 ↔ s.data.toList[i] = 48 := u8_48 _
    have x2 : ((s.data.toList[i]).toNat : Int) = 49 ↔ s.data.toList[i] = 49 := u8_49 _
    by_cases c1 : s.data.toList[i] = 49
    · have h48 : ¬ s.data.toList[i] = 48 := by rw [c1]; decide
      have e1 : wrap64 (x + 1) = ((ones (s.data.toList.take (i + 1)) : Nat) : Int) := by
        rw [htk, ones_snoc, if_neg h48, hx]
        unfold wrap64; omega
      have hj := step (wrap64 (x + 1)) (Or.inr c1) e1
      refine Ev.step (f := fun k => laws_FnSaysYes.j1 k s (saysB a b c s.data.toList) (wrap64 (x + 1)) (i : Int) a b c) (fun k => ?_) (Ev.step (fun k => ?_) hj)
      · simp only [laws_FnSaysYes.l0]
        rw [if_pos (by omega), if_pos (by omega), hbt, if_pos (x2.2 c1)]
      · simp only [laws_FnSaysYes.j1]
        rw [if_pos (by omega), if_pos (by omega), hbt, if_neg (fun e => h48 (x1.1 e)), x2.2 c1]
        rfl
    · by_cases c0 : s.data.toList[i] = 48
      · have e1 : x = ((ones (s.data.toList.take (i + 1)) : Nat) : Int) := by
          rw [htk, ones_snoc, if_pos c0, hx]
          rfl
        have hj := step x (Or.inl c0) e1
        refine Ev.step (f := fun k => laws_FnSaysYes.j1 k s (saysB a b c s.data.toList) x (i : Int) a b c) (fun k => ?_) (Ev.step (fun k => ?_) hj)
        · simp only [laws_FnSaysYes.l0]
          rw [if_pos (by omega), if_pos (by omega), hbt, if_neg (fun e => c1 (x2.1 e))]
        · simp only [laws_FnSaysYes.j1]
          rw [if_pos (by omega), if_pos (by omega), hbt, if_pos (x1.2 c0)]
      · have hno : saysB a b c s.data.toList = false := by
          have : bitsOk s.data.toList = false := by
            unfold bitsOk
            rw [List.all_eq_false]
            exact ⟨_, List.getElem_mem hlt, by rw [Bool.not_eq_true, beq_eq_false_iff_ne.mpr c0, beq_eq_false_iff_ne.mpr c1]; rfl⟩
          unfold saysB
          rw [this, Bool.false_and, Bool.and_false]
        have hj : Ev (fun k => laws_FnSaysYes.j2 k s (saysB a b c s.data.toList) x (i : Int) true a b c) true := by
          refine ev1 fun k => ?_
          simp only [laws_FnSaysYes.j2, if_true]
          rw [hno]
          rfl
        refine Ev.step (f := fun k => laws_FnSaysYes.j1 k s (saysB a b c s.data.toList) x (i : Int) a b c) (fun k => ?_) (Ev.step (fun k => ?_) hj)
        · simp only [laws_FnSaysYes.l0]
          rw [if_pos (by omega), if_pos (by omega), hbt, if_neg (fun e => c1 (x2.1 e))]
        · simp only [laws_FnSaysYes.j1]
          rw [if_pos (by omega), if_pos (by omega), hbt, if_neg (fun e => c0 (x1.1 e)), bne_iff_ne.mpr (fun e => c1 (x2.1 e))]
end
end Go.Proofs.YthodcgkhianecaaDoor.Sem
namespace Go.Proofs.YthodcgkhianecaaDoor.Pure
open Go.RowKit Go.Proofs.YthodcgkhianecaaDoor.PA Go.Proofs.YthodcgkhianecaaDoorW.PrintWords Go.Proofs.YthodcgkhianecaaDoorW.PrintLast Go.Proofs.YthodcgkhianecaaDoorW.PrintMore
set_option linter.unusedVariables false
set_option linter.unusedSimpArgs false
theorem FnSaysYes (l0 : List Int) (b0 : l0.length ≤ 9223372036854775807) (w0 : ∀ x ∈ l0, (Lit.int .u8 x).wf = true) : ∃ k, laws_FnSaysYes.f k l0 = some true := by
  refine Ev.rounds (g := fun k => laws_FnSaysYes.f k l0) ?_
  unfold laws_FnSaysYes.f
  by_cases hl : (l0.length : Int) > 1048576
  · simp only [if_pos hl]
    exact Ev.now _
  · simp only [if_neg hl]
    obtain ⟨a, b, c, s, hd, ⟨h1, h2, h3⟩, hs⟩ := Sem.drawSays_ok w0
    refine Ev.bind hd (Ev.bind (Sem.impl_SaysYes_eq a b c s (by omega)) (Ev.bind (Sem.spec_SaysYes_eq a b c s (by omega) (by omega)) ?_))
    simp only [bne_self_eq_false, Bool.false_eq_true, if_false]
    obtain ⟨r, hr, hrr⟩ := Sem.impl_AnyOrder_eq a b c
    refine Ev.bind hr ?_
    cases r with
    | false =>
      simp only [Bool.false_eq_true, if_false, Sem.alive_ok, Option.bind_some]
      exact Ev.now _
    | true =>
      simp only [if_true]
      exact Sem.sy_go (hrr.1 rfl) s hs s.size 0 0 (by omega) rfl rfl
end Go.Proofs.YthodcgkhianecaaDoor.Pure
