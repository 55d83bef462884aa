/- Draws of triangles, in plain words: named triangles, those made of two, what is drawn; no condition but the reader's own shape. -/
import Derived.Test.YtmeamfkjfpaciaaSemTriB
import Derived.Test.YtmeamfkjfpaciaaSemDraw
import Derived.Test.YtmeamfkjfpaciaaPAx4
import Derived.Test.YtmeamfkjfpaciaaPAx2
import Derived.Test.YtmeamfkjfpaciaaPAx3
import Derived.Test.YtmeamfkjfpaciaaPAx5
import Derived.Test.YtmeamfkjfpaciaaPAx6
import Derived.Test.YtmeamfkjfpaciaaPAx7
import Derived.Test.YtmeamfkjfpaciaaPAx8
import Derived.Test.YtmeamfkjfpaciaaPAx10
namespace Go.Proofs.Ytmeamfkjfpaciaa.Sem
open Go.RowKit Go.Proofs.Ytmeamfkjfpaciaa.PA Go.Proofs.YtmeamfkjfpaciaaW.PrintWords Go.Proofs.YtmeamfkjfpaciaaW.PrintLast Go.Proofs.YtmeamfkjfpaciaaW.PrintMore
set_option linter.unusedVariables false
set_option linter.unusedSimpArgs false
open Man (hB pl ent triRow preT)

theorem nm_data (b : ByteArray) : b.toList = b.data.toList := ByteArray.toList_eq b
theorem ev_one {α : Type} {g : Nat → Option α} (hm : ∀ k, LeO (g k) (g (k + 1))) {x : α} {k : Nat} (h : g k = some x) : Ev g x := ⟨k, fun j hj => by
  induction j with
  | zero => obtain rfl : k = 0 := by omega
            exact h
  | succ j ih =>
    by_cases e : k = j + 1
    · subst e; exact h
    · exact hm j _ (ih (by omega))⟩
def sA : List UInt8 := [97, 116, 108, 101, 97, 115, 116]
def sJ : List UInt8 := [106, 117, 115, 116]
def sB : List UInt8 := [97, 108, 108, 98, 117, 116]
def dg (n : Nat) : UInt8 := UInt8.ofNat (48 + n)
/-- A rule's triangle. -/
def mk (r n : Int) : List Int := (spec_l1Made.f 60 r n).getD []
theorem mk_all : ((List.range 6).all fun r : Nat => (List.range 6).all fun n : Nat => decide (spec_l1Made.f 60 (r : Int) (n : Int) = some (mk r n)) && triB (mk r n)) = true := by kernel_rfl
theorem mk_ev (r n : Nat) (hr : r < 6) (hn : n < 6) : Ev (fun k => spec_l1Made.f k (r : Int) (n : Int)) (mk r n) ∧ triB (mk r n) = true := by
  have := List.all_eq_true.1 (List.all_eq_true.1 mk_all r (List.mem_range.2 hr)) n (List.mem_range.2 hn)
  rw [Bool.and_eq_true, decide_eq_true_eq] at this
  exact ⟨ev_one (fun k => spec_l1Made.mono _ _ k) this.1, this.2⟩
def plain : List ByteArray := [(⟨#[101, 118, 101, 114, 121]⟩ : ByteArray), (⟨#[115, 111, 109, 101]⟩ : ByteArray), (⟨#[110, 111]⟩ : ByteArray), (⟨#[109, 111, 115, 116]⟩ : ByteArray), (⟨#[101, 118, 101, 110]⟩ : ByteArray)]
def pw (i : Nat) : List UInt8 := (plain.getD i ByteArray.empty).data.toList
def rn (i : Nat) : Nat := [0, 1, 0, 0, 0].getD i 0
def byDig (l : List UInt8) : List Nat → List Int × Bool
  | [] => ([], false)
  | n :: r => if l = sA ++ [dg n] ∧ 0 < n then (mk 1 n, true) else if l = sJ ++ [dg n] then (mk 2 n, true) else if l = sB ++ [dg n] then (mk 5 n, true) else byDig l r
def byPlain (l : List UInt8) : List Nat → List Int × Bool
  | [] => byDig l [0, 1, 2, 3, 4, 5]
  | i :: r => if l = pw i then (mk (i : Int) ((rn i : Nat) : Int), true) else byPlain l r
theorem lits : ((List.range 6).all fun n : Nat => decide (spec_l1Number.f 1 (n : Int) = some ⟨#[dg n]⟩)) = true := by kernel_rfl
theorem dig (n : Nat) (h : n ≤ 5) : spec_l1Number.f 1 n = some ⟨#[dg n]⟩ := of_decide_eq_true (List.all_eq_true.1 lits n (List.mem_range.2 (by omega)))
theorem nt_round (a0 : ByteArray) (n : Nat) (h : n ≤ 5) (r : List Nat) (ih : Ev (fun k => spec_NamedTriangle.l1 k a0 ((n + 1 : Nat) : Int)) (byDig a0.data.toList r)) :
    Ev (fun k => spec_NamedTriangle.l1 k a0 (n : Int)) (byDig a0.data.toList (n :: r)) := by
  have hw : wrap64 ((n : Int) + 1) = ((n + 1 : Nat) : Int) := by unfold wrap64; omega
  have hA : ((⟨#[97, 116, 108, 101, 97, 115, 116]⟩ : ByteArray) ++ ⟨#[dg n]⟩).toList = sA ++ [dg n] := by rw [nm_data, ByteArray.data_append]; simp [sA]
  have hJ : ((⟨#[106, 117, 115, 116]⟩ : ByteArray) ++ ⟨#[dg n]⟩).toList = sJ ++ [dg n] := by rw [nm_data, ByteArray.data_append]; simp [sJ]
  have hB : ((⟨#[97, 108, 108, 98, 117, 116]⟩ : ByteArray) ++ ⟨#[dg n]⟩).toList = sB ++ [dg n] := by rw [nm_data, ByteArray.data_append]; simp [sB]
  have hs : (⟨#[dg n]⟩ : ByteArray).size = 1 := rfl
  have m1 := (mk_ev 1 n (by omega) (by omega)).1
  have m2 := (mk_ev 2 n (by omega) (by omega)).1
  have m5 := (mk_ev 5 n (by omega) (by omega)).1
  have down (hno : ¬ (a0.data.toList = sA ++ [dg n] ∧ 0 < n)) : Ev (fun k => spec_NamedTriangle.j2 k a0 (n : Int) (⟨#[dg n]⟩ : ByteArray) false) (byDig a0.data.toList (n :: r)) := by
    rw [byDig, if_neg hno]
    by_cases c : a0.data.toList = sJ ++ [dg n]
    · rw [if_pos c]
      refine Ev.step (f := fun k => (spec_l1Made.f k 2 (n : Int)).bind fun t => some (t, true)) (fun k => ?_) (Ev.bind m2 (Ev.now _))
      simp only [spec_NamedTriangle.j2, Bool.false_eq_true, if_false]
      rw [if_pos (by rw [hs]; omega), hJ, nm_data a0, if_pos c]
    · rw [if_neg c]
      by_cases d : a0.data.toList = sB ++ [dg n]
      · rw [if_pos d]
        refine Ev.step (f := fun k => (spec_l1Made.f k 5 (n : Int)).bind fun t => some (t, true)) (fun k => ?_) (Ev.bind m5 (Ev.now _))
        simp only [spec_NamedTriangle.j2, Bool.false_eq_true, if_false]
        rw [if_pos (by rw [hs]; omega), hJ, nm_data a0, if_neg c, if_pos (by rw [hs]; omega), hB, if_pos d]
      · rw [if_neg d]
        refine Ev.step (fun k => ?_) ih
        simp only [spec_NamedTriangle.j2, Bool.false_eq_true, if_false]
        rw [if_pos (by rw [hs]; omega), hJ, nm_data a0, if_neg c, if_pos (by rw [hs]; omega), hB, if_neg d, hw]
  refine Ev.step (f := fun k => (spec_l1Number.f k (n : Int)).bind fun t171 => (if 7 + t171.size ≤ 9223372036854775807 then (if a0.toList = ((⟨#[97, 116, 108, 101, 97, 115, 116]⟩ : ByteArray) ++ t171).toList then (spec_NamedTriangle.j2 k a0 (n : Int) t171 (decide ((n : Int) > 0))) else (spec_NamedTriangle.j2 k a0 (n : Int) t171 false)) else (none))) (fun k => by
    simp only [spec_NamedTriangle.l1]
    rw [if_pos (by omega)]) ?_
  refine Ev.bind (ev_one (fun k => spec_l1Number.mono _ k) (dig n h)) ?_
  simp only [hs, Nat.reduceAdd, if_pos (show 8 ≤ 9223372036854775807 by omega), hA, nm_data a0]
  by_cases c : a0.data.toList = sA ++ [dg n]
  · simp only [if_pos c]
    by_cases h0 : 0 < n
    · rw [decide_eq_true (show (n : Int) > 0 by omega), byDig, if_pos ⟨c, h0⟩]
      refine Ev.step (f := fun k => (spec_l1Made.f k 1 (n : Int)).bind fun t => some (t, true)) (fun k => ?_) (Ev.bind m1 (Ev.now _))
      simp only [spec_NamedTriangle.j2, if_true]
    · rw [decide_eq_false (show ¬ (n : Int) > 0 by omega)]
      exact down (fun x => h0 x.2)
  · simp only [if_neg c]
    exact down (fun x => c x.1)
theorem nt_digits (a0 : ByteArray) : Ev (fun k => spec_NamedTriangle.l1 k a0 0) (byDig a0.data.toList [0, 1, 2, 3, 4, 5]) := by
  refine nt_round a0 0 (by omega) _ (nt_round a0 1 (by omega) _ (nt_round a0 2 (by omega) _ (nt_round a0 3 (by omega) _ (nt_round a0 4 (by omega) _ (nt_round a0 5 (by omega) _ ?_)))))
  exact ev1 (fun k => by simp only [spec_NamedTriangle.l1]; rw [if_neg (by omega)]; rfl)
theorem nt_plain (a0 : ByteArray) (i : Nat) (hi : i < 5) (r : List Nat) (ih : Ev (fun k => spec_NamedTriangle.l0 k a0 plain ((i + 1 : Nat) : Int)) (byPlain a0.data.toList r)) :
    Ev (fun k => spec_NamedTriangle.l0 k a0 plain (i : Int)) (byPlain a0.data.toList (i :: r)) := by
  have hw : wrap64 ((i : Int) + 1) = ((i + 1 : Nat) : Int) := by unfold wrap64; omega
  have hp : (rdOf ByteArray.empty plain (i : Int)).toList = pw i := by rw [nm_data]; rfl
  have hl : plain.length = 5 := rfl
  have hr : rn i < 6 ∧ rd [0, 1, 2, 3, 4] (i : Int) = (i : Int) ∧ rd [0, 1, 0, 0, 0] (i : Int) = ((rn i : Nat) : Int) := by
    have e : i = 0 ∨ i = 1 ∨ i = 2 ∨ i = 3 ∨ i = 4 := by omega
    rcases e with rfl | rfl | rfl | rfl | rfl <;> exact ⟨by decide, rfl, rfl⟩
  have m := (mk_ev i (rn i) (by omega) hr.1).1
  rw [byPlain]
  by_cases c : a0.data.toList = pw i
  · rw [if_pos c]
    refine Ev.step (f := fun k => (spec_l1Made.f k (i : Int) ((rn i : Nat) : Int)).bind fun t => some (t, true)) (fun k => ?_) (Ev.bind m (Ev.now _))
    simp only [spec_NamedTriangle.l0, Option.bind_some, hr.2.1, hr.2.2]
    rw [if_pos (by omega), if_pos (by omega), hp, nm_data a0, if_pos c, if_pos (by simp; omega), if_pos (by simp; omega)]
  · rw [if_neg c]
    refine Ev.step (fun k => ?_) ih
    simp only [spec_NamedTriangle.l0]
    rw [if_pos (by omega), if_pos (by omega), hp, nm_data a0, if_neg c, hw]
/-- What NamedTriangle of the reference answers. -/
theorem named_ev (a0 : ByteArray) : Ev (fun k => spec_NamedTriangle.f k a0) (byPlain a0.data.toList [0, 1, 2, 3, 4]) := by
  have h0 : Ev (fun k => spec_NamedTriangle.l0 k a0 plain ((5 : Nat) : Int)) (byPlain a0.data.toList []) := by
    refine Ev.step (fun k => ?_) (nt_digits a0)
    simp only [spec_NamedTriangle.l0]
    rw [if_neg (by decide)]
  exact nt_plain a0 0 (by omega) _ (nt_plain a0 1 (by omega) _ (nt_plain a0 2 (by omega) _ (nt_plain a0 3 (by omega) _ (nt_plain a0 4 (by omega) _ h0))))
def names : List ByteArray := [(⟨#[101, 118, 101, 114, 121]⟩ : ByteArray), (⟨#[115, 111, 109, 101]⟩ : ByteArray), (⟨#[110, 111]⟩ : ByteArray), (⟨#[109, 111, 115, 116]⟩ : ByteArray), (⟨#[101, 118, 101, 110]⟩ : ByteArray), (⟨#[97, 116, 108, 101, 97, 115, 116, 50]⟩ : ByteArray), (⟨#[97, 116, 108, 101, 97, 115, 116, 51]⟩ : ByteArray), (⟨#[106, 117, 115, 116, 49]⟩ : ByteArray), (⟨#[106, 117, 115, 116, 50]⟩ : ByteArray), (⟨#[97, 108, 108, 98, 117, 116, 49]⟩ : ByteArray)]
theorem names_eq : spec_l20Names.f = some names := rfl
theorem names_all : ((List.range 10).all fun i : Nat => triB (byPlain (rdOf ByteArray.empty names (i : Int)).data.toList [0, 1, 2, 3, 4]).1) = true := by kernel_rfl
theorem names_tri (i : Int) (h0 : 0 ≤ i) (h : i < 10) : triB (byPlain (rdOf ByteArray.empty names i).data.toList [0, 1, 2, 3, 4]).1 = true := by
  obtain ⟨n, rfl⟩ := Int.eq_ofNat_of_zero_le h0
  exact List.all_eq_true.1 names_all n (List.mem_range.2 (by omega))
/-! ### made of one or two -/
theorem not_ev {t : List Int} (h : triB t = true) (d : Nat) : ∀ (i : Nat) (o : List Int), o.length = i → i + d = 21 → ∃ r, Ev (fun k => spec_NotOf.l0 k t o (i : Int)) r ∧ r.length = 21 := by
  have hl := tri_len h
  induction d with
  | zero =>
    intro i o ho hi
    refine ⟨o, ev1 fun k => ?_, by omega⟩
    simp only [spec_NotOf.l0]
    rw [if_neg (by omega)]
  | succ d ih =>
    intro i o ho hi
    have hw : wrap64 ((i : Int) + 1) = ((i + 1 : Nat) : Int) := by unfold wrap64; omega
    obtain ⟨r, hr, hlr⟩ := ih (i + 1) (o ++ [wrap64 (1 - rd t (i : Int))]) (by rw [List.length_append]; simp; omega) (by omega)
    have ht := triangleOk_ev t (by omega)
    rw [h] at ht
    refine ⟨r, ?_, hlr⟩
    refine Ev.step (f := fun k => (spec_TriangleOk.f k t).bind fun b => if b = true then (spec_NotOf.l0 k t (o ++ [wrap64 (1 - rd t (i : Int))]) ((i + 1 : Nat) : Int)) else some o) (fun k => ?_) (Ev.bind ht (by simp only [if_true]; exact hr))
    simp only [spec_NotOf.l0]
    rw [if_pos (by omega), if_pos (by omega), if_pos (by omega), hw]
theorem both_ev {t u : List Int} (h : triB t = true) (hu : triB u = true) (d : Nat) : ∀ (i : Nat) (o : List Int), o.length = i → i + d = 21 → ∃ r, Ev (fun k => spec_BothOf.l0 k t u o (i : Int)) r ∧ r.length = 21 := by
  have hl := tri_len h
  have hlu := tri_len hu
  induction d with
  | zero =>
    intro i o ho hi
    refine ⟨o, ev1 fun k => ?_, by omega⟩
    simp only [spec_BothOf.l0]
    rw [if_neg (by omega)]
  | succ d ih =>
    intro i o ho hi
    have hw : wrap64 ((i : Int) + 1) = ((i + 1 : Nat) : Int) := by unfold wrap64; omega
    obtain ⟨r, hr, hlr⟩ := ih (i + 1) (o ++ [wrap64 (rd t (i : Int) * rd u (i : Int))]) (by rw [List.length_append]; simp; omega) (by omega)
    have ht := triangleOk_ev t (by omega)
    have ht2 := triangleOk_ev u (by omega)
    rw [h] at ht
    rw [hu] at ht2
    refine ⟨r, ?_, hlr⟩
    refine Ev.step (f := fun k => (spec_TriangleOk.f k t).bind fun b => if b = true then ((spec_TriangleOk.f k u).bind fun c => if c = true then (spec_BothOf.l0 k t u (o ++ [wrap64 (rd t (i : Int) * rd u (i : Int))]) ((i + 1 : Nat) : Int)) else some o) else some o) (fun k => ?_) (Ev.bind ht (by simp only [if_true]; exact Ev.bind ht2 (by simp only [if_true]; exact hr)))
    simp only [spec_BothOf.l0]
    rw [if_pos (by omega), if_pos (by omega), if_pos (by omega), if_pos (by omega), hw]
theorem either_ev {t u : List Int} (h : triB t = true) (hu : triB u = true) (d : Nat) : ∀ (i : Nat) (o : List Int), o.length = i → i + d = 21 → ∃ r, Ev (fun k => spec_EitherOf.l0 k t u o (i : Int)) r ∧ r.length = 21 := by
  have hl := tri_len h
  have hlu := tri_len hu
  induction d with
  | zero =>
    intro i o ho hi
    refine ⟨o, ev1 fun k => ?_, by omega⟩
    simp only [spec_EitherOf.l0]
    rw [if_neg (by omega)]
  | succ d ih =>
    intro i o ho hi
    have hw : wrap64 ((i : Int) + 1) = ((i + 1 : Nat) : Int) := by unfold wrap64; omega
    obtain ⟨r, hr, hlr⟩ := ih (i + 1) (o ++ [wrap64 ((wrap64 (rd t (i : Int) + rd u (i : Int))) - (wrap64 (rd t (i : Int) * rd u (i : Int))))]) (by rw [List.length_append]; simp; omega) (by omega)
    have ht := triangleOk_ev t (by omega)
    have ht2 := triangleOk_ev u (by omega)
    rw [h] at ht
    rw [hu] at ht2
    refine ⟨r, ?_, hlr⟩
    refine Ev.step (f := fun k => (spec_TriangleOk.f k t).bind fun b => if b = true then ((spec_TriangleOk.f k u).bind fun c => if c = true then (spec_EitherOf.l0 k t u (o ++ [wrap64 ((wrap64 (rd t (i : Int) + rd u (i : Int))) - (wrap64 (rd t (i : Int) * rd u (i : Int))))]) ((i + 1 : Nat) : Int)) else some o) else some o) (fun k => ?_) (Ev.bind ht (by simp only [if_true]; exact Ev.bind ht2 (by simp only [if_true]; exact hr)))
    simp only [spec_EitherOf.l0]
    rw [if_pos (by omega), if_pos (by omega), if_pos (by omega), if_pos (by omega), hw]
theorem in1_ev {t : List Int} (h : triB t = true) (a : Nat) (ha : a ≤ 5) (z : Nat) (hn : ∀ o : List Int, o.length = z → ∃ r, Ev (fun k => spec_InsideNot.l0 k t o ((a + 1 : Nat) : Int)) r ∧ r.length = 21) (d : Nat) : ∀ (s : Nat) (o : List Int), s + d = a + 1 → o.length + d = z → z ≤ 100 → ∃ r, Ev (fun k => spec_InsideNot.l1 k t o (a : Int) (s : Int)) r ∧ r.length = 21 := by
  have hl := tri_len h
  have hwa : wrap64 ((a : Int) + 1) = ((a + 1 : Nat) : Int) := by unfold wrap64; omega
  induction d with
  | zero =>
    intro s o hs ho _
    obtain ⟨r, hr, hlr⟩ := hn o (by omega)
    refine ⟨r, Ev.step (fun k => ?_) hr, hlr⟩
    simp only [spec_InsideNot.l1]
    rw [if_neg (by omega), hwa]
  | succ d ih =>
    intro s o hs ho hz
    have hw : wrap64 ((s : Int) + 1) = ((s + 1 : Nat) : Int) := by unfold wrap64; omega
    have hws : wrap64 ((a : Int) - (s : Int)) = ((a - s : Nat) : Int) := by unfold wrap64; omega
    have hr := Man.pl_range a (a - s) ha (by omega)
    have hp := place_eq a (a - s) ha (by omega)
    obtain ⟨r, hr2, hlr⟩ := ih (s + 1) (o ++ [rd t (pl a (a - s))]) (by omega) (by rw [List.length_append]; simp; omega) hz
    refine ⟨r, Ev.step (fun k => ?_) hr2, hlr⟩
    simp only [spec_InsideNot.l1]
    rw [if_pos (by omega), hws, hp, Option.bind_some, if_pos hr.1, if_pos (by omega), if_pos (by omega), hw]
theorem in0_ev {t : List Int} (h : triB t = true) (d : Nat) : ∀ (a : Nat) (o : List Int), a + d = 6 → o.length = a * (a + 1) / 2 → ∃ r, Ev (fun k => spec_InsideNot.l0 k t o (a : Int)) r ∧ r.length = 21 := by
  have hl := tri_len h
  induction d with
  | zero =>
    intro a o ha ho
    obtain rfl : a = 6 := by omega
    refine ⟨o, ?_, ho⟩
    have hj : Ev (fun k => spec_InsideNot.j1 k t o ((6 : Nat) : Int) false) o := ev1 fun k => by simp only [spec_InsideNot.j1, Bool.false_eq_true, if_false]
    refine Ev.step (fun k => ?_) hj
    simp only [spec_InsideNot.l0]
    rw [if_neg (by omega)]
  | succ d ih =>
    intro a o ha ho
    have ht := triangleOk_ev t (by omega)
    rw [h] at ht
    have hz : (a + 1) * (a + 1 + 1) / 2 = a * (a + 1) / 2 + (a + 1) := by
      have e : a = 0 ∨ a = 1 ∨ a = 2 ∨ a = 3 ∨ a = 4 ∨ a = 5 := by omega
      rcases e with rfl | rfl | rfl | rfl | rfl | rfl <;> rfl
    have hz9 : (a + 1) * (a + 1 + 1) / 2 ≤ 100 := by
      have e : a = 0 ∨ a = 1 ∨ a = 2 ∨ a = 3 ∨ a = 4 ∨ a = 5 := by omega
      rcases e with rfl | rfl | rfl | rfl | rfl | rfl <;> decide
    obtain ⟨r, hr, hlr⟩ := in1_ev h a (by omega) ((a + 1) * (a + 1 + 1) / 2) (fun o ho => ih (a + 1) o (by omega) ho) (a + 1) 0 o (by omega) (by omega) hz9
    have hj : Ev (fun k => spec_InsideNot.j1 k t o (a : Int) true) r := Ev.step (fun k => by simp only [spec_InsideNot.j1, if_true]; rfl) hr
    refine ⟨r, Ev.step (f := fun k => (spec_TriangleOk.f k t).bind fun b => spec_InsideNot.j1 k t o (a : Int) b) (fun k => ?_) (Ev.bind ht hj), hlr⟩
    simp only [spec_InsideNot.l0]
    rw [if_pos (by omega)]
/-! ### what is drawn -/
section
variable {b : List Int} (n : Int) (hn : n ≤ 1000)
include hn
theorem tri_end {p m : Int} (hR : Rd b p m) (hm : m + 5 ≤ 1000000) (t : List Int) (ht : t.length = 21) : ∃ r q, Ev (fun k => spec_l20Tri.j1 k n t b p) (r, q) ∧ r.length ≤ 22 := by
  obtain ⟨o, p1, e1, h1⟩ := odd_ok hR (by omega) n (by omega)
  obtain ⟨r2, e2, _, _, _, h2⟩ := pick_ok h1 (by omega) 3 (by omega)
  obtain ⟨r3, e3, l3, u3, _, h3⟩ := pick_ok h2 (by omega) 21 (by omega)
  have u3 := u3 (by omega)
  have st : ∀ {x : List Int × Int}, Ev (fun k => (spec_l20Rd_odd.f k b p n).bind fun bt273 => (if bt273.1 = true then ((spec_l20Rd_pick.f k b bt273.2 3).bind fun bt275 => (if bt275.1 = 0 then (some (([] : List Int), bt275.2)) else (if bt275.1 = 1 then (if t.length < 17592186044416 then (some ((t ++ [1]), bt275.2)) else (none)) else ((spec_l20Rd_pick.f k b bt275.2 21).bind fun bt283 => (if 0 ≤ bt283.1 then (if bt283.1 < (t.length : Int) then (some ((t.set bt283.1.toNat 2), bt283.2)) else (none)) else (none)))))) else (some (t, bt273.2)))) x → Ev (fun k => spec_l20Tri.j1 k n t b p) x := fun h => Ev.step (fun k => by simp only [spec_l20Tri.j1]) h
  cases o with
  | false => exact ⟨t, p1, st (Ev.bind (ev1 e1) (by simp only [Bool.false_eq_true, if_false]; exact Ev.now _)), by omega⟩
  | true =>
    by_cases c0 : r2 = 0
    · refine ⟨[], p1 + 1, st (Ev.bind (ev1 e1) ?_), by simp⟩
      simp only [if_true]
      refine Ev.bind (ev1 e2) ?_
      simp only [if_pos c0]
      exact Ev.now _
    · by_cases c1 : r2 = 1
      · refine ⟨t ++ [1], p1 + 1, st (Ev.bind (ev1 e1) ?_), by rw [List.length_append]; simp; omega⟩
        simp only [if_true]
        refine Ev.bind (ev1 e2) ?_
        simp only [if_neg c0, if_pos c1, if_pos (show t.length < 17592186044416 by omega)]
        exact Ev.now _
      · refine ⟨t.set r3.toNat 2, p1 + 1 + 1, st (Ev.bind (ev1 e1) ?_), by rw [List.length_set]; omega⟩
        simp only [if_true]
        refine Ev.bind (ev1 e2) ?_
        simp only [if_neg c0, if_neg c1]
        refine Ev.bind (ev1 e3) ?_
        simp only [if_pos l3, if_pos (show r3 < (t.length : Int) by omega)]
        exact Ev.now _
theorem tri_bits (d : Nat) : ∀ (i : Nat) (t : List Int) (p m : Int), Rd b p m → m + d + 5 ≤ 1000000 → t.length = i → i + d = 21 → ∃ r q, Ev (fun k => spec_l20Tri.l0 k n t (i : Int) b p) (r, q) ∧ r.length ≤ 22 := by
  induction d with
  | zero =>
    intro i t p m hR hm ht hi
    obtain ⟨r, q, hr, hl⟩ := tri_end n hn hR (by omega) t (by omega)
    refine ⟨r, q, Ev.step (fun k => ?_) hr, hl⟩
    simp only [spec_l20Tri.l0]
    rw [if_neg (by omega)]
  | succ d ih =>
    intro i t p m hR hm ht hi
    have hw : wrap64 ((i : Int) + 1) = ((i + 1 : Nat) : Int) := by unfold wrap64; omega
    obtain ⟨r1, e1, _, _, _, h1⟩ := pick_ok hR (by omega) 2 (by omega)
    obtain ⟨r, q, hr, hl⟩ := ih (i + 1) (t ++ [r1]) (p + 1) (m + 1) h1 (by omega) (by rw [List.length_append]; simp; omega) (by omega)
    refine ⟨r, q, Ev.step (f := fun k => (spec_l20Rd_pick.f k b p 2).bind fun bt => spec_l20Tri.l0 k n (t ++ [bt.1]) ((i + 1 : Nat) : Int) b bt.2) (fun k => ?_) (Ev.bind (ev1 e1) hr), hl⟩
    simp only [spec_l20Tri.l0]
    rw [if_pos (by omega), hw]
    simp only [if_pos (show t.length < 17592186044416 by omega)]
theorem l20Tri_ok {p m : Int} (hR : Rd b p m) (hm : m + 50 ≤ 1000000) : ∃ r q, Ev (fun k => spec_l20Tri.f k b p n) (r, q) ∧ r.length ≤ 22 := by
  obtain ⟨r1, e1, _, _, _, h1⟩ := pick_ok hR (by omega) 4 (by omega)
  obtain ⟨r2, e2, l2, u2, _, h2⟩ := pick_ok h1 (by omega) 10 (by omega)
  have u2 := u2 (by omega)
  obtain ⟨r3, e3, l3, u3, _, h3⟩ := pick_ok h2 (by omega) 10 (by omega)
  have u3 := u3 (by omega)
  obtain ⟨r4, e4, _, _, _, h4⟩ := pick_ok h3 (by omega) 7 (by omega)
  unfold spec_l20Tri.f
  by_cases c : r1 = 0
  · obtain ⟨r, q, hr, hl⟩ := tri_bits n hn 21 0 [] (p + 1) (m + 1) h1 (by omega) rfl (by omega)
    refine ⟨r, q, Ev.bind (ev1 e1) ?_, hl⟩
    simp only [if_pos c]
    exact hr
  · have hN : names.length = 10 := rfl
    have t1 := names_tri r2 l2 u2
    have t2 := names_tri r3 l3 u3
    have ev1' := named_ev (rdOf ByteArray.empty names r2)
    have ev2' := named_ev (rdOf ByteArray.empty names r3)
    obtain ⟨n1, hn1⟩ : ∃ x, x = byPlain (rdOf ByteArray.empty names r2).data.toList [0, 1, 2, 3, 4] := ⟨_, rfl⟩
    obtain ⟨n2, hn2⟩ : ∃ x, x = byPlain (rdOf ByteArray.empty names r3).data.toList [0, 1, 2, 3, 4] := ⟨_, rfl⟩
    rw [← hn1] at t1 ev1'
    rw [← hn2] at t2 ev2'
    have fin : ∀ {w : List Int} {g : Nat → Option (List Int)}, Ev g w → w.length = 21 → ∃ r q, Ev (fun k => (g k).bind fun x => spec_l20Tri.j1 k n x b (p + 1 + 1 + 1 + 1)) (r, q) ∧ r.length ≤ 22 := by
      intro w g hg hw
      obtain ⟨r, q, hr, hl⟩ := tri_end n hn h4 (by omega) w hw
      exact ⟨r, q, Ev.bind hg hr, hl⟩
    obtain ⟨x, hx, hlx⟩ : ∃ x : List Int × Int, Ev (fun k => (if r4 = 0 then ((spec_NotOf.f k n1.1).bind fun t261 => (spec_l20Tri.j1 k n t261 b (p + 1 + 1 + 1 + 1))) else (if r4 = 1 then ((spec_InsideNot.f k n1.1).bind fun t264 => (spec_l20Tri.j1 k n t264 b (p + 1 + 1 + 1 + 1))) else (if r4 = 2 then ((spec_BothOf.f k n1.1 n2.1).bind fun t267 => (spec_l20Tri.j1 k n t267 b (p + 1 + 1 + 1 + 1))) else (if r4 = 3 then ((spec_EitherOf.f k n1.1 n2.1).bind fun t270 => (spec_l20Tri.j1 k n t270 b (p + 1 + 1 + 1 + 1))) else (spec_l20Tri.j1 k n n1.1 b (p + 1 + 1 + 1 + 1))))))) x ∧ x.1.length ≤ 22 := by
      by_cases d0 : r4 = 0
      · obtain ⟨w, hw, hl⟩ := not_ev t1 21 0 [] rfl (by omega)
        obtain ⟨r, q, hr, hlr⟩ := fin (g := fun k => spec_NotOf.f k n1.1) hw hl
        exact ⟨(r, q), by simp only [if_pos d0]; exact hr, hlr⟩
      · by_cases d1 : r4 = 1
        · obtain ⟨w, hw, hl⟩ := in0_ev t1 6 0 [] (by omega) rfl
          obtain ⟨r, q, hr, hlr⟩ := fin (g := fun k => spec_InsideNot.f k n1.1) hw hl
          exact ⟨(r, q), by simp only [if_neg d0, if_pos d1]; exact hr, hlr⟩
        · by_cases d2 : r4 = 2
          · obtain ⟨w, hw, hl⟩ := both_ev t1 t2 21 0 [] rfl (by omega)
            obtain ⟨r, q, hr, hlr⟩ := fin (g := fun k => spec_BothOf.f k n1.1 n2.1) hw hl
            exact ⟨(r, q), by simp only [if_neg d0, if_neg d1, if_pos d2]; exact hr, hlr⟩
          · by_cases d3 : r4 = 3
            · obtain ⟨w, hw, hl⟩ := either_ev t1 t2 21 0 [] rfl (by omega)
              obtain ⟨r, q, hr, hlr⟩ := fin (g := fun k => spec_EitherOf.f k n1.1 n2.1) hw hl
              exact ⟨(r, q), by simp only [if_neg d0, if_neg d1, if_neg d2, if_pos d3]; exact hr, hlr⟩
            · obtain ⟨r, q, hr, hlr⟩ := tri_end n hn h4 (by omega) n1.1 (tri_len t1)
              exact ⟨(r, q), by simp only [if_neg d0, if_neg d1, if_neg d2, if_neg d3]; exact hr, hlr⟩
    refine ⟨x.1, x.2, Ev.bind (ev1 e1) ?_, hlx⟩
    simp only [if_neg c, names_eq, Option.bind_some]
    refine Ev.bind (ev1 e2) ?_
    simp only [if_pos l2, if_pos (show r2 < (names.length : Int) by rw [hN]; exact u2)]
    refine Ev.bind ev1' (Ev.bind (ev1 e3) ?_)
    simp only [if_pos l3, if_pos (show r3 < (names.length : Int) by rw [hN]; exact u3)]
    exact Ev.bind ev2' (Ev.bind (ev1 e4) hx)
end
end Go.Proofs.Ytmeamfkjfpaciaa.Sem
