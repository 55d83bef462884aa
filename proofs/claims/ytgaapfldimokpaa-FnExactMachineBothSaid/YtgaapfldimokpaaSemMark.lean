/- Rows of numbers, marked and held; machines, marked and held; in plain words; no condition but a row's length. -/
import Derived.Test.YtgaapfldimokpaaSemInts
import Derived.Test.YtgaapfldimokpaaPAx7
import Derived.Test.YtgaapfldimokpaaPAx8
import Derived.Test.YtgaapfldimokpaaPAx6
namespace Go.Proofs.Ytgaapfldimokpaa.Sem
open Go.RowKit Go.Proofs.Ytgaapfldimokpaa.PA Go.Proofs.YtgaapfldimokpaaW.PrintWords Go.Proofs.YtgaapfldimokpaaW.PrintLast Go.Proofs.YtgaapfldimokpaaW.PrintMore
set_option linter.unusedVariables false
set_option linter.unusedSimpArgs false

/-- The numbers from one on. -/
def nums (a : Int) (n : Nat) : List Int := (List.range n).map fun i : Nat => a + (i : Int)
theorem nums_length (a : Int) (n : Nat) : (nums a n).length = n := by unfold nums; rw [List.length_map, List.length_range]
theorem nums_succ (a : Int) (n : Nat) : nums a (n + 1) = nums a n ++ [a + (n : Int)] := by unfold nums; rw [List.range_succ, List.map_append]; rfl

theorem mark_from (l : List Int) (a : Int) (ha : 0 ≤ a) (ha' : a ≤ 100000000) (hl : l.length ≤ 1048576) (d : Nat) : ∀ i, i + d = l.length →
    Ev (fun k => laws_markIntS.l0 k (nums a i ++ l.drop i) (a + (i : Int)) (i : Int)) (a + (l.length : Int), nums a l.length) := by
  induction d with
  | zero =>
    intro i hi
    obtain rfl : i = l.length := by omega
    rw [List.drop_of_length_le (Nat.le_refl _), List.append_nil]
    refine Ev.step (f := fun _ => some (a + (l.length : Int), nums a l.length)) (fun k => ?_) (Ev.now _)
    simp only [laws_markIntS.l0, nums_length]
    rw [if_neg (by omega)]
  | succ d ih =>
    intro i hi
    have hlt : i < l.length := by omega
    refine Ev.step (f := fun k => laws_markIntS.l0 k (nums a (i + 1) ++ l.drop (i + 1)) (a + ((i + 1 : Nat) : Int)) ((i + 1 : Nat) : Int)) (fun k => ?_) (ih (i + 1) (by omega))
    have hw : wrap64 ((i : Int) + 1) = ((i + 1 : Nat) : Int) := by unfold wrap64; omega
    have hw2 : wrap64 (a + (i : Int) + 1) = a + ((i + 1 : Nat) : Int) := by unfold wrap64; omega
    simp only [laws_markIntS.l0]
    rw [if_pos (by rw [List.length_append, nums_length, List.length_drop]; omega), if_pos (by omega), hw, hw2, Int.toNat_natCast, List.drop_eq_getElem_cons hlt, set_mid _ _ _ _ _ (nums_length a i), nums_succ, List.append_assoc]
    rfl
theorem mark_eq (l : List Int) (a : Int) (ha : 0 ≤ a) (ha' : a ≤ 100000000) (hl : l.length ≤ 1048576) : Ev (fun k => laws_markIntS.f k l a) (a + (l.length : Int), nums a l.length) := by
  have h := mark_from l a ha ha' hl l.length 0 (by omega)
  unfold laws_markIntS.f
  have e : nums a 0 ++ l.drop 0 = l := by simp [nums]
  rw [e, show a + ((0 : Nat) : Int) = a by simp] at h
  exact h

theorem held_from (a : Int) (n : Nat) (ha : 0 ≤ a) (ha' : a ≤ 100000000) (hn : n ≤ 1048576) (d : Nat) : ∀ i, i + d = n → Ev (fun k => laws_heldIntS.l0 k (nums a n) (a + (i : Int)) (i : Int)) (a + (n : Int)) := by
  induction d with
  | zero =>
    intro i hi
    obtain rfl : i = n := by omega
    refine Ev.step (f := fun _ => some (a + (i : Int))) (fun k => ?_) (Ev.now _)
    simp only [laws_heldIntS.l0, nums_length]
    rw [if_neg (by omega)]
  | succ d ih =>
    intro i hi
    have hlt : i < n := by omega
    have hw : wrap64 ((i : Int) + 1) = ((i + 1 : Nat) : Int) := by unfold wrap64; omega
    have hw2 : wrap64 (a + (i : Int) + 1) = a + ((i + 1 : Nat) : Int) := by unfold wrap64; omega
    have hr : rd (nums a n) (i : Int) = a + (i : Int) := by
      rw [rd_at _ _ (by rw [nums_length]; exact hlt)]
      simp [nums]
    refine Ev.step (f := fun k => laws_heldIntS.l0 k (nums a n) (a + ((i + 1 : Nat) : Int)) ((i + 1 : Nat) : Int)) (fun k => ?_) (ih (i + 1) (by omega))
    simp only [laws_heldIntS.l0, nums_length]
    rw [if_pos (by omega), if_pos (by omega), hr, if_pos rfl, hw, hw2]
theorem held_eq (a : Int) (n : Nat) (ha : 0 ≤ a) (ha' : a ≤ 100000000) (hn : n ≤ 1048576) : Ev (fun k => laws_heldIntS.f k (nums a n) a) (a + (n : Int)) := by
  have h := held_from a n ha ha' hn n 0 (by omega)
  unfold laws_heldIntS.f
  rw [show a + ((0 : Nat) : Int) = a by simp] at h
  exact h

theorem markMachine_gen (a b c : List Int) (x : Int) (h0 : 0 ≤ x) (h1 : x ≤ 10000000) (ha : a.length ≤ 1048576) (hb : b.length ≤ 1048576) (hc : c.length ≤ 1048576) :
    Ev (fun k => laws_markMachine.f k a b c x) (x + (a.length : Int) + b.length + c.length, nums x a.length, nums (x + (a.length : Int)) b.length, nums (x + (a.length : Int) + b.length) c.length) := by
  unfold laws_markMachine.f
  exact Ev.bind (mark_eq a x (by omega) (by omega) ha) (Ev.bind (mark_eq b (x + (a.length : Int)) (by omega) (by omega) hb) (Ev.bind (mark_eq c (x + (a.length : Int) + b.length) (by omega) (by omega) hc) (Ev.now _)))
theorem markMachine_eq (a b c : List Int) (ha : a.length ≤ 1048576) (hb : b.length ≤ 1048576) (hc : c.length ≤ 1048576) :
    Ev (fun k => laws_markMachine.f k a b c 1) (1 + (a.length : Int) + b.length + c.length, nums 1 a.length, nums (1 + (a.length : Int)) b.length, nums (1 + (a.length : Int) + b.length) c.length) := by
  unfold laws_markMachine.f
  exact Ev.bind (mark_eq a 1 (by omega) (by omega) ha) (Ev.bind (mark_eq b (1 + (a.length : Int)) (by omega) (by omega) hb) (Ev.bind (mark_eq c (1 + (a.length : Int) + b.length) (by omega) (by omega) hc) (Ev.now _)))
theorem heldMachine_eq (n m p : Nat) (hn : n ≤ 1048576) (hm : m ≤ 1048576) (hp : p ≤ 1048576) :
    Ev (fun k => laws_heldMachine.f k (nums 1 n) (nums (1 + (n : Int)) m) (nums (1 + (n : Int) + m) p) 1) (1 + (n : Int) + m + p) := by
  unfold laws_heldMachine.f
  refine Ev.bind (held_eq 1 n (by omega) (by omega) hn) ?_
  simp only [if_neg (show ¬ (1 + (n : Int) < 0) by omega)]
  refine Ev.bind (held_eq (1 + (n : Int)) m (by omega) (by omega) hm) ?_
  simp only [if_neg (show ¬ (1 + (n : Int) + m < 0) by omega)]
  refine Ev.bind (held_eq (1 + (n : Int) + m) p (by omega) (by omega) hp) ?_
  simp only [if_neg (show ¬ (1 + (n : Int) + m + p < 0) by omega)]
  exact Ev.now _
end Go.Proofs.Ytgaapfldimokpaa.Sem
