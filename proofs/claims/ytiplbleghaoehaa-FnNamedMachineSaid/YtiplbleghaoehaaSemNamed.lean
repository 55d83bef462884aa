/- The machines of names, in plain words: the reference's answer is looked up in a table; no condition. -/
import Derived.Test.YtiplbleghaoehaaSemA
import Derived.Test.YtiplbleghaoehaaPAx9
namespace Go.Proofs.Ytiplbleghaoehaa.Sem
open Go.RowKit Go.Proofs.Ytiplbleghaoehaa.PA Go.Proofs.YtiplbleghaoehaaW.PrintWords Go.Proofs.YtiplbleghaoehaaW.PrintLast Go.Proofs.YtiplbleghaoehaaW.PrintMore
set_option linter.unusedVariables false
set_option linter.unusedSimpArgs false

def sE : List UInt8 := [101, 118, 101, 114, 121]
def sS : List UInt8 := [115, 111, 109, 101]
def sN : List UInt8 := [110, 111]
def sV : List UInt8 := [101, 118, 101, 110]
def sA : List UInt8 := [97, 116, 108, 101, 97, 115, 116]
def sJ : List UInt8 := [106, 117, 115, 116]
def dg (n : Nat) : UInt8 := UInt8.ofNat (48 + n)
/-- A machine that counts. -/
def cntM (st : Nat) (y : List Int) : List Int × List Int × List Int × Bool := ((List.range st).map (fun i : Nat => (i : Int)), (List.range st).map (fun i : Nat => ((min (i + 1) (st - 1) : Nat) : Int)), y, true)
/-- What a name's machine is; `l` is the name. -/
def byDigit (l : List UInt8) : List Nat → List Int × List Int × List Int × Bool
  | [] => ([], [], [], false)
  | n :: r => if l = sA ++ [dg n] ∧ 0 < n then cntM (n + 1) (List.replicate n 0 ++ [1]) else if l = sJ ++ [dg n] then cntM (n + 2) (List.replicate n 0 ++ [1, 0]) else byDigit l r
def namedM (l : List UInt8) : List Int × List Int × List Int × Bool :=
  if l = sE then ([1, 1], [0, 1], [1, 0], true) else if l = sS then cntM 2 [0, 1] else if l = sN then cntM 2 [1, 0] else if l = sV then ([0, 1], [1, 0], [1, 0], true) else byDigit l [0, 1, 2, 3, 4, 5]

theorem nm_data (b : ByteArray) : b.toList = b.data.toList := ByteArray.toList_eq b
theorem lits : ((List.range 6).all fun n : Nat => decide (spec_l1Number.f 1 (n : Int) = some ⟨#[dg n]⟩)) = true := by kernel_rfl
theorem dig (n : Nat) (h : n ≤ 5) : spec_l1Number.f 1 n = some ⟨#[dg n]⟩ := of_decide_eq_true (List.all_eq_true.1 lits n (List.mem_range.2 (by omega)))
theorem lits1 : ((List.range 6).all fun n : Nat => decide (spec_l4Count.f 20 (wrap64 ((n : Int) + 1)) false (List.replicate n 0 ++ [1]) = some ((cntM (n + 1) (List.replicate n 0 ++ [1])).1, (cntM (n + 1) (List.replicate n 0 ++ [1])).2.1, List.replicate n 0 ++ [1]))) = true := by kernel_rfl
theorem count_lit (n : Nat) (h : n ≤ 5) : spec_l4Count.f 20 (wrap64 ((n : Int) + 1)) false (List.replicate n 0 ++ [1]) = some ((cntM (n + 1) (List.replicate n 0 ++ [1])).1, (cntM (n + 1) (List.replicate n 0 ++ [1])).2.1, List.replicate n 0 ++ [1]) := of_decide_eq_true (List.all_eq_true.1 lits1 n (List.mem_range.2 (by omega)))
theorem lits2 : ((List.range 6).all fun n : Nat => decide (spec_l4Count.f 20 (wrap64 ((n : Int) + 2)) false (List.replicate n 0 ++ [1, 0]) = some ((cntM (n + 2) (List.replicate n 0 ++ [1, 0])).1, (cntM (n + 2) (List.replicate n 0 ++ [1, 0])).2.1, List.replicate n 0 ++ [1, 0]))) = true := by kernel_rfl
theorem count_lit2 (n : Nat) (h : n ≤ 5) : spec_l4Count.f 20 (wrap64 ((n : Int) + 2)) false (List.replicate n 0 ++ [1, 0]) = some ((cntM (n + 2) (List.replicate n 0 ++ [1, 0])).1, (cntM (n + 2) (List.replicate n 0 ++ [1, 0])).2.1, List.replicate n 0 ++ [1, 0]) := of_decide_eq_true (List.all_eq_true.1 lits2 n (List.mem_range.2 (by omega)))
theorem ev_one {α : Type} {g : Nat → Option α} (hm : ∀ k, LeO (g k) (g (k + 1))) {x : α} {k : Nat} (h : g k = some x) : Ev g x := ⟨k, fun j hj => by
  induction j with
  | zero => obtain rfl : k = 0 := by omega
            exact h
  | succ j ih =>
    by_cases e : k = j + 1
    · subst e; exact h
    · exact hm j _ (ih (by omega))⟩

theorem spec_round (a0 : ByteArray) (n : Nat) (h : n ≤ 5) (r : List Nat) (ih : Ev (fun k => spec_NamedMachine.l0 k a0 ((n + 1 : Nat) : Int)) (byDigit a0.data.toList r)) :
    Ev (fun k => spec_NamedMachine.l0 k a0 (n : Int)) (byDigit a0.data.toList (n :: r)) := by
  have hw : wrap64 ((n : Int) + 1) = ((n + 1 : Nat) : Int) := by unfold wrap64; omega
  have hA : ((⟨#[97, 116, 108, 101, 97, 115, 116]⟩ : ByteArray) ++ ⟨#[dg n]⟩).toList = sA ++ [dg n] := by rw [nm_data, ByteArray.data_append]; simp [sA]
  have hJ : ((⟨#[106, 117, 115, 116]⟩ : ByteArray) ++ ⟨#[dg n]⟩).toList = sJ ++ [dg n] := by rw [nm_data, ByteArray.data_append]; simp [sJ]
  have hs : (⟨#[dg n]⟩ : ByteArray).size = 1 := rfl
  have down (hno : ¬ (a0.data.toList = sA ++ [dg n] ∧ 0 < n)) : Ev (fun k => spec_NamedMachine.j1 k a0 (n : Int) (List.replicate n 0) false) (byDigit a0.data.toList (n :: r)) := by
    unfold byDigit
    rw [if_neg hno]
    refine Ev.step (f := fun k => (spec_l1Number.f k (n : Int)).bind fun t170 => (if 4 + t170.size ≤ 9223372036854775807 then (if a0.toList = ((⟨#[106, 117, 115, 116]⟩ : ByteArray) ++ t170).toList then ((some (([1, 0] : List Int) : List Int)).bind fun y171 => (if (List.replicate n (0 : Int)).length + y171.length < 17592186044416 then ((spec_l4Count.f k (wrap64 ((n : Int) + 2)) false (List.replicate n 0 ++ y171)).bind fun bt177 => (some (bt177.1, bt177.2.1, bt177.2.2, true))) else (none))) else (spec_NamedMachine.l0 k a0 (wrap64 ((n : Int) + 1)))) else (none))) (fun k => by simp only [spec_NamedMachine.j1, Bool.false_eq_true, if_false]) ?_
    refine Ev.bind (ev_one (fun k => spec_l1Number.mono _ k) (dig n h)) ?_
    simp only [hs, Nat.reduceAdd, if_pos (show 5 ≤ 9223372036854775807 by omega), hJ, nm_data a0]
    by_cases c : a0.data.toList = sJ ++ [dg n]
    · simp only [if_pos c, Option.bind_some, List.length_replicate, List.length_cons, List.length_nil]
      simp only [if_pos (show n + (0 + 1 + 1) < 17592186044416 by omega)]
      exact Ev.bind (ev_one (fun k => spec_l4Count.mono _ _ _ k) (count_lit2 n h)) (Ev.now _)
    · simp only [if_neg c, hw]
      exact ih
  refine Ev.step (f := fun k => (spec_l1Number.f k (n : Int)).bind fun t157 => (if 7 + t157.size ≤ 9223372036854775807 then (if a0.toList = ((⟨#[97, 116, 108, 101, 97, 115, 116]⟩ : ByteArray) ++ t157).toList then (spec_NamedMachine.j1 k a0 (n : Int) (List.replicate n 0) (decide ((n : Int) > 0))) else (spec_NamedMachine.j1 k a0 (n : Int) (List.replicate n 0) false)) else (none))) (fun k => by
    simp only [spec_NamedMachine.l0, Option.bind_some, Int.toNat_natCast]
    rw [if_pos (by omega), if_pos (by omega), if_pos (by omega)]) ?_
  refine Ev.bind (ev_one (fun k => spec_l1Number.mono _ k) (dig n h)) ?_
  simp only [hs, Nat.reduceAdd, if_pos (show 8 ≤ 9223372036854775807 by omega), hA, nm_data a0]
  by_cases c : a0.data.toList = sA ++ [dg n]
  · simp only [if_pos c]
    by_cases h0 : 0 < n
    · rw [decide_eq_true (show (n : Int) > 0 by omega)]
      unfold byDigit
      rw [if_pos ⟨c, h0⟩]
      refine Ev.step (f := fun k => (spec_l4Count.f k (wrap64 ((n : Int) + 1)) false (List.replicate n 0 ++ [1])).bind fun bt161 => (some (bt161.1, bt161.2.1, bt161.2.2, true))) (fun k => by
        simp only [spec_NamedMachine.j1, if_true, List.length_replicate]
        rw [if_pos (by omega)]) ?_
      exact Ev.bind (ev_one (fun k => spec_l4Count.mono _ _ _ k) (count_lit n h)) (Ev.now _)
    · rw [decide_eq_false (show ¬ (n : Int) > 0 by omega)]
      exact down (fun x => h0 x.2)
  · simp only [if_neg c]
    exact down (fun x => c x.1)

theorem spec_NamedMachine_eq (a0 : ByteArray) : Ev (fun k => spec_NamedMachine.f k a0) (namedM a0.data.toList) := by
  unfold spec_NamedMachine.f namedM
  simp only [nm_data a0]
  rw [show ([101, 118, 101, 114, 121] : List UInt8) = sE from rfl, show ([115, 111, 109, 101] : List UInt8) = sS from rfl, show ([110, 111] : List UInt8) = sN from rfl, show ([101, 118, 101, 110] : List UInt8) = sV from rfl]
  by_cases h1 : a0.data.toList = sE
  · simp only [if_pos h1]; exact Ev.now _
  · simp only [if_neg h1]
    by_cases h2 : a0.data.toList = sS
    · simp only [if_pos h2]; exact Ev.bind (ev_one (fun k => spec_l4Count.mono _ _ _ k) (k := 20) (x := ([0, 1], [1, 1], [0, 1])) (by kernel_rfl)) (Ev.now _)
    · simp only [if_neg h2]
      by_cases h3 : a0.data.toList = sN
      · simp only [if_pos h3]; exact Ev.bind (ev_one (fun k => spec_l4Count.mono _ _ _ k) (k := 20) (x := ([0, 1], [1, 1], [1, 0])) (by kernel_rfl)) (Ev.now _)
      · simp only [if_neg h3]
        by_cases h4 : a0.data.toList = sV
        · simp only [if_pos h4]; exact Ev.bind (ev_one (fun k => spec_l4Count.mono _ _ _ k) (k := 20) (x := ([0, 1], [1, 0], [1, 0])) (by kernel_rfl)) (Ev.now _)
        · simp only [if_neg h4]
          refine spec_round a0 0 (by omega) _ (spec_round a0 1 (by omega) _ (spec_round a0 2 (by omega) _ (spec_round a0 3 (by omega) _ (spec_round a0 4 (by omega) _ (spec_round a0 5 (by omega) _ ?_)))))
          exact ev1 (fun k => by simp only [spec_NamedMachine.l0]; rw [if_neg (by omega)]; rfl)

def lenOk (m : List Int × List Int × List Int × Bool) : Prop := m.1.length ≤ 12 ∧ m.2.1.length ≤ 12 ∧ m.2.2.1.length ≤ 12
theorem byDigit_len (l : List UInt8) : ∀ r : List Nat, (∀ n ∈ r, n ≤ 5) → lenOk (byDigit l r)
  | [], _ => by unfold byDigit lenOk; simp
  | n :: r, h => by
    have hn := h n List.mem_cons_self
    unfold byDigit
    split
    · unfold lenOk cntM; simp; omega
    · split
      · unfold lenOk cntM; simp; omega
      · exact byDigit_len l r (fun m hm => h m (List.mem_cons_of_mem _ hm))
theorem namedM_len (l : List UInt8) : lenOk (namedM l) := by
  unfold namedM
  split
  · unfold lenOk; simp
  · split
    · unfold lenOk cntM; simp
    · split
      · unfold lenOk cntM; simp
      · split
        · unfold lenOk; simp
        · exact byDigit_len l _ (by decide)
end Go.Proofs.Ytiplbleghaoehaa.Sem
