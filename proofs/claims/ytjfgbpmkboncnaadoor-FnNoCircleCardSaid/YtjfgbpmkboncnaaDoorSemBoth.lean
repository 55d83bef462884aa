/- Two machines at once, in plain words: both programs' answers; no condition but a row's length. -/
import Derived.Test.YtjfgbpmkboncnaaDoorSemMach
import Derived.Test.YtjfgbpmkboncnaaDoorPAx16
namespace Go.Proofs.YtjfgbpmkboncnaaDoor.Sem
open Go.RowKit Go.Proofs.YtjfgbpmkboncnaaDoor.PA Go.Proofs.YtjfgbpmkboncnaaDoorW.PrintWords Go.Proofs.YtjfgbpmkboncnaaDoorW.PrintLast Go.Proofs.YtjfgbpmkboncnaaDoorW.PrintMore
set_option linter.unusedVariables false
set_option linter.unusedSimpArgs false

/-- Places of two, from one on. -/
def seg (f : Nat → Nat → Int) (i j d : Nat) : List Int := (List.range' j d).map (f i)
def segs (f : Nat → Nat → Int) (m i d : Nat) : List Int := (List.range' i d).flatMap fun i => seg f i 0 m
theorem seg_succ (f : Nat → Nat → Int) (i j d : Nat) : seg f i j (d + 1) = f i j :: seg f i (j + 1) d := by unfold seg; rw [List.range'_succ, List.map_cons]
theorem segs_succ (f : Nat → Nat → Int) (m i d : Nat) : segs f m i (d + 1) = seg f i 0 m ++ segs f m (i + 1) d := by unfold segs; rw [List.range'_succ, List.flatMap_cons]
theorem put_seg (o : List Int) (f : Nat → Nat → Int) (i j d : Nat) : o ++ seg f i j (d + 1) = (o ++ [f i j]) ++ seg f i (j + 1) d := by rw [seg_succ, List.append_assoc]; rfl
theorem seg_length (f : Nat → Nat → Int) (i j d : Nat) : (seg f i j d).length = d := by unfold seg; rw [List.length_map, List.length_range']
theorem segs_length (f : Nat → Nat → Int) (m d : Nat) : ∀ i, (segs f m i d).length = d * m := by
  induction d with
  | zero => intro i; simp [segs]
  | succ d ih => intro i; rw [segs_succ, List.length_append, seg_length, ih, Nat.add_mul]; omega
def fz (a b : List Int) (i j : Nat) : Int := wrap64 (wrap64 (rd a i * (b.length : Int)) + rd b j)
def fy (a b : List Int) (i j : Nat) : Int := wrap64 (rd a i * rd b j)

/-- What MachineBoth answers. -/
def bothM (a0 a1 a2 b0 b1 b2 : List Int) : List Int × List Int × List Int × Bool :=
  if MachOk a0 a1 a2 ∧ MachOk b0 b1 b2 ∧ a0.length * b0.length ≤ 12 then (segs (fz a0 b0) b0.length 0 a0.length, segs (fz a1 b1) b0.length 0 a0.length, segs (fy a2 b2) b0.length 0 a0.length, true) else ([], [], [], false)

theorem wr (i : Nat) (h : i < 1000000) : wrap64 ((i : Int) + 1) = ((i + 1 : Nat) : Int) := by unfold wrap64; omega

section
variable {a0 a1 a2 b0 b1 b2 : List Int} (A : MachOk a0 a1 a2) (B : MachOk b0 b1 b2)
include A B
theorem spec_both_in (i : Nat) (hi : i < a0.length) (r : List Int × List Int × List Int × Bool) (d : Nat) : ∀ (j : Nat) (o0 o1 o2 : List Int), o0.length + d ≤ 1000 → o1.length + d ≤ 1000 → o2.length + d ≤ 1000 → j + d = b0.length →
    Ev (fun k => spec_MachineBoth.l0 k (b0.length : Int) ((i + 1 : Nat) : Int) a0 a1 a2 b0 b1 b2 (o0 ++ seg (fz a0 b0) i j d) (o1 ++ seg (fz a1 b1) i j d) (o2 ++ seg (fy a2 b2) i j d)) r →
    Ev (fun k => spec_MachineBoth.l1 k (b0.length : Int) (i : Int) (j : Int) a0 a1 a2 b0 b1 b2 o0 o1 o2) r := by
  obtain ⟨⟨p1, p2, p3, p4⟩, _⟩ := A
  obtain ⟨⟨q1, q2, q3, q4⟩, _⟩ := B
  have hi6 : i < 1000000 := by omega
  induction d with
  | zero =>
    intro j o0 o1 o2 _ _ _ hj h
    simp only [seg, List.range'_zero, List.map_nil, List.append_nil] at h
    refine Ev.step (fun k => ?_) h
    simp only [spec_MachineBoth.l1]
    rw [if_neg (by omega), wr i hi6]
  | succ d ih =>
    intro j o0 o1 o2 h0 h1 h2 hj h
    have hj6 : j < 1000000 := by omega
    have x1 : (j : Int) < (b0.length : Int) := by omega
    have y1 : (j : Int) < (b2.length : Int) := by omega
    have x2 : (0 : Int) ≤ (i : Int) := by omega
    have x3 : (i : Int) < (a0.length : Int) := by omega
    have x4 : (0 : Int) ≤ (j : Int) := by omega
    have x5 : (j : Int) < (b0.length : Int) := x1
    have x6 : o0.length < 17592186044416 := by omega
    have x7 : (i : Int) < (a1.length : Int) := by omega
    have x8 : (j : Int) < (b1.length : Int) := by omega
    have x9 : o1.length < 17592186044416 := by omega
    have x10 : (i : Int) < (a2.length : Int) := by omega
    have x11 : (j : Int) < (b2.length : Int) := y1
    have x12 : o2.length < 17592186044416 := by omega
    rw [put_seg, put_seg, put_seg] at h
    have ih := ih (j + 1) (o0 ++ [fz a0 b0 i j]) (o1 ++ [fz a1 b1 i j]) (o2 ++ [fy a2 b2 i j]) (by rw [List.length_append, List.length_singleton]; omega) (by rw [List.length_append, List.length_singleton]; omega) (by rw [List.length_append, List.length_singleton]; omega) (by omega) h
    refine Ev.step (fun k => ?_) ih
    simp only [spec_MachineBoth.l1]
    rw [if_pos x1, if_pos x2, if_pos x3, if_pos x4, if_pos x5, if_pos x6, if_pos x7, if_pos x8, if_pos x9, if_pos x10, if_pos x11, if_pos x12, wr j hj6]
    unfold fz fy
    rw [q3]
theorem spec_both_from (hm : a0.length * b0.length ≤ 12) (d : Nat) : ∀ (i : Nat) (o0 o1 o2 : List Int), o0.length + d * b0.length ≤ 500 → o1.length + d * b0.length ≤ 500 → o2.length + d * b0.length ≤ 500 → i + d = a0.length →
    Ev (fun k => spec_MachineBoth.l0 k (b0.length : Int) (i : Int) a0 a1 a2 b0 b1 b2 o0 o1 o2) (o0 ++ segs (fz a0 b0) b0.length i d, o1 ++ segs (fz a1 b1) b0.length i d, o2 ++ segs (fy a2 b2) b0.length i d, true) := by
  have q := B.1
  induction d with
  | zero =>
    intro i o0 o1 o2 _ _ _ hi
    simp only [segs, List.range'_zero, List.flatMap_nil, List.append_nil]
    refine Ev.step (f := fun _ => some (o0, o1, o2, true)) (fun k => ?_) (Ev.now _)
    simp only [spec_MachineBoth.l0]
    rw [if_neg (by omega)]
  | succ d ih =>
    intro i o0 o1 o2 h0 h1 h2 hi
    rw [Nat.add_mul] at h0 h1 h2
    have ih := ih (i + 1) (o0 ++ seg (fz a0 b0) i 0 b0.length) (o1 ++ seg (fz a1 b1) i 0 b0.length) (o2 ++ seg (fy a2 b2) i 0 b0.length) (by rw [List.length_append, seg_length]; omega) (by rw [List.length_append, seg_length]; omega) (by rw [List.length_append, seg_length]; omega) (by omega)
    rw [segs_succ, segs_succ, segs_succ, ← List.append_assoc, ← List.append_assoc, ← List.append_assoc]
    refine Ev.step (f := fun k => spec_MachineBoth.l1 k (b0.length : Int) (i : Int) ((0 : Nat) : Int) a0 a1 a2 b0 b1 b2 o0 o1 o2) (fun k => ?_) (spec_both_in A B i (by omega) _ b0.length 0 o0 o1 o2 (by omega) (by omega) (by omega) (by omega) ih)
    simp only [spec_MachineBoth.l0]
    rw [if_pos (by omega)]
    rfl
end

theorem mul_small {n m : Nat} (hn : n ≤ 12) (hm : m ≤ 12) : wrap64 ((n : Int) * (m : Int)) = ((n * m : Nat) : Int) := by
  have h : n * m ≤ 144 := Nat.mul_le_mul hn hm
  rw [← Int.natCast_mul]
  unfold wrap64
  omega

theorem spec_MachineBoth_eq (a0 a1 a2 b0 b1 b2 : List Int) (ha : a0.length ≤ 1048577) (hb : b0.length ≤ 1048577) : Ev (fun k => spec_MachineBoth.f k a0 a1 a2 b0 b1 b2) (bothM a0 a1 a2 b0 b1 b2) := by
  unfold spec_MachineBoth.f bothM
  have no : Ev (fun k => spec_MachineBoth.j0 k true a0 a1 a2 b0 b1 b2) (([], [], [], false) : List Int × List Int × List Int × Bool) := ev1 (fun k => by simp only [spec_MachineBoth.j0, if_true])
  refine Ev.bind (spec_MachineOk_eq a0 a1 a2 ha) ?_
  by_cases A : MachOk a0 a1 a2
  · simp only [decide_eq_true A, if_true]
    refine Ev.bind (spec_MachineOk_eq b0 b1 b2 hb) ?_
    by_cases B : MachOk b0 b1 b2
    · simp only [decide_eq_true B, if_true, mul_small A.1.2.1 B.1.2.1]
      by_cases hm : a0.length * b0.length ≤ 12
      · rw [if_pos ⟨A, B, hm⟩, decide_eq_false (show ¬ ((a0.length * b0.length : Nat) : Int) > 12 by omega)]
        have h := spec_both_from A B hm a0.length 0 [] [] [] (by simp; omega) (by simp; omega) (by simp; omega) (by omega)
        simp only [List.nil_append] at h
        refine Ev.step (fun k => ?_) h
        simp only [spec_MachineBoth.j0, Bool.false_eq_true, if_false]
        rfl
      · rw [if_neg (fun h => hm h.2.2), decide_eq_true (show ((a0.length * b0.length : Nat) : Int) > 12 by omega)]
        exact no
    · simp only [decide_eq_false B, Bool.false_eq_true, if_false]
      rw [if_neg (fun h => B h.2.1)]
      exact no
  · simp only [decide_eq_false A, Bool.false_eq_true, if_false]
    rw [if_neg (fun h => A h.1)]
    exact no
theorem bothM_len (a0 a1 a2 b0 b1 b2 : List Int) : (bothM a0 a1 a2 b0 b1 b2).1.length ≤ 12 ∧ (bothM a0 a1 a2 b0 b1 b2).2.1.length ≤ 12 ∧ (bothM a0 a1 a2 b0 b1 b2).2.2.1.length ≤ 12 := by
  unfold bothM
  split
  · rename_i h
    simp only [segs_length]
    exact ⟨h.2.2, h.2.2, h.2.2⟩
  · simp
end Go.Proofs.YtjfgbpmkboncnaaDoor.Sem
