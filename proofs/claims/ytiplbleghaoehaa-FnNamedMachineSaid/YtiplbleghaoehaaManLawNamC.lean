/- The law FnNamedMachine: what its calls answer; no condition but the bytes' range. -/
import Derived.Test.YtiplbleghaoehaaManLawNam
import Derived.Test.YtiplbleghaoehaaSemNamedI
import Derived.Test.YtiplbleghaoehaaSemTri
import Derived.Test.YtiplbleghaoehaaPAx4
namespace Go.Proofs.Ytiplbleghaoehaa.Sem
open Go.RowKit Go.Proofs.Ytiplbleghaoehaa.PA Go.Proofs.YtiplbleghaoehaaW.PrintWords Go.Proofs.YtiplbleghaoehaaW.PrintLast Go.Proofs.YtiplbleghaoehaaW.PrintMore
set_option linter.unusedVariables false
set_option linter.unusedSimpArgs false

theorem ev_some {α : Type} {g : Nat → Option α} {x : α} (h : Ev g x) : ∃ k, g k = Option.some x := by
  obtain ⟨k, hk⟩ := h
  exact ⟨k, hk k (Nat.le_refl _)⟩
theorem ev_same {α : Type} {g : Nat → Option α} {x y : α} (h : Ev g x) (h' : Ev g y) : x = y := by
  obtain ⟨k, hk⟩ := h
  obtain ⟨j, hj⟩ := h'
  exact Option.some.inj ((hk (k + j) (by omega)).symm.trans (hj (k + j) (by omega)))
theorem sameInts_from (l : List Int) (hl : l.length ≤ 1000) (d : Nat) : ∀ i, i + d = l.length → Ev (fun k => laws_sameInts.l0 k l l (i : Int)) true := by
  induction d with
  | zero =>
    intro i hi
    exact ev1 (fun k => by simp only [laws_sameInts.l0]; rw [if_neg (by omega)])
  | succ d ih =>
    intro i hi
    have hr := ih (i + 1) (by omega)
    have hw : wrap64 ((i : Int) + 1) = ((i + 1 : Nat) : Int) := w64 (by omega) (by omega)
    have g1 : (i : Int) < (l.length : Int) := by omega
    have g0 : 0 ≤ (i : Int) := by omega
    refine Ev.step (fun k => by simp only [laws_sameInts.l0]; rfl) ?_
    simp only [if_pos g1, if_pos g0, if_true, hw]
    exact hr
theorem sameInts_self (l : List Int) (hl : l.length ≤ 1000) : Ev (fun k => laws_sameInts.f k l l) true := by
  unfold laws_sameInts.f
  simp only [if_true]
  exact sameInts_from l hl l.length 0 (by omega)
theorem sameMachine_self (a b c : List Int) (ha : a.length ≤ 1000) (hb : b.length ≤ 1000) (hc : c.length ≤ 1000) : Ev (fun k => laws_sameMachine.f k a b c a b c) true := by
  unfold laws_sameMachine.f
  refine Ev.bind (sameInts_self a ha) ?_
  simp only [if_true]
  refine Ev.bind (sameInts_self b hb) ?_
  simp only [if_true]
  refine Ev.bind (sameInts_self c hc) ?_
  exact Ev.now _
theorem triRow_len (p : Nat → Nat → Bool) : (Man.triRow p).length = 21 := rfl
/-- Which names have machines. -/
theorem namedM_cases (l : List UInt8) : namedM l = ([], [], [], false) ∨ l = sE ∨ l = sS ∨ l = sN ∨ l = sV ∨ (∃ n : Nat, 1 ≤ n ∧ n ≤ 5 ∧ l = sA ++ [dg n]) ∨ (∃ n : Nat, n ≤ 5 ∧ l = sJ ++ [dg n]) := by
  by_cases h1 : l = sE
  · exact Or.inr (Or.inl h1)
  by_cases h2 : l = sS
  · exact Or.inr (Or.inr (Or.inl h2))
  by_cases h3 : l = sN
  · exact Or.inr (Or.inr (Or.inr (Or.inl h3)))
  by_cases h4 : l = sV
  · exact Or.inr (Or.inr (Or.inr (Or.inr (Or.inl h4))))
  by_cases h5 : ∃ n : Nat, 1 ≤ n ∧ n ≤ 5 ∧ l = sA ++ [dg n]
  · exact Or.inr (Or.inr (Or.inr (Or.inr (Or.inr (Or.inl h5)))))
  by_cases h6 : ∃ n : Nat, n ≤ 5 ∧ l = sJ ++ [dg n]
  · exact Or.inr (Or.inr (Or.inr (Or.inr (Or.inr (Or.inr h6)))))
  left
  unfold namedM
  rw [if_neg h1, if_neg h2, if_neg h3, if_neg h4]
  exact byDigit_no l _ (by decide) (fun n a b e => h5 ⟨n, a, b, e⟩) (fun n b e => h6 ⟨n, b, e⟩)
theorem of_list {s : ByteArray} {l : List UInt8} (h : s.data.toList = l) : s = ⟨l.toArray⟩ := by
  subst h
  rfl
theorem good {s : ByteArray} {p : Nat → Nat → Bool} {l0 l1 l2 : List Int} (h : Man.NTri s p) (ha : impl_AnyOrder.f 100 l0 l1 l2 = some true) (ht : Man.triRow (Man.triP l0 l1 l2) = Man.triRow p) : ∃ k4 k5 k6 p, Man.NamFacts2 k4 k5 k6 s l0 l1 l2 p := by
  have hE : Ev (fun k => impl_AnyOrder.f k l0 l1 l2) true := ev_one (fun k => impl_AnyOrder.mono _ _ _ k) ha
  obtain ⟨o, i, ee⟩ := impl_AnyOrder_eq l0 l1 l2
  have hA : AnyO l0 l1 l2 := ee.1 (ev_same i hE)
  have e : triOf l0 l1 l2 = Man.triRow p := by unfold triOf; rw [if_pos hA, ht]
  obtain ⟨k5, h5⟩ := ev_some (impl_TriangleOf_eq l0 l1 l2)
  rw [e] at h5
  obtain ⟨k6, h6⟩ := ev_some (sameInts_self (Man.triRow p) (by rw [triRow_len]; omega))
  exact ⟨100, k5, k6, p, h, ha, h5, h6⟩
theorem nam_every : ∃ k4 k5 k6 p, Man.NamFacts2 k4 k5 k6 (⟨#[101, 118, 101, 114, 121]⟩ : ByteArray) ([1, 1] : List Int) ([0, 1] : List Int) ([1, 0] : List Int) p :=
  good (p := Man.pE) (fun w => Man.ntriE (⟨#[101, 118, 101, 114, 121]⟩ : ByteArray) 0 0 0 w (by rw [nm_data]) (by kernel_rfl) (by kernel_rfl) (by kernel_rfl)) (by kernel_rfl) (by kernel_rfl)
theorem namM_every : namedM ([101, 118, 101, 114, 121] : List UInt8) = (([1, 1] : List Int), ([0, 1] : List Int), ([1, 0] : List Int), true) := by kernel_rfl
theorem nam_some : ∃ k4 k5 k6 p, Man.NamFacts2 k4 k5 k6 (⟨#[115, 111, 109, 101]⟩ : ByteArray) ([0, 1] : List Int) ([1, 1] : List Int) ([0, 1] : List Int) p :=
  good (p := Man.pS) (fun w => Man.ntriS (⟨#[115, 111, 109, 101]⟩ : ByteArray) 0 0 0 w (by rw [nm_data]; decide) (by rw [nm_data]) (by kernel_rfl) (by kernel_rfl) (by kernel_rfl)) (by kernel_rfl) (by kernel_rfl)
theorem namM_some : namedM ([115, 111, 109, 101] : List UInt8) = (([0, 1] : List Int), ([1, 1] : List Int), ([0, 1] : List Int), true) := by kernel_rfl
theorem nam_no : ∃ k4 k5 k6 p, Man.NamFacts2 k4 k5 k6 (⟨#[110, 111]⟩ : ByteArray) ([0, 1] : List Int) ([1, 1] : List Int) ([1, 0] : List Int) p :=
  good (p := Man.pN) (fun w => Man.ntriN (⟨#[110, 111]⟩ : ByteArray) 0 0 0 w (by rw [nm_data]; decide) (by rw [nm_data]; decide) (by rw [nm_data]) (by kernel_rfl) (by kernel_rfl) (by kernel_rfl)) (by kernel_rfl) (by kernel_rfl)
theorem namM_no : namedM ([110, 111] : List UInt8) = (([0, 1] : List Int), ([1, 1] : List Int), ([1, 0] : List Int), true) := by kernel_rfl
theorem nam_even : ∃ k4 k5 k6 p, Man.NamFacts2 k4 k5 k6 (⟨#[101, 118, 101, 110]⟩ : ByteArray) ([0, 1] : List Int) ([1, 0] : List Int) ([1, 0] : List Int) p :=
  good (p := Man.pV) (fun w => Man.ntriV (⟨#[101, 118, 101, 110]⟩ : ByteArray) 0 0 0 w (by rw [nm_data]; decide) (by rw [nm_data]; decide) (by rw [nm_data]; decide) (by rw [nm_data]; decide) (by rw [nm_data]) (by kernel_rfl) (by kernel_rfl) (by kernel_rfl)) (by kernel_rfl) (by kernel_rfl)
theorem namM_even : namedM ([101, 118, 101, 110] : List UInt8) = (([0, 1] : List Int), ([1, 0] : List Int), ([1, 0] : List Int), true) := by kernel_rfl
theorem nam_A1 : ∃ k4 k5 k6 p, Man.NamFacts2 k4 k5 k6 (⟨#[97, 116, 108, 101, 97, 115, 116, 49]⟩ : ByteArray) ([0, 1] : List Int) ([1, 1] : List Int) ([0, 1] : List Int) p :=
  good (p := Man.pA 1) (fun w => Man.ntriA (⟨#[97, 116, 108, 101, 97, 115, 116, 49]⟩ : ByteArray) 1 0 0 w (by rw [nm_data]; decide) (by rw [nm_data]; decide) (by rw [nm_data]; decide) (by rw [nm_data]; decide) (by rw [nm_data]; decide) (by kernel_rfl) (by kernel_rfl) (by kernel_rfl)) (by kernel_rfl) (by kernel_rfl)
theorem namM_A1 : namedM ([97, 116, 108, 101, 97, 115, 116, 49] : List UInt8) = (([0, 1] : List Int), ([1, 1] : List Int), ([0, 1] : List Int), true) := by kernel_rfl
theorem nam_A2 : ∃ k4 k5 k6 p, Man.NamFacts2 k4 k5 k6 (⟨#[97, 116, 108, 101, 97, 115, 116, 50]⟩ : ByteArray) ([0, 1, 2] : List Int) ([1, 2, 2] : List Int) ([0, 0, 1] : List Int) p :=
  good (p := Man.pA 2) (fun w => Man.ntriA (⟨#[97, 116, 108, 101, 97, 115, 116, 50]⟩ : ByteArray) 2 0 0 w (by rw [nm_data]; decide) (by rw [nm_data]; decide) (by rw [nm_data]; decide) (by rw [nm_data]; decide) (by rw [nm_data]; decide) (by kernel_rfl) (by kernel_rfl) (by kernel_rfl)) (by kernel_rfl) (by kernel_rfl)
theorem namM_A2 : namedM ([97, 116, 108, 101, 97, 115, 116, 50] : List UInt8) = (([0, 1, 2] : List Int), ([1, 2, 2] : List Int), ([0, 0, 1] : List Int), true) := by kernel_rfl
theorem nam_A3 : ∃ k4 k5 k6 p, Man.NamFacts2 k4 k5 k6 (⟨#[97, 116, 108, 101, 97, 115, 116, 51]⟩ : ByteArray) ([0, 1, 2, 3] : List Int) ([1, 2, 3, 3] : List Int) ([0, 0, 0, 1] : List Int) p :=
  good (p := Man.pA 3) (fun w => Man.ntriA (⟨#[97, 116, 108, 101, 97, 115, 116, 51]⟩ : ByteArray) 3 0 0 w (by rw [nm_data]; decide) (by rw [nm_data]; decide) (by rw [nm_data]; decide) (by rw [nm_data]; decide) (by rw [nm_data]; decide) (by kernel_rfl) (by kernel_rfl) (by kernel_rfl)) (by kernel_rfl) (by kernel_rfl)
theorem namM_A3 : namedM ([97, 116, 108, 101, 97, 115, 116, 51] : List UInt8) = (([0, 1, 2, 3] : List Int), ([1, 2, 3, 3] : List Int), ([0, 0, 0, 1] : List Int), true) := by kernel_rfl
theorem nam_A4 : ∃ k4 k5 k6 p, Man.NamFacts2 k4 k5 k6 (⟨#[97, 116, 108, 101, 97, 115, 116, 52]⟩ : ByteArray) ([0, 1, 2, 3, 4] : List Int) ([1, 2, 3, 4, 4] : List Int) ([0, 0, 0, 0, 1] : List Int) p :=
  good (p := Man.pA 4) (fun w => Man.ntriA (⟨#[97, 116, 108, 101, 97, 115, 116, 52]⟩ : ByteArray) 4 0 0 w (by rw [nm_data]; decide) (by rw [nm_data]; decide) (by rw [nm_data]; decide) (by rw [nm_data]; decide) (by rw [nm_data]; decide) (by kernel_rfl) (by kernel_rfl) (by kernel_rfl)) (by kernel_rfl) (by kernel_rfl)
theorem namM_A4 : namedM ([97, 116, 108, 101, 97, 115, 116, 52] : List UInt8) = (([0, 1, 2, 3, 4] : List Int), ([1, 2, 3, 4, 4] : List Int), ([0, 0, 0, 0, 1] : List Int), true) := by kernel_rfl
theorem nam_A5 : ∃ k4 k5 k6 p, Man.NamFacts2 k4 k5 k6 (⟨#[97, 116, 108, 101, 97, 115, 116, 53]⟩ : ByteArray) ([0, 1, 2, 3, 4, 5] : List Int) ([1, 2, 3, 4, 5, 5] : List Int) ([0, 0, 0, 0, 0, 1] : List Int) p :=
  good (p := Man.pA 5) (fun w => Man.ntriA (⟨#[97, 116, 108, 101, 97, 115, 116, 53]⟩ : ByteArray) 5 0 0 w (by rw [nm_data]; decide) (by rw [nm_data]; decide) (by rw [nm_data]; decide) (by rw [nm_data]; decide) (by rw [nm_data]; decide) (by kernel_rfl) (by kernel_rfl) (by kernel_rfl)) (by kernel_rfl) (by kernel_rfl)
theorem namM_A5 : namedM ([97, 116, 108, 101, 97, 115, 116, 53] : List UInt8) = (([0, 1, 2, 3, 4, 5] : List Int), ([1, 2, 3, 4, 5, 5] : List Int), ([0, 0, 0, 0, 0, 1] : List Int), true) := by kernel_rfl
theorem nam_J0 : ∃ k4 k5 k6 p, Man.NamFacts2 k4 k5 k6 (⟨#[106, 117, 115, 116, 48]⟩ : ByteArray) ([0, 1] : List Int) ([1, 1] : List Int) ([1, 0] : List Int) p :=
  good (p := Man.pJ 0) (fun w => Man.ntriJ (⟨#[106, 117, 115, 116, 48]⟩ : ByteArray) 0 0 0 w (by rw [nm_data]; decide) (by rw [nm_data]; decide) (by rw [nm_data]; decide) (by rw [nm_data]; decide) (by rw [nm_data]; decide) (by kernel_rfl) (by kernel_rfl) (by kernel_rfl)) (by kernel_rfl) (by kernel_rfl)
theorem namM_J0 : namedM ([106, 117, 115, 116, 48] : List UInt8) = (([0, 1] : List Int), ([1, 1] : List Int), ([1, 0] : List Int), true) := by kernel_rfl
theorem nam_J1 : ∃ k4 k5 k6 p, Man.NamFacts2 k4 k5 k6 (⟨#[106, 117, 115, 116, 49]⟩ : ByteArray) ([0, 1, 2] : List Int) ([1, 2, 2] : List Int) ([0, 1, 0] : List Int) p :=
  good (p := Man.pJ 1) (fun w => Man.ntriJ (⟨#[106, 117, 115, 116, 49]⟩ : ByteArray) 0 1 0 w (by rw [nm_data]; decide) (by rw [nm_data]; decide) (by rw [nm_data]; decide) (by rw [nm_data]; decide) (by rw [nm_data]; decide) (by kernel_rfl) (by kernel_rfl) (by kernel_rfl)) (by kernel_rfl) (by kernel_rfl)
theorem namM_J1 : namedM ([106, 117, 115, 116, 49] : List UInt8) = (([0, 1, 2] : List Int), ([1, 2, 2] : List Int), ([0, 1, 0] : List Int), true) := by kernel_rfl
theorem nam_J2 : ∃ k4 k5 k6 p, Man.NamFacts2 k4 k5 k6 (⟨#[106, 117, 115, 116, 50]⟩ : ByteArray) ([0, 1, 2, 3] : List Int) ([1, 2, 3, 3] : List Int) ([0, 0, 1, 0] : List Int) p :=
  good (p := Man.pJ 2) (fun w => Man.ntriJ (⟨#[106, 117, 115, 116, 50]⟩ : ByteArray) 0 2 0 w (by rw [nm_data]; decide) (by rw [nm_data]; decide) (by rw [nm_data]; decide) (by rw [nm_data]; decide) (by rw [nm_data]; decide) (by kernel_rfl) (by kernel_rfl) (by kernel_rfl)) (by kernel_rfl) (by kernel_rfl)
theorem namM_J2 : namedM ([106, 117, 115, 116, 50] : List UInt8) = (([0, 1, 2, 3] : List Int), ([1, 2, 3, 3] : List Int), ([0, 0, 1, 0] : List Int), true) := by kernel_rfl
theorem nam_J3 : ∃ k4 k5 k6 p, Man.NamFacts2 k4 k5 k6 (⟨#[106, 117, 115, 116, 51]⟩ : ByteArray) ([0, 1, 2, 3, 4] : List Int) ([1, 2, 3, 4, 4] : List Int) ([0, 0, 0, 1, 0] : List Int) p :=
  good (p := Man.pJ 3) (fun w => Man.ntriJ (⟨#[106, 117, 115, 116, 51]⟩ : ByteArray) 0 3 0 w (by rw [nm_data]; decide) (by rw [nm_data]; decide) (by rw [nm_data]; decide) (by rw [nm_data]; decide) (by rw [nm_data]; decide) (by kernel_rfl) (by kernel_rfl) (by kernel_rfl)) (by kernel_rfl) (by kernel_rfl)
theorem namM_J3 : namedM ([106, 117, 115, 116, 51] : List UInt8) = (([0, 1, 2, 3, 4] : List Int), ([1, 2, 3, 4, 4] : List Int), ([0, 0, 0, 1, 0] : List Int), true) := by kernel_rfl
theorem nam_J4 : ∃ k4 k5 k6 p, Man.NamFacts2 k4 k5 k6 (⟨#[106, 117, 115, 116, 52]⟩ : ByteArray) ([0, 1, 2, 3, 4, 5] : List Int) ([1, 2, 3, 4, 5, 5] : List Int) ([0, 0, 0, 0, 1, 0] : List Int) p :=
  good (p := Man.pJ 4) (fun w => Man.ntriJ (⟨#[106, 117, 115, 116, 52]⟩ : ByteArray) 0 4 0 w (by rw [nm_data]; decide) (by rw [nm_data]; decide) (by rw [nm_data]; decide) (by rw [nm_data]; decide) (by rw [nm_data]; decide) (by kernel_rfl) (by kernel_rfl) (by kernel_rfl)) (by kernel_rfl) (by kernel_rfl)
theorem namM_J4 : namedM ([106, 117, 115, 116, 52] : List UInt8) = (([0, 1, 2, 3, 4, 5] : List Int), ([1, 2, 3, 4, 5, 5] : List Int), ([0, 0, 0, 0, 1, 0] : List Int), true) := by kernel_rfl
theorem nam_J5 : ∃ k4 k5 k6 p, Man.NamFacts2 k4 k5 k6 (⟨#[106, 117, 115, 116, 53]⟩ : ByteArray) ([0, 1, 2, 3, 4, 5, 6] : List Int) ([1, 2, 3, 4, 5, 6, 6] : List Int) ([0, 0, 0, 0, 0, 1, 0] : List Int) p :=
  good (p := Man.pJ 5) (fun w => Man.ntriJ (⟨#[106, 117, 115, 116, 53]⟩ : ByteArray) 0 5 0 w (by rw [nm_data]; decide) (by rw [nm_data]; decide) (by rw [nm_data]; decide) (by rw [nm_data]; decide) (by rw [nm_data]; decide) (by kernel_rfl) (by kernel_rfl) (by kernel_rfl)) (by kernel_rfl) (by kernel_rfl)
theorem namM_J5 : namedM ([106, 117, 115, 116, 53] : List UInt8) = (([0, 1, 2, 3, 4, 5, 6] : List Int), ([1, 2, 3, 4, 5, 6, 6] : List Int), ([0, 0, 0, 0, 0, 1, 0] : List Int), true) := by kernel_rfl
theorem nam_one {s : ByteArray} {l : List UInt8} {l0 l1 l2 : List Int} (h : s.data.toList = l) (hm : namedM l = (l0, l1, l2, true)) (hf : ∃ k4 k5 k6 p, Man.NamFacts2 k4 k5 k6 (⟨l.toArray⟩ : ByteArray) l0 l1 l2 p) : (namedM s.data.toList).2.2.2 = true ∧ ∃ k4 k5 k6 p, Man.NamFacts2 k4 k5 k6 s (namedM s.data.toList).1 (namedM s.data.toList).2.1 (namedM s.data.toList).2.2.1 p := by
  have e := of_list h
  rw [h, hm]
  rw [e]
  exact ⟨rfl, hf⟩
theorem nam_all (s : ByteArray) : (namedM s.data.toList = ([], [], [], false)) ∨ ((namedM s.data.toList).2.2.2 = true ∧ ∃ k4 k5 k6 p, Man.NamFacts2 k4 k5 k6 s (namedM s.data.toList).1 (namedM s.data.toList).2.1 (namedM s.data.toList).2.2.1 p) := by
  rcases namedM_cases s.data.toList with h | h | h | h | h | ⟨n, h1, h2, h⟩ | ⟨n, h2, h⟩
  · exact Or.inl h
  · right; exact nam_one (l := [101, 118, 101, 114, 121]) h namM_every nam_every
  · right; exact nam_one (l := [115, 111, 109, 101]) h namM_some nam_some
  · right; exact nam_one (l := [110, 111]) h namM_no nam_no
  · right; exact nam_one (l := [101, 118, 101, 110]) h namM_even nam_even
  · right
    have hn : n = 1 ∨ n = 2 ∨ n = 3 ∨ n = 4 ∨ n = 5 := by omega
    rcases hn with rfl | rfl | rfl | rfl | rfl
    · exact nam_one (l := [97, 116, 108, 101, 97, 115, 116, 49]) h namM_A1 nam_A1
    · exact nam_one (l := [97, 116, 108, 101, 97, 115, 116, 50]) h namM_A2 nam_A2
    · exact nam_one (l := [97, 116, 108, 101, 97, 115, 116, 51]) h namM_A3 nam_A3
    · exact nam_one (l := [97, 116, 108, 101, 97, 115, 116, 52]) h namM_A4 nam_A4
    · exact nam_one (l := [97, 116, 108, 101, 97, 115, 116, 53]) h namM_A5 nam_A5
  · right
    have hn : n = 0 ∨ n = 1 ∨ n = 2 ∨ n = 3 ∨ n = 4 ∨ n = 5 := by omega
    rcases hn with rfl | rfl | rfl | rfl | rfl | rfl
    · exact nam_one (l := [106, 117, 115, 116, 48]) h namM_J0 nam_J0
    · exact nam_one (l := [106, 117, 115, 116, 49]) h namM_J1 nam_J1
    · exact nam_one (l := [106, 117, 115, 116, 50]) h namM_J2 nam_J2
    · exact nam_one (l := [106, 117, 115, 116, 51]) h namM_J3 nam_J3
    · exact nam_one (l := [106, 117, 115, 116, 52]) h namM_J4 nam_J4
    · exact nam_one (l := [106, 117, 115, 116, 53]) h namM_J5 nam_J5
theorem small_rd {P : ByteArray → Prop} (L : List ByteArray) (h : ∀ x ∈ L, P x) (h0 : P ByteArray.empty) (i : Int) : P (rdOf ByteArray.empty L i) := by
  unfold rdOf
  rw [List.getD_eq_getElem?_getD]
  cases e : L[i.toNat]? with
  | none => exact h0
  | some x => exact h x (List.mem_of_getElem? e)
/-- A name is drawn. -/
theorem draw_name (l0 : List Int) (w0 : ∀ x ∈ l0, (Lit.int .u8 x).wf = true) : ∃ s, Ev (fun k => spec_DrawNamedMachine.f k l0) s := by
  obtain ⟨b, hb, hR⟩ := open_ok w0
  obtain ⟨r, hr, _, _, _, hR1⟩ := pick_ok hR (by omega) 3 (by omega)
  have hp : ∀ n : Int, 1 ≤ n → n ≤ 1000 → ∃ x, (∀ k, spec_l20Rd_pick.f (k + 1) b (0 + 1) n = some (x, 0 + 1 + 1)) ∧ 0 ≤ x ∧ x < n := fun n h1 h2 => by
    obtain ⟨x, hx, h0, hn, _, _⟩ := pick_ok hR1 (by omega) n (by omega)
    exact ⟨x, hx, h0, hn h1⟩
  unfold spec_DrawNamedMachine.f
  suffices h : ∃ s, ∀ k, spec_DrawNamedTriangle.f (k + 1) l0 = some s by
    obtain ⟨s, hs⟩ := h
    exact ⟨s, Ev.bind (ev1 hs) (Ev.now _)⟩
  unfold spec_DrawNamedTriangle.f
  by_cases h0 : r = 0
  · obtain ⟨r1, hr1, _, h3, _, hR2⟩ := pick_ok hR1 (by omega) 3 (by omega)
    obtain ⟨r2, hr2, _, h6, _, _⟩ := pick_ok hR2 (by omega) 6 (by omega)
    have h3 := h3 (by omega)
    have h6 := h6 (by omega)
    have z1 : ∀ i, (rdOf ByteArray.empty ([(⟨#[97, 116, 108, 101, 97, 115, 116]⟩ : ByteArray), (⟨#[106, 117, 115, 116]⟩ : ByteArray), (⟨#[97, 108, 108, 98, 117, 116]⟩ : ByteArray)] : List ByteArray) i).size ≤ 100 := fun i => small_rd (P := fun x => x.size ≤ 100) _ (by decide) (by decide) i
    have z2 : ∀ i, (rdOf ByteArray.empty ([(⟨#[48]⟩ : ByteArray), (⟨#[49]⟩ : ByteArray), (⟨#[52]⟩ : ByteArray), (⟨#[53]⟩ : ByteArray), (⟨#[54]⟩ : ByteArray), (⟨#[]⟩ : ByteArray)] : List ByteArray) i).size ≤ 100 := fun i => small_rd (P := fun x => x.size ≤ 100) _ (by decide) (by decide) i
    refine ⟨rdOf ByteArray.empty ([(⟨#[97, 116, 108, 101, 97, 115, 116]⟩ : ByteArray), (⟨#[106, 117, 115, 116]⟩ : ByteArray), (⟨#[97, 108, 108, 98, 117, 116]⟩ : ByteArray)] : List ByteArray) r1 ++ rdOf ByteArray.empty ([(⟨#[48]⟩ : ByteArray), (⟨#[49]⟩ : ByteArray), (⟨#[52]⟩ : ByteArray), (⟨#[53]⟩ : ByteArray), (⟨#[54]⟩ : ByteArray), (⟨#[]⟩ : ByteArray)] : List ByteArray) r2, fun k => ?_⟩
    simp only [hb, Option.bind_some, hr k, h0, if_true, hr1 k, hr2 k, List.length_cons, List.length_nil]
    rw [if_pos (by assumption), if_pos (by omega), if_pos (by assumption), if_pos (by omega), if_pos (by have := z1 r1; have := z2 r2; omega)]
  · obtain ⟨r1, hr1, _, h13, _, hR2⟩ := pick_ok hR1 (by omega) 13 (by omega)
    have h13 := h13 (by omega)
    refine ⟨rdOf ByteArray.empty ([(⟨#[101, 118, 101, 114, 121]⟩ : ByteArray), (⟨#[115, 111, 109, 101]⟩ : ByteArray), (⟨#[110, 111]⟩ : ByteArray), (⟨#[109, 111, 115, 116]⟩ : ByteArray), (⟨#[101, 118, 101, 110]⟩ : ByteArray), (⟨#[97, 116, 108, 101, 97, 115, 116, 50]⟩ : ByteArray), (⟨#[97, 116, 108, 101, 97, 115, 116, 51]⟩ : ByteArray), (⟨#[106, 117, 115, 116, 49]⟩ : ByteArray), (⟨#[106, 117, 115, 116, 50]⟩ : ByteArray), (⟨#[97, 108, 108, 98, 117, 116, 49]⟩ : ByteArray)] ++ [(⟨#[]⟩ : ByteArray), (⟨#[97, 108, 108]⟩ : ByteArray), (⟨#[69, 118, 101, 114, 121]⟩ : ByteArray)] : List ByteArray) r1, fun k => ?_⟩
    simp only [hb, Option.bind_some, hr k, if_neg h0, spec_l20Names.f, hr1 k, List.length_append, List.length_cons, List.length_nil]
    rw [if_pos (by omega), if_pos (by assumption), if_pos (by omega)]
theorem nam_facts (l0 : List Int) (w0 : ∀ x ∈ l0, (Lit.int .u8 x).wf = true) : ∃ kd k1 k2 k3 s b r0 r1 r2, Man.NamFacts l0 kd k1 k2 k3 s b r0 r1 r2 ∧ ((b = false ∧ r0 = []) ∨ (b = true ∧ ∃ k4 k5 k6 p, Man.NamFacts2 k4 k5 k6 s r0 r1 r2 p)) := by
  obtain ⟨s, hs⟩ := draw_name l0 w0
  obtain ⟨kd, hd⟩ := ev_some hs
  have hL := namedM_len s.data.toList
  obtain ⟨k1, h1⟩ := ev_some (impl_NamedMachine_eq s)
  obtain ⟨k2, h2⟩ := ev_some (spec_NamedMachine_eq s)
  have hA := nam_all s
  obtain ⟨M, hM⟩ : ∃ M, M = namedM s.data.toList := ⟨_, rfl⟩
  rw [← hM] at hL h1 h2 hA
  obtain ⟨k3, h3⟩ := ev_some (sameMachine_self M.1 M.2.1 M.2.2.1 (by have := hL.1; omega) (by have := hL.2.1; omega) (by have := hL.2.2; omega))
  refine ⟨kd, k1, k2, k3, s, M.2.2.2, M.1, M.2.1, M.2.2.1, ⟨hd, h1, h2, h3⟩, ?_⟩
  rcases hA with h | h
  · left; rw [h]; exact ⟨rfl, rfl⟩
  · exact Or.inr h
end Go.Proofs.Ytiplbleghaoehaa.Sem
