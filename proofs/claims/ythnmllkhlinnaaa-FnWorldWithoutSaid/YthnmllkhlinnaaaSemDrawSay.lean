/- Draws of kinds and sentences: each comes to an end; no condition but the reader's own shape. -/
import Derived.Test.YthnmllkhlinnaaaSemDraw
import Derived.Test.YthnmllkhlinnaaaPAx18
import Derived.Test.YthnmllkhlinnaaaPAx17
namespace Go.Proofs.Ythnmllkhlinnaaa.Sem
open Go.RowKit Go.Proofs.Ythnmllkhlinnaaa.PA Go.Proofs.YthnmllkhlinnaaaW.PrintWords Go.Proofs.YthnmllkhlinnaaaW.PrintLast Go.Proofs.YthnmllkhlinnaaaW.PrintMore
set_option linter.unusedVariables false
set_option linter.unusedSimpArgs false

theorem l20Kinds_ok {b : List Int} {p m : Int} (h : Rd b p m) (hm : m + 2 ≤ 1000000) (n : Int) (hn : n ≤ 1000000) :
    ∃ k p', Ev (fun q => spec_l20Kinds.f q b p n) (k, p') ∧ Rd b p' (m + 2) ∧ 0 ≤ k ∧ k ≤ 4 := by
  unfold spec_l20Kinds.f
  obtain ⟨r1, p1, e1, h1⟩ := odd_ok h (by omega) n hn
  cases r1 with
  | true =>
    obtain ⟨r2, e2, l2, u2, _, h2⟩ := pick_ok h1 (by omega) 2 (by omega)
    have u2 := u2 (by omega)
    have hx : 0 ≤ rd [0, 4] r2 ∧ rd [0, 4] r2 ≤ 4 := by
      have : r2 = 0 ∨ r2 = 1 := by omega
      rcases this with rfl | rfl <;> decide
    refine ⟨_, _, ev1 (fun q => ?_), h2.more (by omega) (by omega), hx.1, hx.2⟩
    simp only [e1 q, e2 q, Option.bind_some, if_true]
    rw [if_pos l2, if_pos (by simpa using u2)]
  | false =>
    obtain ⟨r2, e2, l2, u2, _, h2⟩ := pick_ok h1 (by omega) 4 (by omega)
    have u2 := u2 (by omega)
    have hx : 0 ≤ rd [1, 2, 3, 3] r2 ∧ rd [1, 2, 3, 3] r2 ≤ 4 := by
      have : r2 = 0 ∨ r2 = 1 ∨ r2 = 2 ∨ r2 = 3 := by omega
      rcases this with rfl | rfl | rfl | rfl <;> decide
    refine ⟨_, _, ev1 (fun q => ?_), h2.more (by omega) (by omega), hx.1, hx.2⟩
    simp only [e1 q, e2 q, Option.bind_some, Bool.false_eq_true, if_false]
    rw [if_pos l2, if_pos (by simpa using u2)]

theorem l20Say_ok {b : List Int} {p m : Int} (h : Rd b p m) (hm : m + 5 ≤ 1000000) (k : Int) (hk0 : 0 ≤ k) (hk : k ≤ 4) (n : Int) (hn : n ≤ 1000000) :
    ∃ f o t p', Ev (fun q => spec_l20Say.f q b p k n) (f, o, t, p') ∧ Rd b p' (m + 5) := by
  unfold spec_l20Say.f
  have hw : wrap64 (2 * k) = 2 * k := w64 (by omega) (by omega)
  have hT : mx (2 * k) 1 ≤ 1000000 := by unfold mx; split <;> omega
  obtain ⟨r1, e1, l1, u1, _, h1⟩ := pick_ok h (by omega) 3 (by omega)
  have u1 := u1 (by omega)
  obtain ⟨r2, e2, _, _, _, h2⟩ := pick_ok h1 (by omega) (mx (2 * k) 1) hT
  obtain ⟨r3, e3, _, _, _, h3⟩ := pick_ok h2 (by omega) (mx (2 * k) 1) hT
  obtain ⟨r4, p4, e4, h4⟩ := odd_ok h3 (by omega) n hn
  obtain ⟨r5, e5, _, _, _, h5⟩ := pick_ok h4 (by omega) 3 (by omega)
  have hu : r1 < (([0, 0, 1] : List Int).length : Int) := by simpa using u1
  cases r4 with
  | false =>
    refine ⟨rd [0, 0, 1] r1, r2, r3, p4, ev1 (fun q => ?_), h4.more (by omega) (by omega)⟩
    simp only [hw, e1 q, e2 q, e3 q, e4 q, Option.bind_some, if_pos l1, if_pos hu, Bool.false_eq_true, if_false]
  | true =>
    by_cases c0 : r5 = 0
    · refine ⟨2, r2, r3, p4 + 1, ev1 (fun q => ?_), h5.more (by omega) (by omega)⟩
      simp only [hw, e1 q, e2 q, e3 q, e4 q, e5 q, Option.bind_some, if_pos l1, if_pos hu, if_true, if_pos c0]
    · by_cases c1 : r5 = 1
      · refine ⟨rd [0, 0, 1] r1, -1, r3, p4 + 1, ev1 (fun q => ?_), h5.more (by omega) (by omega)⟩
        simp only [hw, e1 q, e2 q, e3 q, e4 q, e5 q, Option.bind_some, if_pos l1, if_pos hu, if_true, if_neg c0, if_pos c1]
      · refine ⟨rd [0, 0, 1] r1, r2, mx (2 * k) 1, p4 + 1, ev1 (fun q => ?_), h5.more (by omega) (by omega)⟩
        simp only [hw, e1 q, e2 q, e3 q, e4 q, e5 q, Option.bind_some, if_pos l1, if_pos hu, if_true, if_neg c0, if_neg c1]
end Go.Proofs.Ythnmllkhlinnaaa.Sem
