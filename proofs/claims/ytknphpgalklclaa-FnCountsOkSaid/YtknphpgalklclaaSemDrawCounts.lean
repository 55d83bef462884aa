/- Draws of numbers and of sentences that compare them: each comes to an end; no condition but the reader's own shape. -/
import Derived.Test.YtknphpgalklclaaSemCounts
import Derived.Test.YtknphpgalklclaaPAx34
import Derived.Test.YtknphpgalklclaaPAx28
import Derived.Test.YtknphpgalklclaaPAx30
namespace Go.Proofs.Ytknphpgalklclaa.Sem
open Go.RowKit Go.Proofs.Ytknphpgalklclaa.PA Go.Proofs.YtknphpgalklclaaW.PrintWords Go.Proofs.YtknphpgalklclaaW.PrintLast Go.Proofs.YtknphpgalklclaaW.PrintMore
set_option linter.unusedVariables false
set_option linter.unusedSimpArgs false

theorem l20Weigh_ok {b : List Int} {p m : Int} (h : Rd b p m) (hm : m + 6 ≤ 1000000) (n : Int) (hn : n ≤ 1000000) :
    ∃ f o t p', Ev (fun k => spec_l20Weigh.f k b p n) (f, o, t, p') ∧ Rd b p' (m + 5) := by
  unfold spec_l20Weigh.f
  obtain ⟨r1, e1, _, _, _, h1⟩ := pick_ok h (by omega) 6 (by omega)
  obtain ⟨r2, e2, _, _, _, h2⟩ := pick_ok h1 (by omega) 4 (by omega)
  obtain ⟨r3, e3, _, _, _, h3⟩ := pick_ok h2 (by omega) 4 (by omega)
  obtain ⟨r4, p4, e4, h4⟩ := odd_ok h3 (by omega) n hn
  obtain ⟨r5, e5, _, _, _, h5⟩ := pick_ok h4 (by omega) 3 (by omega)
  cases r4 with
  | false => exact ⟨r1, r2, r3, p4, ev1 (fun k => by simp only [e1 k, e2 k, e3 k, e4 k, Option.bind_some, Bool.false_eq_true, if_false]), h4.more (by omega) (by omega)⟩
  | true =>
    by_cases c0 : r5 = 0
    · exact ⟨6, r2, r3, p4 + 1, ev1 (fun k => by simp only [e1 k, e2 k, e3 k, e4 k, e5 k, Option.bind_some, if_true, if_pos c0]), h5.more (by omega) (by omega)⟩
    · by_cases c1 : r5 = 1
      · exact ⟨r1, 4, r3, p4 + 1, ev1 (fun k => by simp only [e1 k, e2 k, e3 k, e4 k, e5 k, Option.bind_some, if_true, if_neg c0, if_pos c1]), h5.more (by omega) (by omega)⟩
      · exact ⟨r1, r2, -1, p4 + 1, ev1 (fun k => by simp only [e1 k, e2 k, e3 k, e4 k, e5 k, Option.bind_some, if_true, if_neg c0, if_neg c1]), h5.more (by omega) (by omega)⟩

theorem l20Counts_from (n : Int) (hn : n ≤ 1000) (b : List Int) (j : Nat) : ∀ (l : List Int) (p m : Int), Rd b p m → m + 3 * j + 2 ≤ 1000000 → l.length + j = 4 → (∀ x ∈ l, -1 ≤ x ∧ x ≤ 9) →
    ∃ l' p', Ev (fun q => spec_l20Counts.l0 q n l ((4 - j : Nat) : Int) b p) (l', p') ∧ Rd b p' (m + 3 * j + 2) ∧ l'.length ≤ 5 ∧ (∀ x ∈ l', -1 ≤ x ∧ x ≤ 9) := by
  induction j with
  | zero =>
    intro l p m h hm hl hx
    obtain ⟨r, p', e, h'⟩ := odd_ok h (by omega) n (by omega)
    have start : ∀ y, Ev (fun q => if r = true then ((spec_l20Rd_pick.f q b p' 2).bind fun bt533 => (if bt533.1 = 0 then (if l.length < 17592186044416 then (some ((l ++ [0]), bt533.2)) else (none)) else (if 0 < (l.length : Int) then (some ((l.set (0 : Int).toNat (-1)), bt533.2)) else (none)))) else (some (l, p'))) y → Ev (fun q => spec_l20Counts.l0 q n l ((4 - 0 : Nat) : Int) b p) y := by
      intro y hy
      refine Ev.step (f := fun q => (spec_l20Rd_odd.f q b p n).bind fun bt531 => (if bt531.1 = true then ((spec_l20Rd_pick.f q b bt531.2 2).bind fun bt533 => (if bt533.1 = 0 then (if l.length < 17592186044416 then (some ((l ++ [0]), bt533.2)) else (none)) else (if 0 < (l.length : Int) then (some ((l.set (0 : Int).toNat (-1)), bt533.2)) else (none)))) else (some (l, bt531.2)))) (fun q => ?_) (Ev.bind (ev1 e) hy)
      simp only [spec_l20Counts.l0]
      rw [if_neg (by omega)]
    cases r with
    | false =>
      refine ⟨l, p', start _ ?_, h'.more (by omega) (by omega), by omega, hx⟩
      simp only [Bool.false_eq_true, if_false]
      exact Ev.now _
    | true =>
      obtain ⟨r2, e2, _, _, _, h2⟩ := pick_ok h' (by omega) 2 (by omega)
      by_cases c0 : r2 = 0
      · refine ⟨l ++ [0], p' + 1, start _ ?_, h2.more (by omega) (by omega), by rw [List.length_append]; simp; omega, fun x hx' => ?_⟩
        · simp only [if_true]
          refine Ev.bind (ev1 e2) ?_
          simp only [if_pos c0, if_pos (show l.length < 17592186044416 by omega)]
          exact Ev.now _
        · rcases List.mem_append.1 hx' with hx' | hx'
          · exact hx x hx'
          · obtain rfl := List.mem_singleton.1 hx'
            omega
      · refine ⟨l.set (0 : Int).toNat (-1), p' + 1, start _ ?_, h2.more (by omega) (by omega), by rw [List.length_set]; omega, fun x hx' => ?_⟩
        · simp only [if_true]
          refine Ev.bind (ev1 e2) ?_
          simp only [if_neg c0, if_pos (show (0 : Int) < (l.length : Int) by omega)]
          exact Ev.now _
        · rcases List.mem_or_eq_of_mem_set hx' with hx' | hx'
          · exact hx x hx'
          · omega
  | succ j ih =>
    intro l p m h hm hl hx
    obtain ⟨r1, e1, l1, u1, _, h1⟩ := pick_ok h (by omega) 4 (by omega)
    have u1 := u1 (by omega)
    obtain ⟨r2, e2, l2, u2, _, h2⟩ := pick_ok h1 (by omega) 10 (by omega)
    have u2 := u2 (by omega)
    obtain ⟨r3, e3, l3, u3, _, h3⟩ := pick_ok h2 (by omega) 4 (by omega)
    have u3 := u3 (by omega)
    have hv : -1 ≤ rd [0, 1, r1, r2] r3 ∧ rd [0, 1, r1, r2] r3 ≤ 9 := by
      have : r3 = 0 ∨ r3 = 1 ∨ r3 = 2 ∨ r3 = 3 := by omega
      rcases this with rfl | rfl | rfl | rfl <;> simp [rd] <;> omega
    obtain ⟨l', p', e', h', hl', hx'⟩ := ih (l ++ [rd [0, 1, r1, r2] r3]) (p + 1 + 1 + 1) (m + 1 + 1 + 1) h3 (by omega) (by rw [List.length_append]; simp; omega) (fun x hx' => by
      rcases List.mem_append.1 hx' with hx' | hx'
      · exact hx x hx'
      · obtain rfl := List.mem_singleton.1 hx'
        exact hv)
    have hw : wrap64 (((4 - (j + 1) : Nat) : Int) + 1) = ((4 - j : Nat) : Int) := by rw [w64 (by omega) (by omega)]; omega
    refine ⟨l', p', ?_, h'.more (by omega) (by omega), hl', hx'⟩
    refine Ev.step (f := fun q => (spec_l20Rd_pick.f q b p 4).bind fun bt518 => ((spec_l20Rd_pick.f q b bt518.2 10).bind fun bt520 => ((spec_l20Rd_pick.f q b bt520.2 4).bind fun bt525 => spec_l20Counts.l0 q n (l ++ [rd [0, 1, bt518.1, bt520.1] bt525.1]) ((4 - j : Nat) : Int) b bt525.2))) (fun q => ?_) (Ev.bind (ev1 e1) (Ev.bind (ev1 e2) (Ev.bind (ev1 e3) e')))
    simp only [spec_l20Counts.l0]
    rw [if_pos (by omega)]
    cases q with
    | zero => simp [spec_l20Rd_pick.f, spec_l20Rd_pick.j0]
    | succ q =>
      simp only [e1 q, e2 q, e3 q, Option.bind_some, hw]
      rw [if_pos l3, if_pos (by simpa using u3), if_pos (by omega)]

theorem l20Counts_ok {b : List Int} {p m : Int} (h : Rd b p m) (hm : m + 14 ≤ 1000000) (n : Int) (hn : n ≤ 1000) :
    ∃ l p', Ev (fun q => spec_l20Counts.f q b p n) (l, p') ∧ Rd b p' (m + 14) ∧ l.length ≤ 5 ∧ (∀ x ∈ l, -1 ≤ x ∧ x ≤ 9) := by
  obtain ⟨l', p', e', h', hl', hx'⟩ := l20Counts_from n hn b 4 [] p m h (by omega) (by simp) (fun x hx => by simp at hx)
  exact ⟨l', p', e', h'.more (by omega) (by omega), hl', hx'⟩
end Go.Proofs.Ytknphpgalklclaa.Sem
