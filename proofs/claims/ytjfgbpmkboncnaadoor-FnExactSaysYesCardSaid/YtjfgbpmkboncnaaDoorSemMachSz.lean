/- Machines: measured, copied, compared; in plain words; no condition but a row's length. -/
import Derived.Test.YtjfgbpmkboncnaaDoorSemInts
import Derived.Test.YtjfgbpmkboncnaaDoorPAx1
import Derived.Test.YtjfgbpmkboncnaaDoorPAx5
import Derived.Test.YtjfgbpmkboncnaaDoorPAx10
namespace Go.Proofs.YtjfgbpmkboncnaaDoor.Sem
open Go.RowKit Go.Proofs.YtjfgbpmkboncnaaDoor.PA Go.Proofs.YtjfgbpmkboncnaaDoorW.PrintWords Go.Proofs.YtjfgbpmkboncnaaDoorW.PrintLast Go.Proofs.YtjfgbpmkboncnaaDoorW.PrintMore
set_option linter.unusedVariables false
set_option linter.unusedSimpArgs false

theorem szIntS_eq (l : List Int) (b : l.length ≤ 9223372036854775807) (n : Int) (h : 0 ≤ n) (h' : n ≤ 1048576) : laws_szIntS.f l n = some (if n < l.length then -1 else n - l.length) := by
  have hw : wrap64 (n - (l.length : Int)) = n - l.length := by unfold wrap64; omega
  unfold laws_szIntS.f
  rw [hw]
  by_cases hc : n < (l.length : Int)
  · rw [if_pos (by omega), if_pos hc]
  · rw [if_neg (by omega), if_neg hc]

/-- The measure: less than 0 exactly if the rows are too long in all. -/
theorem szMachine_eq (a b c : List Int) (ba : a.length ≤ 9223372036854775807) (bb : b.length ≤ 9223372036854775807) (bc : c.length ≤ 9223372036854775807) :
    ∃ t, laws_szMachine.f a b c 1048576 = some t ∧ (t < 0 ∨ a.length ≤ 1048576 ∧ b.length ≤ 1048576 ∧ c.length ≤ 1048576) := by
  unfold laws_szMachine.f
  rw [szIntS_eq a ba _ (by decide) (by decide), Option.bind_some]
  by_cases h1 : (1048576 : Int) < a.length
  · rw [if_pos h1]
    exact ⟨-1, rfl, Or.inl (by decide)⟩
  · rw [if_neg h1, if_neg (by omega), szIntS_eq b bb _ (by omega) (by omega), Option.bind_some]
    by_cases h2 : (1048576 : Int) - a.length < b.length
    · rw [if_pos h2]
      exact ⟨-1, rfl, Or.inl (by decide)⟩
    · rw [if_neg h2, if_neg (by omega), szIntS_eq c bc _ (by omega) (by omega), Option.bind_some]
      by_cases h3 : (1048576 : Int) - a.length - b.length < c.length
      · rw [if_pos h3]
        exact ⟨-1, rfl, Or.inl (by decide)⟩
      · rw [if_neg h3, if_neg (by omega)]
        exact ⟨_, rfl, Or.inr (by omega)⟩

theorem toMachine_eq (a b c : List Int) (ha : a.length ≤ 1048576) (hb : b.length ≤ 1048576) (hc : c.length ≤ 1048576) : Ev (fun k => laws_toMachine.f k a b c) (a, b, c) := by
  unfold laws_toMachine.f
  exact Ev.bind (toIntS_eq a ha) (Ev.bind (toIntS_eq b hb) (Ev.bind (toIntS_eq c hc) (Ev.now _)))

theorem eqMachine_self (a b c : List Int) (ha : a.length ≤ 1048576) (hb : b.length ≤ 1048576) (hc : c.length ≤ 1048576) : Ev (fun k => laws_eqMachine.f k a b c a b c) true := by
  unfold laws_eqMachine.f
  refine Ev.bind (eqIntS_self a ha) ?_
  simp only [if_true]
  refine Ev.bind (eqIntS_self b hb) ?_
  simp only [if_true]
  refine Ev.bind (eqIntS_self c hc) ?_
  simp only [if_true]
  exact Ev.now _
end Go.Proofs.YtjfgbpmkboncnaaDoor.Sem
