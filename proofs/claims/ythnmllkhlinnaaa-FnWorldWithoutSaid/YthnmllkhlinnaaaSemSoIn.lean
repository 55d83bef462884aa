/- SoIn of both programs, in plain words; no condition but that the numbers are ints. -/
import Derived.Test.YthnmllkhlinnaaaSemSay
import Derived.Test.YthnmllkhlinnaaaSemSoSpec
import Derived.Test.YthnmllkhlinnaaaPAx27
namespace Go.Proofs.Ythnmllkhlinnaaa.Sem
open Go.RowKit Go.Proofs.Ythnmllkhlinnaaa.PA Go.Proofs.YthnmllkhlinnaaaW.PrintWords Go.Proofs.YthnmllkhlinnaaaW.PrintLast Go.Proofs.YthnmllkhlinnaaaW.PrintMore
set_option linter.unusedVariables false
set_option linter.unusedSimpArgs false

/-- How many worlds there are. -/
def worlds (kinds : Nat) : Int := ((2 ^ 2 ^ kinds : Nat) : Int)
theorem worlds_le {kinds : Nat} (h : kinds ≤ 3) : 0 < worlds kinds ∧ worlds kinds ≤ 256 := by
  match kinds, h with
  | 0, _ => decide
  | 1, _ => decide
  | 2, _ => decide
  | 3, _ => decide

def soInB (k w f o t : Int) : Bool := decide (OkSay k f o t) && (decide (0 ≤ w ∧ w < worlds k.toNat) && soB k.toNat f.toNat o.toNat t.toNat w)

theorem shl_worlds (k : Nat) (hk : k ≤ 3) : shl .i64 1 (shl .u64 1 (k : Int)) = worlds k := by
  have : ((List.range 4).all fun k => decide (shl .i64 1 (shl .u64 1 (k : Int)) = worlds k)) = true := by kernel_rfl
  exact of_decide_eq_true (List.all_eq_true.1 this k (List.mem_range.2 (by omega)))

theorem shr_worlds (k : Nat) (hk : k ≤ 3) (w : Int) (h : 0 ≤ w) : (shr .i64 w (shl .u64 1 (k : Int)) = 0) ↔ w < worlds k := by
  have hp : shl .u64 1 (k : Int) = ((2 ^ k : Nat) : Int) := by
    have : ((List.range 4).all fun k => decide (shl .u64 1 (k : Int) = ((2 ^ k : Nat) : Int))) = true := by kernel_rfl
    exact of_decide_eq_true (List.all_eq_true.1 this k (List.mem_range.2 (by omega)))
  have h8 := pow_le k hk
  rw [hp]
  unfold shr worlds
  rw [Int.toNat_natCast, Nat.min_eq_left (by show 2 ^ k ≤ 64; omega)]
  have hpos : (0 : Int) < 2 ^ 2 ^ k := Int.pow_pos (by decide)
  have hc : ((2 ^ 2 ^ k : Nat) : Int) = (2 : Int) ^ 2 ^ k := by norm_cast
  rw [hc]
  constructor
  · intro e
    have := Int.lt_ediv_add_one_mul_self w hpos
    rw [e, Int.zero_add, Int.one_mul] at this
    exact this
  · intro e
    exact Int.ediv_eq_zero_of_lt h e

theorem ok_nat {k f o t : Int} (h : OkSay k f o t) : ∃ k' f' o' t' : Nat, k = k' ∧ f = f' ∧ o = o' ∧ t = t' ∧ 1 ≤ k' ∧ k' ≤ 3 ∧ f' < 2 ∧ o' < 2 * k' ∧ t' < 2 * k' := by
  unfold OkSay at h
  exact ⟨k.toNat, f.toNat, o.toNat, t.toNat, by omega, by omega, by omega, by omega, by omega, by omega, by omega, by omega, by omega⟩


theorem impl_SoIn_eq (k w f o t : Int) (hw64 : w ≤ 9223372036854775807) : Ev (fun n => impl_SoIn.f n k w f o t) (soInB k w f o t) := by
  unfold impl_SoIn.f soInB
  rw [impl_isSay_eq]
  by_cases h : OkSay k f o t
  · obtain ⟨k', f', o', t', rfl, rfl, rfl, rfl, h1, h2, h3, h4, h5⟩ := ok_nat h
    have hw := worlds_le h2
    simp only [Option.bind_some, decide_eq_true h, if_true, Bool.true_and, Int.toNat_natCast]
    by_cases h0 : 0 ≤ w
    · simp only [ge_iff_le, if_pos h0, if_pos (show (0 : Int) ≤ (k' : Int) by omega)]
      have hsh := shr_worlds k' h2 w h0
      by_cases hr : w < worlds k'
      · simp only [if_pos (hsh.2 hr), decide_eq_true (show 0 ≤ w ∧ w < worlds k' from ⟨h0, hr⟩), Bool.true_and]
        exact Ev.bind (impl_so k' f' o' t' h2 h3 (by omega) (by omega) w h0 (by omega)) (Ev.now _)
      · simp only [if_neg (fun e => hr (hsh.1 e)), decide_eq_false (show ¬ (0 ≤ w ∧ w < worlds k') by omega)]
        exact Ev.now _
    · simp only [ge_iff_le, if_neg h0, decide_eq_false (show ¬ (0 ≤ w ∧ w < worlds k') by omega)]
      exact Ev.now _
  · simp only [Option.bind_some, decide_eq_false h, Bool.false_eq_true, if_false, Bool.false_and]
    exact Ev.now _
end Go.Proofs.Ythnmllkhlinnaaa.Sem
