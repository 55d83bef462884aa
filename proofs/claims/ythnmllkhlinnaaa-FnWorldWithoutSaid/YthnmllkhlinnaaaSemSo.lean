/- Sentences in worlds: what the two programs' loops over sorts answer, in plain words; for one to three kinds, terms of these, and worlds from 0 on. -/
import Derived.Laws.BitsLemmas
import Derived.Test.YthnmllkhlinnaaaSemIs
import Derived.Test.YthnmllkhlinnaaaPAx26
namespace Go.Proofs.Ythnmllkhlinnaaa.Sem
open Go.RowKit Go.Proofs.Ythnmllkhlinnaaa.PA Go.Proofs.YthnmllkhlinnaaaW.PrintWords Go.Proofs.YthnmllkhlinnaaaW.PrintLast Go.Proofs.YthnmllkhlinnaaaW.PrintMore
set_option linter.unusedVariables false
set_option linter.unusedSimpArgs false

/-- Is there something of a sort in a world? -/
def wb (world : Int) (s : Nat) : Bool := decide ((world / 2 ^ s) % 2 = 1)

/-- A sentence in a world, sort by sort. -/
def soL (f o t : Nat) (world : Int) : List Nat → Bool
  | [] => f == 0
  | s :: l => if (wb world s && isB s o) = true then (if f = 0 then (if isB s t = true then soL f o t world l else false) else (if isB s t = true then true else soL f o t world l)) else soL f o t world l

def soB (kinds f o t : Nat) (world : Int) : Bool := soL f o t world (List.range (2 ^ kinds))

theorem range_from (s n : Nat) (h : s < n) : List.range' s (n - s) = s :: List.range' (s + 1) (n - (s + 1)) := by
  rw [show n - s = (n - (s + 1)) + 1 by omega, List.range'_succ]

theorem shr_eq (world : Int) (s : Nat) (hs : s < 8) : shr .i64 world (s : Int) = world / 2 ^ s := by
  unfold shr
  rw [Int.toNat_natCast, Nat.min_eq_left (by show s ≤ 64; omega)]

theorem shl1 (k : Nat) (hk : k ≤ 3) : shl .i64 1 (k : Int) = ((2 ^ k : Nat) : Int) := by
  have : ((List.range 4).all fun k => decide (shl .i64 1 (k : Int) = ((2 ^ k : Nat) : Int))) = true := by kernel_rfl
  exact of_decide_eq_true (List.all_eq_true.1 this k (List.mem_range.2 (by omega)))

theorem and1 (x : Int) (h : 0 ≤ x) (h' : x < 9223372036854775808) : Go.bits .and .i64 x 1 = x % 2 := by
  have := bits_mask .i64 63 (by decide) (fun n h0 h1 => by rw [IntKind.wrap_i64]; omega) 1 (by decide) x h (by omega)
  simpa using this

theorem world_small {world : Int} (h0 : 0 ≤ world) (h1 : world < 9223372036854775808) (s : Nat) : 0 ≤ world / 2 ^ s ∧ world / 2 ^ s < 9223372036854775808 := by
  have hp : (0 : Int) < 2 ^ s := Int.pow_pos (by decide)
  exact ⟨Int.ediv_nonneg h0 (by omega), by have := Int.ediv_le_self (2 ^ s) h0; omega⟩

theorem tmod_bit {world : Int} (h0 : 0 ≤ world) (s : Nat) : (Int.tmod (world / 2 ^ s) 2 = 0) ↔ wb world s = false := by
  have hp : (0 : Int) < 2 ^ s := Int.pow_pos (by decide)
  have h := Int.ediv_nonneg h0 (show (0 : Int) ≤ 2 ^ s by omega)
  rw [Int.tmod_eq_emod_of_nonneg h]
  unfold wb
  rw [decide_eq_false_iff_not]
  omega

theorem pow_le (kinds : Nat) (h : kinds ≤ 3) : 2 ^ kinds ≤ 8 := by
  match kinds, h with
  | 0, _ => decide
  | 1, _ => decide
  | 2, _ => decide
  | 3, _ => decide

theorem impl_so_from (kinds f o t : Nat) (hk : kinds ≤ 3) (hf : f < 2) (ho : o < 6) (ht : t < 6) (world : Int) (h0 : 0 ≤ world) (h1 : world < 9223372036854775808) (n : Nat) :
    ∀ s, s + n = 2 ^ kinds → Ev (fun k => impl_soIn.l0 k world ((2 ^ kinds : Nat) : Int) s f o t) (soL f o t world (List.range' s (2 ^ kinds - s))) := by
  have h8 := pow_le kinds hk
  induction n with
  | zero =>
    intro s hs
    refine Ev.step (f := fun _ => some (f == 0)) (fun k => ?_) ?_
    · simp only [impl_soIn.l0]
      rw [if_neg (by omega)]
      congr 1
      rw [Bool.eq_iff_iff]; simp
    · rw [show 2 ^ kinds - s = 0 by omega]
      exact Ev.now _
  | succ n ih =>
    intro s hs
    have ih := ih (s + 1) (by omega)
    rw [range_from s (2 ^ kinds) (by omega), soL]
    have hw : wrap64 ((s : Int) + 1) = ((s + 1 : Nat) : Int) := by rw [w64 (by omega) (by omega)]; omega
    have hs2 := world_small h0 h1 s
    have hb : Go.bits .and .i64 (shr .i64 world (s : Int)) 1 = (world / 2 ^ s) % 2 := by rw [shr_eq world s (by omega), and1 _ hs2.1 hs2.2]
    have q1 := implIs s o (by omega) ho
    have q2 := implIs s t (by omega) ht
    have ff : ∀ b : Bool, ((f : Int) == 1) = (f == 1) := fun _ => by rw [Bool.eq_iff_iff]; simp; omega
    cases hwb : wb world s with
    | false =>
      simp only [Bool.false_and, Bool.false_eq_true, if_false]
      unfold wb at hwb
      rw [decide_eq_false_iff_not] at hwb
      refine Ev.step (f := fun k => impl_soIn.j1 k world s ((2 ^ kinds : Nat) : Int) s true f o t) (fun k => ?_) (Ev.step (f := fun k => impl_soIn.l0 k world ((2 ^ kinds : Nat) : Int) ((s + 1 : Nat) : Int) f o t) (fun k => ?_) ih)
      · simp only [impl_soIn.l0]
        rw [if_pos (by omega), if_pos (by omega), hb, if_pos (by omega)]
      · simp only [impl_soIn.j1, if_true, hw]
    | true =>
      unfold wb at hwb
      rw [decide_eq_true_eq] at hwb
      refine Ev.step (f := fun k => impl_soIn.j1 k world s ((2 ^ kinds : Nat) : Int) s (!isB s o) f o t) (fun k => ?_) ?_
      · simp only [impl_soIn.l0]
        rw [if_pos (by omega), if_pos (by omega), hb, if_neg (by omega), q1]
        rfl
      · cases hq1 : isB s o with
        | false =>
          simp only [Bool.and_false, Bool.false_eq_true, if_false]
          exact Ev.step (f := fun k => impl_soIn.l0 k world ((2 ^ kinds : Nat) : Int) ((s + 1 : Nat) : Int) f o t) (fun k => by simp only [impl_soIn.j1, Bool.not_false, if_true, hw]) ih
        | true =>
          simp only [Bool.and_true, if_true]
          by_cases e0 : f = 0
          · subst e0
            rw [if_pos rfl]
            cases hq2 : isB s t with
            | false =>
              rw [hq2] at q2
              simp only [Bool.false_eq_true, if_false]
              refine Ev.step (f := fun _ => some false) (fun k => ?_) (Ev.now _)
              simp only [impl_soIn.j1, Bool.not_true, Bool.false_eq_true, if_false, q2, Option.bind_some]
              rfl
            | true =>
              rw [hq2] at q2
              simp only [if_true]
              refine Ev.step (f := fun k => impl_soIn.l0 k world ((2 ^ kinds : Nat) : Int) ((s + 1 : Nat) : Int) ((0 : Nat) : Int) o t) (fun k => ?_) ih
              simp only [impl_soIn.j1, Bool.not_true, Bool.false_eq_true, if_false, q2, Option.bind_some, hw]
              rfl
          · obtain rfl : f = 1 := by omega
            rw [if_neg e0]
            cases hq2 : isB s t with
            | false =>
              rw [hq2] at q2
              simp only [Bool.false_eq_true, if_false]
              refine Ev.step (f := fun k => impl_soIn.l0 k world ((2 ^ kinds : Nat) : Int) ((s + 1 : Nat) : Int) ((1 : Nat) : Int) o t) (fun k => ?_) ih
              simp only [impl_soIn.j1, Bool.not_true, Bool.false_eq_true, if_false, q2, Option.bind_some, hw]
              rfl
            | true =>
              rw [hq2] at q2
              simp only [if_true]
              refine Ev.step (f := fun _ => some true) (fun k => ?_) (Ev.now _)
              simp only [impl_soIn.j1, Bool.not_true, Bool.false_eq_true, if_false, q2, Option.bind_some]
              rfl

theorem impl_so (kinds f o t : Nat) (hk : kinds ≤ 3) (hf : f < 2) (ho : o < 6) (ht : t < 6) (world : Int) (h0 : 0 ≤ world) (h1 : world < 9223372036854775808) :
    Ev (fun k => impl_soIn.f k kinds world f o t) (soB kinds f o t world) := by
  have h := impl_so_from kinds f o t hk hf ho ht world h0 h1 (2 ^ kinds) 0 (by omega)
  unfold soB
  rw [List.range_eq_range']
  refine Ev.congr (fun k => ?_) h
  unfold impl_soIn.f
  rw [if_pos (by omega), shl1 kinds hk]
  rfl
end Go.Proofs.Ythnmllkhlinnaaa.Sem
