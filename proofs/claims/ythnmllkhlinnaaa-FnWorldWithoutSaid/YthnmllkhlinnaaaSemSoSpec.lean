/- Sentences in worlds: what the reference's loop over sorts answers, in plain words. -/
import Derived.Test.YthnmllkhlinnaaaSemSo
import Derived.Test.YthnmllkhlinnaaaPAx23
namespace Go.Proofs.Ythnmllkhlinnaaa.Sem
open Go.RowKit Go.Proofs.Ythnmllkhlinnaaa.PA Go.Proofs.YthnmllkhlinnaaaW.PrintWords Go.Proofs.YthnmllkhlinnaaaW.PrintLast Go.Proofs.YthnmllkhlinnaaaW.PrintMore
set_option linter.unusedVariables false
set_option linter.unusedSimpArgs false

theorem spec_so_from (kinds f o t : Nat) (hk : kinds ≤ 3) (hf : f < 2) (ho : o < 6) (ht : t < 6) (world : Int) (h0 : 0 ≤ world) (h1 : world < 9223372036854775808) (n : Nat) :
    ∀ s, s + n = 2 ^ kinds → Ev (fun k => spec_l5So.l0 k kinds world s f o t) (soL f o t world (List.range' s (2 ^ kinds - s))) := by
  have h8 := pow_le kinds hk
  have hf0 : ((f : Int) = 0) = (f = 0) := by simp
  have hf1 : ((f : Int) = 1) = (f = 1) := by simp; omega
  induction n with
  | zero =>
    intro s hs
    refine Ev.step (f := fun _ => some (f == 0)) (fun k => ?_) ?_
    · simp only [spec_l5So.l0]
      rw [if_pos (by omega), shl1 kinds hk, if_neg (by omega)]
      congr 1
      rw [Bool.eq_iff_iff]; simp
    · rw [show 2 ^ kinds - s = 0 by omega]
      exact Ev.now _
  | succ n ih =>
    intro s hs
    have ih := ih (s + 1) (by omega)
    rw [range_from s (2 ^ kinds) (by omega), soL]
    have hw : wrap64 ((s : Int) + 1) = ((s + 1 : Nat) : Int) := by rw [w64 (by omega) (by omega)]; omega
    have hb := tmod_bit h0 s
    have q1 := specIs s o (by omega) ho
    have q2 := specIs s t (by omega) ht
    cases hwb : wb world s with
    | false =>
      rw [hwb] at hb
      simp only [Bool.false_and, Bool.false_eq_true, if_false]
      refine Ev.step (f := fun k => spec_l5So.j1 k kinds world s true f o t) (fun k => ?_) (Ev.step (f := fun k => spec_l5So.l0 k kinds world ((s + 1 : Nat) : Int) f o t) (fun k => ?_) ih)
      · simp only [spec_l5So.l0]
        rw [if_pos (by omega), shl1 kinds hk, if_pos (by omega), if_pos (by omega), shr_eq world s (by omega), if_pos (hb.2 rfl)]
      · simp only [spec_l5So.j1, if_true, hw]
    | true =>
      rw [hwb] at hb
      have hb' : ¬ Int.tmod (world / 2 ^ s) 2 = 0 := fun h => by have := hb.1 h; simp at this
      refine Ev.step (f := fun k => spec_l5So.j1 k kinds world s (!isB s o) f o t) (fun k => ?_) ?_
      · simp only [spec_l5So.l0]
        rw [if_pos (by omega), shl1 kinds hk, if_pos (by omega), if_pos (by omega), shr_eq world s (by omega), if_neg hb', q1]
        rfl
      · cases hq1 : isB s o with
        | false =>
          simp only [Bool.and_false, Bool.false_eq_true, if_false]
          exact Ev.step (f := fun k => spec_l5So.l0 k kinds world ((s + 1 : Nat) : Int) f o t) (fun k => by simp only [spec_l5So.j1, Bool.not_false, if_true, hw]) ih
        | true =>
          simp only [Bool.and_true, if_true]
          by_cases e0 : f = 0
          · subst e0
            rw [if_pos rfl]
            cases hq2 : isB s t with
            | false =>
              rw [hq2] at q2
              simp only [Bool.false_eq_true, if_false]
              refine Ev.step (f := fun k => spec_l5So.j2 k kinds world s true ((0 : Nat) : Int) o t) (fun k => ?_) (Ev.step (f := fun _ => some false) (fun k => ?_) (Ev.now _))
              · simp only [spec_l5So.j1, Bool.not_true, Bool.false_eq_true, if_false]
                rw [if_pos (by omega), q2]
                rfl
              · simp only [spec_l5So.j2, if_true]
            | true =>
              rw [hq2] at q2
              simp only [if_true]
              refine Ev.step (f := fun k => spec_l5So.j2 k kinds world s false ((0 : Nat) : Int) o t) (fun k => ?_) (Ev.step (f := fun k => spec_l5So.l0 k kinds world ((s + 1 : Nat) : Int) ((0 : Nat) : Int) o t) (fun k => ?_) ih)
              · simp only [spec_l5So.j1, Bool.not_true, Bool.false_eq_true, if_false]
                rw [if_pos (by omega), q2]
                rfl
              · simp only [spec_l5So.j2, Bool.false_eq_true, if_false, hw]
                rw [if_neg (by omega)]
          · obtain rfl : f = 1 := by omega
            rw [if_neg e0]
            refine Ev.step (f := fun k => spec_l5So.j2 k kinds world s false ((1 : Nat) : Int) o t) (fun k => ?_) ?_
            · simp only [spec_l5So.j1, Bool.not_true, Bool.false_eq_true, if_false]
              rw [if_neg (by omega)]
            · cases hq2 : isB s t with
              | false =>
                rw [hq2] at q2
                simp only [Bool.false_eq_true, if_false]
                refine Ev.step (f := fun k => spec_l5So.l0 k kinds world ((s + 1 : Nat) : Int) ((1 : Nat) : Int) o t) (fun k => ?_) ih
                simp only [spec_l5So.j2, Bool.false_eq_true, if_false, hw, q2, Option.bind_some]
                rw [if_pos (by omega)]
              | true =>
                rw [hq2] at q2
                simp only [if_true]
                refine Ev.step (f := fun _ => some true) (fun k => ?_) (Ev.now _)
                simp only [spec_l5So.j2, Bool.false_eq_true, if_false, hw, q2, Option.bind_some, if_true]
                rw [if_pos (by omega)]

theorem spec_so (kinds f o t : Nat) (hk : kinds ≤ 3) (hf : f < 2) (ho : o < 6) (ht : t < 6) (world : Int) (h0 : 0 ≤ world) (h1 : world < 9223372036854775808) :
    Ev (fun k => spec_l5So.f k kinds world f o t) (soB kinds f o t world) := by
  have h := spec_so_from kinds f o t hk hf ho ht world h0 h1 (2 ^ kinds) 0 (by omega)
  unfold soB
  rw [List.range_eq_range']
  exact h

end Go.Proofs.Ythnmllkhlinnaaa.Sem
