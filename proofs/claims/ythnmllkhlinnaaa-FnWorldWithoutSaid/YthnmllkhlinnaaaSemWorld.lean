/- WorldWithout of the reference, in plain words: the least world in which the sentences are so and the further one is not; no condition but a row's length. -/
import Derived.Test.YthnmllkhlinnaaaManWorld
import Derived.Test.YthnmllkhlinnaaaSemSaid
import Derived.Test.YthnmllkhlinnaaaPAx24
namespace Go.Proofs.Ythnmllkhlinnaaa.Sem
open Go.RowKit Go.Proofs.Ythnmllkhlinnaaa.PA Go.Proofs.YthnmllkhlinnaaaW.PrintWords Go.Proofs.YthnmllkhlinnaaaW.PrintLast Go.Proofs.YthnmllkhlinnaaaW.PrintMore
set_option linter.unusedVariables false
set_option linter.unusedSimpArgs false

theorem spec_soI {k w : Int} {x : S29} (h : Man.okB k x = true) (h0 : 0 ≤ w) (h1 : w < 9223372036854775808) : Ev (fun q => spec_l5So.f q k w x.f0 x.f1 x.f2) (Man.soI k w x) := by
  rw [okB_ok, decide_eq_true_eq] at h
  obtain ⟨k', f', o', t', rfl, e1, e2, e3, _, h2, h3, h4, h5⟩ := ok_nat h
  unfold Man.soI
  rw [e1, e2, e3]
  simp only [Int.toNat_natCast]
  exact spec_so k' f' o' t' h2 h3 (by omega) (by omega) w h0 h1

theorem worldRow (k : Int) (l : List S29) (hl : l.length ≤ 1048576) (hok : ∀ x ∈ l, Man.okB k x = true) (w : Nat) (hw : w < 256) (f o t : Int) (r : Int × Bool) (n : Nat) : ∀ i, i + n = l.length →
    ((l.drop i).all (Man.soI k w) = true → r = ((w : Int), true)) → ((l.drop i).all (Man.soI k w) = false → Ev (fun q => spec_WorldWithout.l0 q k l ((w + 1 : Nat) : Int) f o t) r) →
    Ev (fun q => spec_WorldWithout.l1 q k l w true (i : Int) f o t) r := by
  have hww : wrap64 ((w : Int) + 1) = ((w + 1 : Nat) : Int) := by rw [w64 (by omega) (by omega)]; omega
  induction n with
  | zero =>
    intro i hi hyes _
    rw [List.drop_of_length_le (by omega)] at hyes
    rw [hyes rfl]
    refine Ev.step (f := fun _ => some ((w : Int), true)) (fun q => ?_) (Ev.now _)
    simp only [spec_WorldWithout.l1, if_true]
    rw [if_neg (by omega)]
  | succ n ih =>
    intro i hi hyes hno
    have hlt : i < l.length := by omega
    have hwi : wrap64 ((i : Int) + 1) = ((i + 1 : Nat) : Int) := by rw [w64 (by omega) (by omega)]; omega
    have hrd : rd_T29 l (i : Int) = l[i] := by
      unfold rd_T29
      rw [List.getD_eq_getElem?_getD, Int.toNat_natCast, List.getElem?_eq_getElem hlt]
      rfl
    rw [List.drop_eq_getElem_cons hlt, List.all_cons] at hyes hno
    have hs := spec_soI (w := (w : Int)) (hok l[i] (List.getElem_mem hlt)) (by omega) (by omega)
    refine Ev.step (f := fun q => (spec_l5So.f q k w l[i].f0 l[i].f1 l[i].f2).bind fun b => spec_WorldWithout.l1 q k l w b ((i + 1 : Nat) : Int) f o t) (fun q => ?_) (Ev.bind hs ?_)
    · simp only [spec_WorldWithout.l1, if_true]
      rw [if_pos (by omega), if_pos (by omega), hrd, hwi]
    · cases hb : Man.soI k w l[i] with
      | true =>
        simp only [hb, Bool.true_and] at hyes hno
        exact ih (i + 1) (by omega) hyes hno
      | false =>
        simp only [hb, Bool.false_and] at hno
        have hnext := hno trivial
        refine Ev.step (fun q => ?_) hnext
        simp only [spec_WorldWithout.l1, Bool.false_eq_true, if_false, hww]
        split <;> rfl

theorem worldFrom (k : Nat) (hk : k ≤ 3) (l : List S29) (hl : l.length ≤ 1048576) (hok : ∀ x ∈ l, Man.okB k x = true) (s : S29) (hs : Man.okB k s = true) (n : Nat) : ∀ w, w + n = 2 ^ 2 ^ k →
    Ev (fun q => spec_WorldWithout.l0 q k l (w : Int) s.f0 s.f1 s.f2) (Man.findW k l s (List.range' w (2 ^ 2 ^ k - w))) := by
  have hW := (worlds_le hk).2
  unfold worlds at hW
  induction n with
  | zero =>
    intro w hw
    rw [show 2 ^ 2 ^ k - w = 0 by omega]
    refine Ev.step (f := fun _ => some ((-1), false)) (fun q => ?_) (Ev.now _)
    simp only [spec_WorldWithout.l0]
    rw [if_pos (by omega), shl_worlds k hk]
    unfold worlds
    rw [if_neg (by omega)]
  | succ n ih =>
    intro w hw
    have ih := ih (w + 1) (by omega)
    rw [range_from w (2 ^ 2 ^ k) (by omega), Man.findW]
    have hss := spec_soI (w := (w : Int)) hs (by omega) (by omega)
    refine Ev.step (f := fun q => (spec_l5So.f q k w s.f0 s.f1 s.f2).bind fun b => spec_WorldWithout.l1 q k l w (!b) 0 s.f0 s.f1 s.f2) (fun q => ?_) (Ev.bind hss ?_)
    · simp only [spec_WorldWithout.l0]
      rw [if_pos (by omega), shl_worlds k hk]
      unfold worlds
      rw [if_pos (by omega)]
    · cases hb : Man.soI k w s with
      | true =>
        simp only [Bool.not_true, Bool.and_false, Bool.false_eq_true, if_false]
        have hww : wrap64 ((w : Int) + 1) = ((w + 1 : Nat) : Int) := by rw [w64 (by omega) (by omega)]; omega
        refine Ev.step (fun q => ?_) ih
        simp only [spec_WorldWithout.l1, Bool.false_eq_true, if_false, hww]
        split <;> rfl
      | false =>
        simp only [Bool.not_false, Bool.and_true]
        refine worldRow k l hl hok w (by omega) s.f0 s.f1 s.f2 _ l.length 0 (by omega) (fun h => ?_) (fun h => ?_)
        · rw [List.drop_zero] at h
          rw [if_pos h]
        · rw [List.drop_zero] at h
          rw [if_neg (by rw [h]; simp)]
          exact ih

theorem spec_WorldWithout_eq (k : Int) (l : List S29) (hl : l.length ≤ 1048576) (s : S29) : Ev (fun q => spec_WorldWithout.f q k l s.f0 s.f1 s.f2) (Man.worldB k l s) := by
  unfold spec_WorldWithout.f Man.worldB
  refine Ev.bind (spec_SaidOk_eq k l hl) ?_
  cases hb : Man.saidB k l with
  | false =>
    simp only [Bool.false_eq_true, if_false, Bool.false_and]
    exact ev1 (fun q => by simp only [spec_WorldWithout.j0, if_true])
  | true =>
    simp only [if_true, Bool.true_and, spec_SayOk_eq, Option.bind_some]
    rw [← okB_ok]
    cases hs : Man.okB k s with
    | false =>
      simp only [Bool.not_false, Bool.false_eq_true, if_false]
      exact ev1 (fun q => by simp only [spec_WorldWithout.j0, if_true])
    | true =>
      simp only [Bool.not_true, if_true]
      have hb' := hb
      unfold Man.saidB at hb'
      simp only [Bool.and_eq_true, decide_eq_true_eq] at hb'
      obtain ⟨k', rfl⟩ := Int.eq_ofNat_of_zero_le (show 0 ≤ k by omega)
      have h := worldFrom k' (by omega) l hl (List.all_eq_true.1 hb'.2) s hs (2 ^ 2 ^ k') 0 (by omega)
      refine Ev.step (f := fun q => spec_WorldWithout.l0 q k' l 0 s.f0 s.f1 s.f2) (fun q => ?_) ?_
      · simp only [spec_WorldWithout.j0, Bool.false_eq_true, if_false]
      · rw [Int.toNat_natCast, List.range_eq_range']
        exact h
end Go.Proofs.Ythnmllkhlinnaaa.Sem
