/- The law FnWorldWithout over plain bytes: it answers true, for every code; no condition. -/
import Derived.Test.YthnmllkhlinnaaaSemLaws5
import Derived.Test.YthnmllkhlinnaaaSemWorld
import Derived.Test.YthnmllkhlinnaaaSemSoIn
import Derived.Test.YthnmllkhlinnaaaSemDrawSaid
import Derived.Test.YthnmllkhlinnaaaPAx28
import Derived.Test.YthnmllkhlinnaaaPAx20
import Derived.Test.YthnmllkhlinnaaaPAx8
import Derived.Test.YthnmllkhlinnaaaPAx21
import Derived.Test.YthnmllkhlinnaaaPAx27
namespace Go.Proofs.Ythnmllkhlinnaaa.Pure
open Go.RowKit Go.Proofs.Ythnmllkhlinnaaa.PA Go.Proofs.YthnmllkhlinnaaaW.PrintWords Go.Proofs.YthnmllkhlinnaaaW.PrintLast
set_option linter.unusedVariables false
set_option linter.unusedSimpArgs false

theorem soIn_of {k : Int} (hk : 1 ≤ k ∧ k ≤ 3) {w : Nat} (hw : w < 2 ^ 2 ^ k.toNat) {x : Sem.Sy} (hx : Man.okB k x = true) : Ev (fun q => impl_SoIn.f q k (w : Int) x.f0 x.f1 x.f2) (Man.soI k w x) := by
  obtain ⟨k', rfl⟩ := Int.eq_ofNat_of_zero_le (show 0 ≤ k by omega)
  rw [Int.toNat_natCast] at hw
  have hW := Sem.worlds_le (kinds := k') (by omega)
  have hw' : (w : Int) < Sem.worlds k' := by unfold Sem.worlds; exact Int.ofNat_lt.2 hw
  have h := Sem.impl_SoIn_eq k' w x.f0 x.f1 x.f2 (by omega)
  have e : Sem.soInB k' w x.f0 x.f1 x.f2 = Man.soI k' w x := by
    unfold Sem.soInB Man.soI
    rw [Sem.okB_ok] at hx
    rw [hx, Int.toNat_natCast, decide_eq_true (show (0 : Int) ≤ (w : Int) ∧ (w : Int) < Sem.worlds k' from ⟨by omega, hw'⟩)]
    rfl
  rw [← e]
  exact h

theorem FnWorldWithout (l0 : List Int) (b0 : l0.length ≤ 9223372036854775807) (w0 : ∀ x ∈ l0, (Lit.int .u8 x).wf = true) : ∃ k, laws_FnWorldWithout.f k l0 = some true := by
  refine Ev.rounds (g := fun k => laws_FnWorldWithout.f k l0) ?_
  unfold laws_FnWorldWithout.f
  by_cases hl : (l0.length : Int) > 1048576
  · simp only [if_pos hl]
    exact Ev.now _
  · simp only [if_neg hl]
    obtain ⟨b, eo, hb⟩ := Sem.open_ok w0
    obtain ⟨k, l, p, ek, hr, hl7, k0, k4⟩ := Sem.l20Said_ok hb (by omega) 20 (by omega) (by omega)
    obtain ⟨f, o, t, p', es, _⟩ := Sem.l20Say_ok hr (by omega) k k0 k4 20 (by omega)
    have hd : Ev (fun q => spec_DrawWorldWithout.f q l0) (k, l, f, o, t) := by
      unfold spec_DrawWorldWithout.f
      simp only [eo, Option.bind_some]
      exact Ev.bind ek (Ev.bind es (Ev.now _))
    refine Ev.bind hd ?_
    have hw : impl_WorldWithout.f k l f o t = some (Man.worldB k l ⟨f, o, t⟩) := rfl
    simp only [hw, Option.bind_some]
    refine Ev.bind (Sem.spec_WorldWithout_eq k l (by omega) ⟨f, o, t⟩) ?_
    simp only [if_true, bne_self_eq_false]
    have no : Man.worldB k l ⟨f, o, t⟩ = (-1, false) → Ev (fun n => laws_FnWorldWithout.j0 n k l (Man.worldB k l ⟨f, o, t⟩).1 (Man.worldB k l ⟨f, o, t⟩).2 false f o t) true := fun h => by
      refine Sem.ev1 (fun n => ?_)
      rw [h]
      simp only [laws_FnWorldWithout.j0, Bool.false_eq_true, if_false, if_true, Sem.alive_ok, Option.bind_some]
    cases hq : Man.saidB k l with
    | false => exact no (by unfold Man.worldB; rw [hq]; rfl)
    | true =>
      cases hs : Man.okB k ⟨f, o, t⟩ with
      | false => exact no (by unfold Man.worldB; rw [hq, hs]; rfl)
      | true =>
        have hp := Sem.provedB_eq hq hs
        rcases Sem.world_cases hq hs with ⟨w, hwb, h1, hall, hno, h2⟩ | ⟨h1, _⟩
        · obtain ⟨hk, h6, _⟩ := Man.said_of hq
          have hpf : Man.provedB k l ⟨f, o, t⟩ = false := Bool.eq_false_iff.2 (fun h => h2 (hp.1 h))
          have hokl : ∀ x ∈ l, Man.okB k x = true := fun x hx => by
            have h := hq
            unfold Man.saidB at h
            simp only [Bool.and_eq_true, decide_eq_true_eq] at h
            exact List.all_eq_true.1 h.2 x hx
          have hi : impl_Proved.f k l f o t = some (Man.provedB k l ⟨f, o, t⟩) := rfl
          have row : ∀ (d i : Nat), i + d = l.length → Ev (fun n => laws_FnWorldWithout.l0 n k l (w : Int) (i : Int) f o t) true := fun d => by
            induction d with
            | zero =>
              intro i hi'
              refine Ev.step (f := fun n => (impl_SoIn.f n k (w : Int) f o t).bind fun t342 => (if t342 = true then (some false) else ((impl_Proved.f k l f o t).bind fun t343 => (some (!t343))))) (fun n => ?_) (Ev.bind (soIn_of hk hwb (x := ⟨f, o, t⟩) hs) ?_)
              · simp only [laws_FnWorldWithout.l0]
                rw [if_neg (by omega)]
              · simp only [hno, Bool.false_eq_true, if_false, hi, Option.bind_some, hpf]
                exact Ev.now _
            | succ d ih =>
              intro i hi'
              have hlt : i < l.length := by omega
              have hx := List.getElem_mem hlt
              refine Ev.step (f := fun n => (impl_SoIn.f n k (w : Int) l[i].f0 l[i].f1 l[i].f2).bind fun t341 => (if t341 = true then (laws_FnWorldWithout.l0 n k l (w : Int) ((i + 1 : Nat) : Int) f o t) else (some false))) (fun n => ?_) (Ev.bind (soIn_of hk hwb (hokl _ hx)) ?_)
              · simp only [laws_FnWorldWithout.l0]
                rw [if_pos (by omega), if_pos (by omega), Sem.rdS l i hlt, Sem.w1 i (by omega)]
              · simp only [hall _ hx, if_true]
                exact ih (i + 1) (by omega)
          rw [h1]
          refine Ev.step (f := fun n => laws_FnWorldWithout.l0 n k l (w : Int) ((0 : Nat) : Int) f o t) (fun n => ?_) (row l.length 0 (by omega))
          simp only [laws_FnWorldWithout.j0, Bool.false_eq_true, if_false, if_true]
          rfl
        · exact no h1
end Go.Proofs.Ythnmllkhlinnaaa.Pure
