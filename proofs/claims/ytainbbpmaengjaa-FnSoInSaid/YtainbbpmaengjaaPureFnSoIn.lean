/- The law FnSoIn over plain bytes: it answers true, for every code; no condition. -/
import Derived.Test.YtainbbpmaengjaaSemDrawSay
import Derived.Test.YtainbbpmaengjaaSemSoIn
import Derived.Test.YtainbbpmaengjaaPAx34
import Derived.Test.YtainbbpmaengjaaPAx33
namespace Go.Proofs.Ytainbbpmaengjaa.Sem
open Go.RowKit Go.Proofs.Ytainbbpmaengjaa.PA Go.Proofs.YtainbbpmaengjaaW.PrintWords Go.Proofs.YtainbbpmaengjaaW.PrintLast Go.Proofs.YtainbbpmaengjaaW.PrintMore
set_option linter.unusedVariables false
set_option linter.unusedSimpArgs false

/-- Some are exactly if not all are not: sort by sort. -/
theorem soL_turn (f o t t' : Nat) (hf : f < 2) (world : Int) (ht : ∀ s, isB s t' = !isB s t) (l : List Nat) : soL (1 - f) o t' world l = !soL f o t world l := by
  induction l with
  | nil =>
    match f, hf with
    | 0, _ => rfl
    | 1, _ => rfl
  | cons s l ih =>
    rw [soL, soL, ht s]
    match f, hf with
    | 0, _ =>
      simp only [Nat.sub_zero] at ih ⊢
      cases h1 : (wb world s && isB s o) <;> cases h2 : isB s t <;> simp [ih]
    | 1, _ =>
      simp only [Nat.sub_self] at ih ⊢
      cases h1 : (wb world s && isB s o) <;> cases h2 : isB s t <;> simp [ih]

theorem isB_turn (s t : Nat) : isB s (t + 1 - 2 * (t % 2)) = !isB s t := by
  unfold isB
  have h2 : (t + 1 - 2 * (t % 2)) / 2 = t / 2 := by omega
  have h3 : (t + 1 - 2 * (t % 2)) % 2 = 1 - t % 2 := by omega
  rw [h2, h3]
  have a := Nat.mod_two_eq_zero_or_one (s / 2 ^ (t / 2))
  have b := Nat.mod_two_eq_zero_or_one t
  rcases a with a | a <;> rcases b with b | b <;> rw [a, b] <;> rfl

theorem shl_min : ((List.range 5).all fun k => decide (0 ≤ mn (k : Int) 3) && (decide (0 ≤ (IntKind.u64.wrap (2 ^ (mn (k : Int) 3).toNat))) && (!decide ((shl .i64 1 (IntKind.u64.wrap (2 ^ (mn (k : Int) 3).toNat))) = 0) && (decide (0 ≤ (shl .i64 1 (IntKind.u64.wrap (2 ^ (mn (k : Int) 3).toNat)))) && decide ((shl .i64 1 (IntKind.u64.wrap (2 ^ (mn (k : Int) 3).toNat))) ≤ 256))))) = true := by kernel_rfl

theorem drawSoIn_ok (l0 : List Int) (w0 : ∀ x ∈ l0, (Lit.int .u8 x).wf = true) : ∃ k w f o t, Ev (fun q => spec_DrawSoIn.f q l0) (k, w, f, o, t) ∧ w ≤ 9223372036854775807 := by
  obtain ⟨b, eo, hb⟩ := open_ok w0
  obtain ⟨k, p, ek, hk, k0, k4⟩ := l20Kinds_ok hb (by omega) 14 (by omega)
  obtain ⟨r2, e2, l2, u2, _, h2⟩ := pick_ok hk (by omega) 256 (by omega)
  obtain ⟨r3, e3, l3, u3, _, h3⟩ := pick_ok h2 (by omega) 20 (by omega)
  obtain ⟨f, o, t, p', es, _⟩ := l20Say_ok h3 (by omega) k k0 k4 14 (by omega)
  obtain ⟨k', rfl⟩ := Int.eq_ofNat_of_zero_le k0
  have hs := List.all_eq_true.1 shl_min k' (List.mem_range.2 (by omega))
  simp only [Bool.and_eq_true, decide_eq_true_eq, Bool.not_eq_true', decide_eq_false_iff_not] at hs
  obtain ⟨s1, s2, s3, s4, s5⟩ := hs
  refine ⟨k', wrap64 ((Int.tmod r2 (shl .i64 1 (IntKind.u64.wrap (2 ^ (mn (k' : Int) 3).toNat)))) - (wrap64 (Int.tdiv r3 19))), f, o, t, ?_, ?_⟩
  · unfold spec_DrawSoIn.f
    simp only [eo, Option.bind_some]
    refine Ev.bind ek (Ev.bind (ev1 e2) ?_)
    simp only [if_pos s1, if_pos s2, if_neg s3]
    exact Ev.bind (ev1 e3) (Ev.bind es (Ev.now _))
  · unfold wrap64
    omega
end Go.Proofs.Ytainbbpmaengjaa.Sem
namespace Go.Proofs.Ytainbbpmaengjaa.Pure
open Go.RowKit Go.Proofs.Ytainbbpmaengjaa.PA Go.Proofs.YtainbbpmaengjaaW.PrintWords Go.Proofs.YtainbbpmaengjaaW.PrintLast Go.Proofs.YtainbbpmaengjaaW.PrintMore
set_option linter.unusedVariables false
set_option linter.unusedSimpArgs false
theorem FnSoIn (l0 : List Int) (b0 : l0.length ≤ 9223372036854775807) (w0 : ∀ x ∈ l0, (Lit.int .u8 x).wf = true) : ∃ k, laws_FnSoIn.f k l0 = some true := by
  refine Ev.rounds (g := fun k => laws_FnSoIn.f k l0) ?_
  unfold laws_FnSoIn.f
  by_cases hl : (l0.length : Int) > 1048576
  · simp only [if_pos hl]
    exact Ev.now _
  · simp only [if_neg hl]
    obtain ⟨k, w, f, o, t, hd, hw⟩ := Sem.drawSoIn_ok l0 w0
    refine Ev.bind hd (Ev.bind (Sem.impl_SoIn_eq k w f o t hw) (Ev.bind (Sem.spec_SoIn_eq k w f o t) ?_))
    simp only [bne_self_eq_false, Bool.false_eq_true, if_false, Sem.spec_SayOk_eq, Option.bind_some]
    have no : ∀ x6 : Bool, x6 = false → Ev (fun n => laws_FnSoIn.j0 n k w x6 true f o t) true := fun x6 hx => by
      refine Sem.ev1 (fun n => ?_)
      simp only [laws_FnSoIn.j0, if_true, hx, Bool.false_eq_true, if_false, Sem.alive_ok, Option.bind_some]
    by_cases h : Sem.OkSay k f o t
    · simp only [decide_eq_true h, if_true]
      by_cases h0 : w < 0
      · simp only [if_pos h0]
        refine no _ ?_
        unfold Sem.soInB
        rw [decide_eq_false (show ¬ (0 ≤ w ∧ w < Sem.worlds k.toNat) by omega)]
        simp
      · simp only [if_neg h0]
        obtain ⟨k', f', o', t', rfl, rfl, rfl, rfl, h1, h2, h3, h4, h5⟩ := Sem.ok_nat h
        simp only [if_pos (show (0 : Int) ≤ (k' : Int) by omega), Sem.shl_worlds k' h2]
        by_cases hr : w ≥ Sem.worlds k'
        · rw [decide_eq_true hr]
          refine no _ ?_
          unfold Sem.soInB
          rw [Int.toNat_natCast, decide_eq_false (show ¬ (0 ≤ w ∧ w < Sem.worlds k') by omega)]
          simp
        · rw [decide_eq_false hr]
          have e1 : wrap64 (1 - (f' : Int)) = ((1 - f' : Nat) : Int) := by rw [Sem.w64 (by omega) (by omega)]; omega
          have e2 : wrap64 ((wrap64 ((t' : Int) + 1)) - (wrap64 (2 * (Int.tmod (t' : Int) 2)))) = ((t' + 1 - 2 * (t' % 2) : Nat) : Int) := by
            rw [Int.tmod_eq_emod_of_nonneg (by omega), Sem.w64 (n := (t' : Int) + 1) (by omega) (by omega), Sem.w64 (n := 2 * ((t' : Int) % 2)) (by omega) (by omega), Sem.w64 (by omega) (by omega)]
            omega
          have hok : Sem.OkSay k' ((1 - f' : Nat) : Int) o' ((t' + 1 - 2 * (t' % 2) : Nat) : Int) := by unfold Sem.OkSay; omega
          have hi := Sem.impl_SoIn_eq k' w ((1 - f' : Nat) : Int) o' ((t' + 1 - 2 * (t' % 2) : Nat) : Int) hw
          have hv : Sem.soInB k' w ((1 - f' : Nat) : Int) o' ((t' + 1 - 2 * (t' % 2) : Nat) : Int) = !Sem.soInB k' w f' o' t' := by
            unfold Sem.soInB Sem.soB
            simp only [decide_eq_true hok, decide_eq_true h, Int.toNat_natCast, decide_eq_true (show 0 ≤ w ∧ w < Sem.worlds k' by omega), Bool.true_and]
            exact Sem.soL_turn f' o' t' _ h3 w (fun s => Sem.isB_turn s t') _
          rw [hv] at hi
          refine Ev.step (f := fun n => (impl_SoIn.f n k' w ((1 - f' : Nat) : Int) o' ((t' + 1 - 2 * (t' % 2) : Nat) : Int)).bind fun t358 => (some (t358 != Sem.soInB k' w f' o' t'))) (fun n => ?_) (Ev.bind hi ?_)
          · simp only [laws_FnSoIn.j0, Bool.false_eq_true, if_false, e1, e2]
          · cases Sem.soInB k' w f' o' t' <;> exact Ev.now _
    · simp only [decide_eq_false h, Bool.false_eq_true, if_false]
      refine no _ ?_
      unfold Sem.soInB
      rw [decide_eq_false h]
      rfl
end Go.Proofs.Ytainbbpmaengjaa.Pure
