/- The law FnCornersOf over plain bytes: it answers true, for every code; no condition. -/
import Derived.Test.YtmbninbecclbiaaSemA
import Derived.Test.YtmbninbecclbiaaPAx39
namespace Go.Proofs.Ytmbninbecclbiaa.Cor
open Go.RowKit Go.Proofs.Ytmbninbecclbiaa.PA Go.Proofs.YtmbninbecclbiaaW.PrintWords Go.Proofs.YtmbninbecclbiaaW.PrintLast Go.Proofs.YtmbninbecclbiaaW.PrintMore
set_option linter.unusedVariables false
set_option linter.unusedSimpArgs false
open ManR (lexC sortL cornersI corA rwS bsF addR sumN sumL wsB cntA cntF)

theorem cor_nil : (corA ([] : List S29)).length = 4 := by
  have hp := (List.mergeSort_perm (ManR.l1 Sem.dotL (bsF ([] : List S29)) (bsF ([] : List S29)).length) (fun x y => !(decide (lexC y x < 0)))).length_eq
  have e : (ManR.l1 Sem.dotL (bsF ([] : List S29)) (bsF ([] : List S29)).length).length = 4 := by kernel_rfl
  have hw : Man.weighedB ([] : List S29) = true := rfl
  unfold corA
  rw [if_pos hw]
  exact hp.trans e
theorem corA_in (L : List S29) : (corA L).length ≤ 1000 ∧ ∀ x ∈ corA L, x.length = 4 ∧ Man.countsB x = true ∧ ∀ s ∈ L, s.f0 = 0 ∨ s.f0 = 2 ∨ s.f0 = 5 → Sem.weighSoB x s.f0 s.f1 s.f2 = true := by
  unfold corA
  by_cases hw : Man.weighedB L = true
  · rw [if_pos hw]
    obtain ⟨h6, hok⟩ := ManR.weigh_ok hw
    have hc := cor_len h6
    refine ⟨hc.1, fun x hx => ?_⟩
    have hcb : Man.countsB x = true := by
      unfold Man.countsB
      simp only [Bool.and_eq_true, decide_eq_true_eq]
      refine ⟨hc.2 x hx, List.all_eq_true.2 fun y hy => ?_⟩
      have a := corner_nonneg L x hx y hy
      have b := ManR.cornersI_bound L x hx y hy
      unfold Man.cntB
      refine decide_eq_true ?_
      omega
    refine ⟨hc.2 x hx, hcb, fun s hs hf => ?_⟩
    have ho := hok s hs
    have hr := corner_row hs ((mem_corners L x).1 hx)
    unfold ManR.rwS at hr
    unfold Sem.weighSoB
    rw [hcb, decide_eq_true ho, Bool.true_and, Bool.true_and]
    unfold Sem.weighV
    have hst : Sem.strictB s.f0.toNat = false := by rcases hf with e | e | e <;> rw [e] <;> rfl
    rw [hst]
    simp only [Bool.false_eq_true, if_false]
    exact decide_eq_true hr
  · rw [if_neg hw]
    exact ⟨by simp, fun x hx => absurd hx List.not_mem_nil⟩
section
variable (L : List S29) (o : List (List Int))
theorem cl1 (hL : L.length ≤ 7) (i : Nat) (hi : i < o.length) (hx : ∀ s ∈ L, s.f0 = 0 ∨ s.f0 = 2 ∨ s.f0 = 5 → Sem.weighSoB (rd_L2 o (i : Int)) s.f0 s.f1 s.f2 = true) (h : Ev (fun k => laws_FnCornersOf.l0 k L o (wrap64 ((i : Int) + 1))) true) (n : Nat) : ∀ j : Nat, j + n = L.length → Ev (fun k => laws_FnCornersOf.l1 k L o (i : Int) (j : Int)) true := by
  induction n with
  | zero =>
    intro j hj
    refine h.step fun k => ?_
    show laws_FnCornersOf.l1 (k + 1) L o (i : Int) (j : Int) = _
    simp only [laws_FnCornersOf.l1]
    rw [if_neg (by omega)]
  | succ n ih =>
    intro j hj
    have hlt : j < L.length := by omega
    have hw : wrap64 ((j : Int) + 1) = ((j + 1 : Nat) : Int) := by unfold wrap64; omega
    have hs := hx L[j] (List.getElem_mem hlt)
    have hn := ih (j + 1) (by omega)
    have hso : Sem.weighSoB (rd_L2 o (i : Int)) L[j].f0 L[j].f1 L[j].f2 = true → Ev (fun k => (impl_WeighSo.f k (rd_L2 o (i : Int)) L[j].f0 L[j].f1 L[j].f2).bind fun t => (if t = true then (laws_FnCornersOf.l1 k L o (i : Int) ((j + 1 : Nat) : Int)) else (some false))) true := by
      intro e
      have := Sem.impl_WeighSo_eq (rd_L2 o (i : Int)) L[j].f0 L[j].f1 L[j].f2
      rw [e] at this
      refine Ev.bind this ?_
      simp only [if_true]
      exact hn
    by_cases f0 : L[j].f0 = 0
    · refine (hso (hs (Or.inl f0))).step fun k => ?_
      show laws_FnCornersOf.l1 (k + 1) L o (i : Int) (j : Int) = _
      simp only [laws_FnCornersOf.l1]
      rw [if_pos (by omega), if_pos (by omega), rdT_get L j hlt, if_pos f0, if_pos (by omega), if_pos (by omega), hw]
    · by_cases f2 : L[j].f0 = 2
      · refine (hso (hs (Or.inr (Or.inl f2)))).step fun k => ?_
        show laws_FnCornersOf.l1 (k + 1) L o (i : Int) (j : Int) = _
        simp only [laws_FnCornersOf.l1]
        rw [if_pos (by omega), if_pos (by omega), rdT_get L j hlt, if_neg f0, if_pos f2, if_pos (by omega), if_pos (by omega), hw]
      · by_cases f5 : L[j].f0 = 5
        · refine (hso (hs (Or.inr (Or.inr f5)))).step fun k => ?_
          show laws_FnCornersOf.l1 (k + 1) L o (i : Int) (j : Int) = _
          simp only [laws_FnCornersOf.l1]
          rw [if_pos (by omega), if_pos (by omega), rdT_get L j hlt, if_neg f0, if_neg f2, if_pos f5, if_pos (by omega), if_pos (by omega), hw]
        · refine hn.step fun k => ?_
          show laws_FnCornersOf.l1 (k + 1) L o (i : Int) (j : Int) = _
          simp only [laws_FnCornersOf.l1]
          rw [if_pos (by omega), if_pos (by omega), rdT_get L j hlt, if_neg f0, if_neg f2, if_neg f5, hw]
theorem cl0 (hL : L.length ≤ 7) (hol : o.length ≤ 1000) (ho : ∀ x ∈ o, Man.countsB x = true ∧ ∀ s ∈ L, s.f0 = 0 ∨ s.f0 = 2 ∨ s.f0 = 5 → Sem.weighSoB x s.f0 s.f1 s.f2 = true) (n : Nat) : ∀ i : Nat, i + n = o.length → Ev (fun k => laws_FnCornersOf.l0 k L o (i : Int)) true := by
  induction n with
  | zero =>
    intro i hi
    refine Sem.ev1 fun k => ?_
    simp only [laws_FnCornersOf.l0]
    rw [if_neg (by omega)]
    show (some (corA ([] : List S29))).bind _ = _
    rw [Option.bind_some, if_pos (by rw [cor_nil]; rfl), Sem.alive_ok]
    rfl
  | succ n ih =>
    intro i hi
    have hw : wrap64 ((i : Int) + 1) = ((i + 1 : Nat) : Int) := by unfold wrap64; omega
    have hm := ho _ (ManR.mem_rd o (i : Int) (by omega) (by omega))
    have hn := ih (i + 1) (by omega)
    rw [← hw] at hn
    refine (cl1 L o hL i (by omega) hm.2 hn L.length 0 (by omega)).step fun k => ?_
    show laws_FnCornersOf.l0 (k + 1) L o (i : Int) = _
    simp only [laws_FnCornersOf.l0]
    rw [if_pos (by omega), if_pos (by omega), Sem.impl_CountsOk_eq, hm.1, Option.bind_some, if_pos rfl]
    rfl
end
end Go.Proofs.Ytmbninbecclbiaa.Cor
namespace Go.Proofs.Ytmbninbecclbiaa.Pure
open Go.RowKit Go.Proofs.Ytmbninbecclbiaa.PA Go.Proofs.YtmbninbecclbiaaW.PrintWords Go.Proofs.YtmbninbecclbiaaW.PrintLast Go.Proofs.YtmbninbecclbiaaW.PrintMore
set_option linter.unusedVariables false
set_option linter.unusedSimpArgs false
theorem FnCornersOf (l0 : List Int) (b0 : l0.length ≤ 9223372036854775807) (w0 : ∀ x ∈ l0, (Lit.int .u8 x).wf = true) : ∃ k, laws_FnCornersOf.f k l0 = some true := by
  refine Ev.rounds (g := fun k => laws_FnCornersOf.f k l0) ?_
  unfold laws_FnCornersOf.f
  by_cases hl : (l0.length : Int) > 1048576
  · simp only [if_pos hl]
    exact Ev.now _
  · simp only [if_neg hl]
    obtain ⟨L, hd, hL⟩ := Sem.drawCornersOf_ok w0
    have hc := Cor.corA_in L
    refine Ev.bind hd ?_
    have hi : impl_CornersOf.f L = some (ManR.corA L) := rfl
    simp only [hi, Option.bind_some]
    refine Ev.bind (Cor.cornersOf_ev L) (Ev.bind (Sem.sameRows_self _ (by omega) (fun x hx => (hc.2 x hx).1)) ?_)
    simp only [if_true]
    exact Cor.cl0 L _ hL hc.1 (fun x hx => (hc.2 x hx).2) (ManR.corA L).length 0 (by omega)
end Go.Proofs.Ytmbninbecclbiaa.Pure
