/- The law FnCountsFor over plain bytes: it answers true, for every two codes; no condition. -/
import Derived.Test.YtmbninbecclbiaaSemA
import Derived.Test.YtmbninbecclbiaaPAx33
namespace Go.Proofs.Ytmbninbecclbiaa.Cor
open Go.RowKit Go.Proofs.Ytmbninbecclbiaa.PA Go.Proofs.YtmbninbecclbiaaW.PrintWords Go.Proofs.YtmbninbecclbiaaW.PrintLast Go.Proofs.YtmbninbecclbiaaW.PrintMore
set_option linter.unusedVariables false
set_option linter.unusedSimpArgs false
open ManR (lexC sortL cornersI corA rwS bsF addR sumN sumL wsB cntA cntF)

theorem weighSoB_of {n : List Int} {s : S29} (hn : Man.countsB n = true) (ho : Sem.OkWeigh s.f0 s.f1 s.f2) : Sem.weighSoB n s.f0 s.f1 s.f2 = wsB n s := by
  unfold Sem.weighSoB
  rw [hn, decide_eq_true ho, Bool.true_and, Bool.true_and, ← wsB_eq ho]
theorem weighSoB_ok {n : List Int} {s : S29} (h : Sem.weighSoB n s.f0 s.f1 s.f2 = true) : Sem.OkWeigh s.f0 s.f1 s.f2 := by
  unfold Sem.weighSoB at h
  rw [Bool.and_eq_true, Bool.and_eq_true] at h
  exact of_decide_eq_true h.2.1
/-- What CountsFor answers. -/
theorem cntR_told {L : List S29} (h : (cntR L).2 = true) : ∀ s ∈ L, Sem.weighSoB (cntR L).1 s.f0 s.f1 s.f2 = true := by
  unfold cntR at h ⊢
  by_cases hw : Man.weighedB L = true
  · rw [if_pos hw] at h ⊢
    obtain ⟨h6, hok⟩ := ManR.weigh_ok hw
    unfold cntA at h ⊢
    cases hq : L.any fun s => !(wsB (sumL (cornersI L)) s) with
    | true =>
      rw [hq, if_pos rfl] at h
      exact absurd h (by simp)
    | false =>
      rw [if_neg (by simp)]
      intro s hs
      rw [weighSoB_of (sum_counts h6) (hok s hs)]
      have := List.any_eq_false.1 hq s hs
      simpa using this
  · rw [if_neg hw] at h
    exact absurd h (by simp)
theorem cntR_not {L : List S29} (h : (cntR L).2 = false) : (cntR L).1 = [] := by
  unfold cntR at h ⊢
  by_cases hw : Man.weighedB L = true
  · rw [if_pos hw] at h ⊢
    unfold cntA at h ⊢
    cases hq : L.any fun s => !(wsB (sumL (cornersI L)) s) with
    | true => rw [if_pos rfl]
    | false =>
      rw [hq, if_neg (by simp)] at h
      exact absurd h (by simp)
  · rw [if_neg hw]
/-- If all sentences are so for some numbers, numbers are told. -/
theorem cntR_sat {L : List S29} {n : List Int} (h6 : L.length ≤ 6) (hn : Man.countsB n = true) (h : ∀ s ∈ L, Sem.weighSoB n s.f0 s.f1 s.f2 = true) : (cntR L).2 = true := by
  have hok : ∀ s ∈ L, Sem.OkWeigh s.f0 s.f1 s.f2 := fun s hs => weighSoB_ok (h s hs)
  have hw : Man.weighedB L = true := by
    have hB : L.all Man.weighB = true := by
      rw [List.all_eq_true]
      intro s hs
      rw [weighB_ok]
      exact decide_eq_true (hok s hs)
    unfold Man.weighedB
    rw [decide_eq_true h6, hB]
    rfl
  obtain ⟨h4, h0⟩ := Sem.counts_bound hn
  have hs := sat L h6 n h4 (fun y hy => (h0 y hy).1) (fun s hs => by rw [← weighSoB_of hn (hok s hs)]; exact h s hs)
  unfold cntR
  rw [if_pos hw]
  unfold cntA
  rw [hs, if_neg (by simp)]
section
variable (L : List S29) (S n : List Int) (b : Bool)
theorem fl1 (hL : L.length ≤ 7) (hS : b = false → S = []) (d : Nat) : ∀ (i : Nat) (x : Bool), i + d = L.length → (x = true → (∀ s ∈ L.drop i, Sem.weighSoB n s.f0 s.f1 s.f2 = true) → b = true) → Ev (fun k => laws_FnCountsFor.l1 k L S b n x (i : Int)) true := by
  induction d with
  | zero =>
    intro i x hi h
    refine Sem.ev1 fun k => ?_
    simp only [laws_FnCountsFor.l1]
    rw [if_neg (by omega), Sem.alive_ok]
    cases hb : b with
    | true => cases x <;> rfl
    | false =>
      cases hx : x with
      | true =>
        have := h hx (fun s hs => by rw [List.drop_of_length_le (by omega)] at hs; exact absurd hs List.not_mem_nil)
        rw [hb] at this
        exact absurd this (by simp)
      | false => rw [hS hb]; rfl
  | succ d ih =>
    intro i x hi h
    have hlt : i < L.length := by omega
    have hw : wrap64 ((i : Int) + 1) = ((i + 1 : Nat) : Int) := by unfold wrap64; omega
    cases x with
    | false =>
      refine (ih (i + 1) false (by omega) (fun h => absurd h (by simp))).step fun k => ?_
      show laws_FnCountsFor.l1 (k + 1) L S b n false (i : Int) = _
      simp only [laws_FnCountsFor.l1, Bool.false_eq_true, if_false]
      rw [if_pos (by omega), hw]
    | true =>
      have hn := ih (i + 1) (Sem.weighSoB n L[i].f0 L[i].f1 L[i].f2) (by omega) (fun hx hs => h rfl (fun s hm => by
        rw [List.drop_eq_getElem_cons hlt] at hm
        rcases List.mem_cons.1 hm with rfl | hm
        · exact hx
        · exact hs s hm))
      have hb : Ev (fun k => (impl_WeighSo.f k n L[i].f0 L[i].f1 L[i].f2).bind fun t => laws_FnCountsFor.l1 k L S b n t ((i + 1 : Nat) : Int)) true := Ev.bind (Sem.impl_WeighSo_eq n _ _ _) hn
      refine hb.step fun k => ?_
      show laws_FnCountsFor.l1 (k + 1) L S b n true (i : Int) = _
      simp only [laws_FnCountsFor.l1, if_true]
      rw [if_pos (by omega), if_pos (by omega), rdT_get L i hlt, hw]
theorem fl0 (x1 : List Int) (hL : L.length ≤ 7) (hso : b = true → ∀ s ∈ L, Sem.weighSoB S s.f0 s.f1 s.f2 = true)
    (ht : Ev (fun k => (spec_DrawWeighSo.f k x1).bind fun bt => (spec_CountsOk.f k bt.1).bind fun t => if t = true then (laws_FnCountsFor.j4 k L S b bt.1 (decide ((L.length : Int) ≤ 6))) else (laws_FnCountsFor.j4 k L S b bt.1 false)) true) (d : Nat) :
    ∀ i : Nat, i + d = L.length → Ev (fun k => laws_FnCountsFor.l0 k x1 L S b (i : Int)) true := by
  have stop : ∀ i : Int, Ev (fun k => laws_FnCountsFor.j3 k x1 L S b i false) true := by
    intro i
    refine ht.step fun k => ?_
    simp only [laws_FnCountsFor.j3, Bool.false_eq_true, if_false]
  induction d with
  | zero =>
    intro i hi
    refine (stop (i : Int)).step fun k => ?_
    show laws_FnCountsFor.l0 (k + 1) x1 L S b (i : Int) = _
    simp only [laws_FnCountsFor.l0]
    rw [if_neg (by omega)]
  | succ d ih =>
    intro i hi
    have hlt : i < L.length := by omega
    have hw : wrap64 ((i : Int) + 1) = ((i + 1 : Nat) : Int) := by unfold wrap64; omega
    have hj : Ev (fun k => laws_FnCountsFor.j3 k x1 L S b (i : Int) b) true := by
      cases hb : b with
      | false =>
        have := stop (i : Int)
        rw [hb] at this
        exact this
      | true =>
        have h1 := Sem.impl_WeighSo_eq S L[i].f0 L[i].f1 L[i].f2
        rw [hso hb _ (List.getElem_mem hlt)] at h1
        have hn := ih (i + 1) (by omega)
        rw [hb] at hn
        have hb' : Ev (fun k => (impl_WeighSo.f k S L[i].f0 L[i].f1 L[i].f2).bind fun t => if t = true then (laws_FnCountsFor.l0 k x1 L S true ((i + 1 : Nat) : Int)) else (some false)) true := Ev.bind h1 (by simp only [if_true]; exact hn)
        refine hb'.step fun k => ?_
        show laws_FnCountsFor.j3 (k + 1) x1 L S true (i : Int) true = _
        simp only [laws_FnCountsFor.j3, if_true]
        rw [if_pos (by omega), if_pos (by omega), rdT_get L i hlt, hw]
    refine hj.step fun k => ?_
    show laws_FnCountsFor.l0 (k + 1) x1 L S b (i : Int) = _
    simp only [laws_FnCountsFor.l0]
    rw [if_pos (by omega)]
end
end Go.Proofs.Ytmbninbecclbiaa.Cor
namespace Go.Proofs.Ytmbninbecclbiaa.Pure
open Go.RowKit Go.Proofs.Ytmbninbecclbiaa.PA Go.Proofs.YtmbninbecclbiaaW.PrintWords Go.Proofs.YtmbninbecclbiaaW.PrintLast Go.Proofs.YtmbninbecclbiaaW.PrintMore
set_option linter.unusedVariables false
set_option linter.unusedSimpArgs false
theorem FnCountsFor (l0 : List Int) (b0 : l0.length ≤ 9223372036854775807) (w0 : ∀ x ∈ l0, (Lit.int .u8 x).wf = true) (l1 : List Int) (b1 : l1.length ≤ 9223372036854775807) (w1 : ∀ x ∈ l1, (Lit.int .u8 x).wf = true) : ∃ k, laws_FnCountsFor.f k l0 l1 = some true := by
  refine Ev.rounds (g := fun k => laws_FnCountsFor.f k l0 l1) ?_
  have long : Ev (fun k => laws_FnCountsFor.j0 k l0 l1 true) true := Sem.ev1 (fun k => by simp only [laws_FnCountsFor.j0, if_true])
  unfold laws_FnCountsFor.f
  by_cases hl : (l0.length : Int) > 1048576
  · simp only [if_pos hl]
    exact long
  · simp only [if_neg hl]
    by_cases hl1 : (l1.length : Int) > 1048576
    · rw [decide_eq_true hl1]
      exact long
    · rw [decide_eq_false hl1]
      obtain ⟨L, hd, hL⟩ := Sem.drawCountsFor_ok w0
      obtain ⟨n, f, o, t, hdw, hn5, _⟩ := Sem.drawWeighSo_ok l1 w1
      refine Ev.step (fun k => by simp only [laws_FnCountsFor.j0, Bool.false_eq_true, if_false]; rfl) (Ev.bind hd ?_)
      simp only [ManR.impl_cnt, Option.bind_some]
      have h4 := ManR.cntR_len L
      refine Ev.bind (Cor.countsFor_ev L (by omega)) (Ev.bind (Sem.sameInts_self _ (by rcases h4 with h | h <;> rw [h] <;> simp)) ?_)
      simp only [if_true, bne_self_eq_false]
      have ht : Ev (fun k => (spec_DrawWeighSo.f k l1).bind fun bt => (spec_CountsOk.f k bt.1).bind fun t => if t = true then (laws_FnCountsFor.j4 k L (Cor.cntR L).1 (Cor.cntR L).2 bt.1 (decide ((L.length : Int) ≤ 6))) else (laws_FnCountsFor.j4 k L (Cor.cntR L).1 (Cor.cntR L).2 bt.1 false)) true := by
        refine Ev.bind hdw (Ev.bind (Sem.spec_CountsOk_eq n (by omega)) ?_)
        have fin : ∀ x : Bool, (x = true → (∀ s ∈ L, Sem.weighSoB n s.f0 s.f1 s.f2 = true) → (Cor.cntR L).2 = true) → Ev (fun k => laws_FnCountsFor.j4 k L (Cor.cntR L).1 (Cor.cntR L).2 n x) true := by
          intro x hx
          refine (Cor.fl1 L (Cor.cntR L).1 n (Cor.cntR L).2 hL Cor.cntR_not L.length 0 x (by omega) hx).step fun k => ?_
          show laws_FnCountsFor.j4 (k + 1) L (Cor.cntR L).1 (Cor.cntR L).2 n x = _
          simp only [laws_FnCountsFor.j4]
          rfl
        cases hn : Man.countsB n with
        | false =>
          simp only [Bool.false_eq_true, if_false]
          exact fin false (fun h => absurd h (by simp))
        | true =>
          simp only [if_true]
          exact fin _ (fun h hs => Cor.cntR_sat (by have := of_decide_eq_true h; omega) hn hs)
      have h0 := Cor.fl0 L (Cor.cntR L).1 (Cor.cntR L).2 l1 hL Cor.cntR_told ht L.length 0 (by omega)
      refine h0.step fun k => ?_
      simp only [laws_FnCountsFor.j1, Bool.false_eq_true, if_false]
      rfl
end Go.Proofs.Ytmbninbecclbiaa.Pure
