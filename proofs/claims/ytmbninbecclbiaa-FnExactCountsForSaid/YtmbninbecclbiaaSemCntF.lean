/- CountsFor of both programs, in plain words; no condition. -/
import Derived.Test.YtmbninbecclbiaaSemCorX
import Derived.Test.YtmbninbecclbiaaSemA
import Derived.Test.YtmbninbecclbiaaManCnt
import Derived.Test.YtmbninbecclbiaaPAx10
import Derived.Test.YtmbninbecclbiaaPAx9
import Derived.Test.YtmbninbecclbiaaPAx8
import Derived.Test.YtmbninbecclbiaaPAx1
import Derived.Test.YtmbninbecclbiaaPAx19
namespace Go.Proofs.Ytmbninbecclbiaa.Cor
open Go.RowKit Go.Proofs.Ytmbninbecclbiaa.PA Go.Proofs.YtmbninbecclbiaaW.PrintWords Go.Proofs.YtmbninbecclbiaaW.PrintLast Go.Proofs.YtmbninbecclbiaaW.PrintMore
set_option linter.unusedVariables false
set_option linter.unusedSimpArgs false
open ManR (lexC sortL cornersI corA rwS bsF addR sumN sumL wsB cntA cntF)

theorem rd_in {x : List Int} (h : x.length = 4) (j : Nat) (hj : j < 4) : rd x (j : Int) ∈ x := by
  rw [Sem.rd_at x j (by omega)]
  exact List.getElem_mem _
theorem corner_nonneg (l : List S29) : ∀ x ∈ cornersI l, ∀ y ∈ x, 0 ≤ y := by
  intro x hx y hy
  have h1 := (List.mergeSort_perm (ManR.l1 Sem.dotL (bsF l) (bsF l).length) (fun x y => !(decide (lexC y x < 0)))).mem_iff.1 hx
  have hC := (corner_iff _ (ManR.bs_four l) x).1 h1
  have hl := hC.len
  have hp := hC.prim
  match x, hl with
  | [a, b, c, d], _ =>
    have h0 : 0 ≤ a := hp.n0
    have h1 : 0 ≤ b := hp.n1
    have h2 : 0 ≤ c := hp.n2
    have h3 : 0 ≤ d := hp.n3
    rcases (show y = a ∨ y = b ∨ y = c ∨ y = d by simpa using hy) with e | e | e | e <;> rw [e] <;> assumption
theorem sumN_nonneg (o : List (List Int)) (h : ∀ x ∈ o, x.length = 4) (hb : ∀ x ∈ o, ∀ y ∈ x, 0 ≤ y) : ∀ i, i ≤ o.length → ∀ y ∈ sumN o i, 0 ≤ y
  | 0, _ => by intro y hy; simp [sumN] at hy; omega
  | i + 1, hi => by
    have ih := sumN_nonneg o h hb i (by omega)
    have hl := ManR.sumN_len o h i (by omega)
    have hm := ManR.mem_rd o (i : Int) (by omega) (by omega)
    have h4 := h _ hm
    have h6 := hb _ hm
    show ∀ y ∈ addR (sumN o i) (rd_L2 o (i : Int)) 4, _
    generalize sumN o i = s at ih hl
    generalize rd_L2 o (i : Int) = r at h4 h6
    match s, hl, r, h4 with
    | [a, b, c, d], _, [x, y, z, u], _ =>
      intro v hv
      have e : addR [a, b, c, d] [x, y, z, u] 4 = [a + x, b + y, c + z, d + u] := rfl
      rw [e] at hv
      have a1 := ih a (by simp)
      have a2 := ih b (by simp)
      have a3 := ih c (by simp)
      have a4 := ih d (by simp)
      have b1 := h6 x (by simp)
      have b2 := h6 y (by simp)
      have b3 := h6 z (by simp)
      have b4 := h6 u (by simp)
      rcases (show v = a + x ∨ v = b + y ∨ v = c + z ∨ v = d + u by simpa using hv) with e | e | e | e <;> omega
theorem cor_len {l : List S29} (h : l.length ≤ 6) : (cornersI l).length ≤ 1000 ∧ ∀ x ∈ cornersI l, x.length = 4 := ManR.cornersI_len l (ManR.bsF_len l h).2
theorem sum_counts {l : List S29} (h : l.length ≤ 6) : Man.countsB (sumL (cornersI l)) = true := by
  have hc := cor_len h
  have hl := ManR.sumN_len (cornersI l) hc.2 (cornersI l).length (Nat.le_refl _)
  have h0 := sumN_nonneg (cornersI l) hc.2 (corner_nonneg l) (cornersI l).length (Nat.le_refl _)
  have h6 := ManR.sumN_bound (cornersI l) hc.2 (ManR.cornersI_bound l) (cornersI l).length (Nat.le_refl _)
  unfold Man.countsB
  simp only [Bool.and_eq_true, decide_eq_true_eq]
  refine ⟨hl, List.all_eq_true.2 fun x hx => ?_⟩
  have a := h0 x hx
  have b := h6 x hx
  unfold Man.cntB
  refine decide_eq_true ?_
  omega
theorem wsB_eq {s : S29} (h : Sem.OkWeigh s.f0 s.f1 s.f2) (n : List Int) : wsB n s = Sem.weighV n s.f0.toNat s.f1.toNat s.f2.toNat := rfl
/-- Both programs' CountsFor. -/
def cntR (l : List S29) : List Int × Bool := if Man.weighedB l = true then cntA l else ([], false)
section
variable (l : List S29) (r : List Int × Bool)
theorem c3_ev (hok : ∀ s ∈ l, Sem.OkWeigh s.f0 s.f1 s.f2) (hl : l.length ≤ 6) (S : List Int) (hS : Man.countsB S = true) (n : Nat) : ∀ i : Nat, i + n = l.length →
    Ev (fun k => spec_CountsFor.l3 k l S (i : Int)) (if ((l.drop i).any fun s => !(wsB S s)) = true then ([], false) else (S, true)) := by
  have hS4 := (Sem.counts_bound hS).1
  induction n with
  | zero =>
    intro i hi
    rw [List.drop_of_length_le (by omega)]
    refine Ev.one fun k => ?_
    simp only [spec_CountsFor.l3]
    rw [if_neg (by omega)]
    rfl
  | succ n ih =>
    intro i hi
    have hlt : i < l.length := by omega
    have ho := hok _ (List.getElem_mem hlt)
    have hw : wrap64 ((i : Int) + 1) = ((i + 1 : Nat) : Int) := by unfold wrap64; omega
    have hws : Ev (fun k => spec_WeighSo.f k S l[i].f0 l[i].f1 l[i].f2) (wsB S l[i]) := by
      have := Sem.spec_WeighSo_eq S (by omega) l[i].f0 l[i].f1 l[i].f2
      unfold Sem.weighSoB at this
      rw [hS, decide_eq_true ho, Bool.true_and, Bool.true_and, ← wsB_eq ho] at this
      exact this
    have hb : Ev (fun k => (spec_WeighSo.f k S l[i].f0 l[i].f1 l[i].f2).bind fun t243 => if t243 = true then spec_CountsFor.l3 k l S ((i + 1 : Nat) : Int) else some ([], false)) (if ((l.drop i).any fun s => !(wsB S s)) = true then ([], false) else (S, true)) := by
      refine Ev.bind hws ?_
      rw [List.drop_eq_getElem_cons hlt, List.any_cons]
      cases hq : wsB S l[i] with
      | false => exact Ev.from 0 fun k _ => by simp
      | true =>
        simp only [if_true, Bool.not_true, Bool.false_or]
        exact ih (i + 1) (by omega)
    refine hb.step fun k => ?_
    show spec_CountsFor.l3 (k + 1) l S (i : Int) = _
    simp only [spec_CountsFor.l3]
    rw [if_pos (by omega), if_pos (by omega), rdT_get l i hlt, hw]
theorem c2_ev (o : List (List Int)) (h4 : ∀ x ∈ o, x.length = 4) (h6 : ∀ x ∈ o, ∀ y ∈ x, -6 ≤ y ∧ y ≤ 6) (hol : o.length ≤ 1000) (i : Nat) (hi : i < o.length) (h : Ev (fun k => spec_CountsFor.l1 k l (sumN o (i + 1)) o ((i + 1 : Nat) : Int)) r) (n : Nat) : ∀ j : Nat, j + n = 4 →
    Ev (fun k => spec_CountsFor.l2 k l (addR (sumN o i) (rd_L2 o (i : Int)) j) o (i : Int) (j : Int)) r := by
  have hm := ManR.mem_rd o (i : Int) (by omega) (by omega)
  have hr4 := h4 _ hm
  have hr6 := h6 _ hm
  have hs4 := ManR.sumN_len o h4 i (by omega)
  have hs6 := ManR.sumN_bound o h4 h6 i (by omega)
  have hwi : wrap64 ((i : Int) + 1) = ((i + 1 : Nat) : Int) := by unfold wrap64; omega
  induction n with
  | zero =>
    intro j hj
    obtain rfl : j = 4 := by omega
    refine h.step fun k => ?_
    show spec_CountsFor.l2 (k + 1) l _ o (i : Int) (4 : Nat) = _
    simp only [spec_CountsFor.l2]
    rw [if_neg (by omega), hwi]
    rfl
  | succ n ih =>
    intro j hj
    have hw : wrap64 ((j : Int) + 1) = ((j + 1 : Nat) : Int) := by unfold wrap64; omega
    obtain ⟨n1, n2⟩ := ManR.addR_next (sumN o i) (rd_L2 o (i : Int)) hs4 hr4 j (by omega)
    have b1 := hs6 _ (rd_in hs4 j (by omega))
    have b2 := hr6 _ (rd_in hr4 j (by omega))
    have hl := ManR.addR_len (sumN o i) (rd_L2 o (i : Int)) hs4 hr4 j (by omega)
    refine (ih (j + 1) (by omega)).step fun k => ?_
    show spec_CountsFor.l2 (k + 1) l _ o (i : Int) (j : Int) = _
    simp only [spec_CountsFor.l2]
    rw [if_pos (by omega), if_pos (by omega), if_pos (by omega), if_pos (by omega), if_pos (by omega), if_pos (by omega), n1, Sem.w64 (by omega) (by omega), hw, Int.toNat_natCast, n2]
theorem c1_ev (o : List (List Int)) (h4 : ∀ x ∈ o, x.length = 4) (h6 : ∀ x ∈ o, ∀ y ∈ x, -6 ≤ y ∧ y ≤ 6) (hol : o.length ≤ 1000) (h : Ev (fun k => spec_CountsFor.l3 k l (sumL o) 0) r) (n : Nat) : ∀ i : Nat, i + n = o.length →
    Ev (fun k => spec_CountsFor.l1 k l (sumN o i) o (i : Int)) r := by
  induction n with
  | zero =>
    intro i hi
    obtain rfl : i = o.length := by omega
    refine h.step fun k => ?_
    show spec_CountsFor.l1 (k + 1) l (sumN o o.length) o (o.length : Int) = _
    simp only [spec_CountsFor.l1]
    rw [if_neg (by omega)]
    rfl
  | succ n ih =>
    intro i hi
    have hb := c2_ev l r o h4 h6 hol i (by omega) (ih (i + 1) (by omega)) 4 0 rfl
    refine hb.step fun k => ?_
    show spec_CountsFor.l1 (k + 1) l (sumN o i) o (i : Int) = _
    simp only [spec_CountsFor.l1]
    rw [if_pos (by omega)]
    rfl
theorem c0_ok (hl : l.length ≤ 9223372036854775807) (hok : ∀ s ∈ l, Sem.OkWeigh s.f0 s.f1 s.f2) (h : Ev (fun k => spec_CountsFor.l0 k l (l.length : Int)) r) (n : Nat) : ∀ i : Nat, i + n = l.length → Ev (fun k => spec_CountsFor.l0 k l (i : Int)) r := by
  induction n with
  | zero =>
    intro i hi
    obtain rfl : i = l.length := by omega
    exact h
  | succ n ih =>
    intro i hi
    have hlt : i < l.length := by omega
    have ho := hok _ (List.getElem_mem hlt)
    have hw : wrap64 ((i : Int) + 1) = ((i + 1 : Nat) : Int) := by unfold wrap64; omega
    refine (ih (i + 1) (by omega)).step fun k => ?_
    show spec_CountsFor.l0 (k + 1) l (i : Int) = _
    simp only [spec_CountsFor.l0]
    rw [if_pos (by omega), if_pos (by omega), rdT_get l i hlt, Sem.spec_WeighOk_eq, decide_eq_true ho, Option.bind_some, if_pos rfl, hw]
theorem c0_bad (hl : l.length ≤ 9223372036854775807) (n : Nat) : ∀ i : Nat, i + n = l.length → (∃ s ∈ l.drop i, ¬ Sem.OkWeigh s.f0 s.f1 s.f2) → Ev (fun k => spec_CountsFor.l0 k l (i : Int)) ([], false) := by
  induction n with
  | zero =>
    intro i hi h
    obtain ⟨s, hs, _⟩ := h
    rw [List.drop_of_length_le (by omega)] at hs
    exact absurd hs List.not_mem_nil
  | succ n ih =>
    intro i hi h
    have hlt : i < l.length := by omega
    have hw : wrap64 ((i : Int) + 1) = ((i + 1 : Nat) : Int) := by unfold wrap64; omega
    by_cases ho : Sem.OkWeigh l[i].f0 l[i].f1 l[i].f2
    · have hd : ∃ s ∈ l.drop (i + 1), ¬ Sem.OkWeigh s.f0 s.f1 s.f2 := by
        obtain ⟨s, hs, hn⟩ := h
        rw [List.drop_eq_getElem_cons hlt] at hs
        rcases List.mem_cons.1 hs with rfl | hs
        · exact absurd ho hn
        · exact ⟨s, hs, hn⟩
      refine (ih (i + 1) (by omega) hd).step fun k => ?_
      show spec_CountsFor.l0 (k + 1) l (i : Int) = _
      simp only [spec_CountsFor.l0]
      rw [if_pos (by omega), if_pos (by omega), rdT_get l i hlt, Sem.spec_WeighOk_eq, decide_eq_true ho, Option.bind_some, if_pos rfl, hw]
    · refine Ev.one fun k => ?_
      simp only [spec_CountsFor.l0]
      rw [if_pos (by omega), if_pos (by omega), rdT_get l i hlt, Sem.spec_WeighOk_eq, decide_eq_false ho, Option.bind_some, if_neg (by simp)]
theorem countsFor_ev (hl : l.length ≤ 9223372036854775807) : Ev (fun k => spec_CountsFor.f k l) (cntR l) := by
  unfold cntR
  by_cases hall : ∀ s ∈ l, Sem.OkWeigh s.f0 s.f1 s.f2
  · refine c0_ok l _ hl hall ?_ l.length 0 (by omega)
    have hB : l.all Man.weighB = true := by
      rw [List.all_eq_true]
      intro s hs
      rw [weighB_ok]
      exact decide_eq_true (hall s hs)
    by_cases h6 : l.length ≤ 6
    · have hw : Man.weighedB l = true := by unfold Man.weighedB; rw [decide_eq_true h6, hB]; rfl
      have hco := cornersOf_ev l
      unfold corA at hco
      rw [if_pos hw] at hco ⊢
      have hc := cor_len h6
      have h3 := c3_ev l hall h6 (sumL (cornersI l)) (sum_counts h6) l.length 0 (by omega)
      have h1 := c1_ev l _ (cornersI l) hc.2 (ManR.cornersI_bound l) hc.1 h3 (cornersI l).length 0 (by omega)
      have hb : Ev (fun k => (spec_CornersOf.f k l).bind fun t235 => spec_CountsFor.l1 k l (List.replicate 4 0) t235 0) (cntA l) := Ev.bind hco h1
      refine hb.step fun k => ?_
      show spec_CountsFor.l0 (k + 1) l (l.length : Int) = _
      simp only [spec_CountsFor.l0]
      rw [if_neg (by omega), if_neg (by omega), if_pos (by omega)]
    · have hw : ¬ Man.weighedB l = true := by unfold Man.weighedB; rw [decide_eq_false h6]; simp
      rw [if_neg hw]
      refine Ev.one fun k => ?_
      simp only [spec_CountsFor.l0]
      rw [if_neg (by omega), if_pos (by omega)]
  · have hex : ∃ s ∈ l.drop 0, ¬ Sem.OkWeigh s.f0 s.f1 s.f2 := by
      by_cases q : ∃ s ∈ l, ¬ Sem.OkWeigh s.f0 s.f1 s.f2
      · exact q
      · exact absurd (fun s hs => Decidable.byContradiction fun hn => q ⟨s, hs, hn⟩) hall
    have hw : ¬ Man.weighedB l = true := fun h => hall (ManR.weigh_ok h).2
    rw [if_neg hw]
    exact c0_bad l hl l.length 0 (by omega) hex
end
end Go.Proofs.Ytmbninbecclbiaa.Cor
