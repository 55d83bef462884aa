/- The contrary of a sentence that compares numbers, and WeighFollows of both programs, in plain words; no condition but a length. -/
import Derived.KernelRfl
import Derived.Test.YtmkfmbjemdbigaaSemA
import Derived.Test.YtmkfmbjemdbigaaPAx25
import Derived.Test.YtmkfmbjemdbigaaPAx16
import Derived.Test.YtmkfmbjemdbigaaPAx26
import Derived.Test.YtmkfmbjemdbigaaPAx17
namespace Go.Proofs.Ytmkfmbjemdbigaa.Sem
open Go.RowKit Go.Proofs.Ytmkfmbjemdbigaa.PA Go.Proofs.YtmkfmbjemdbigaaW.PrintWords Go.Proofs.YtmkfmbjemdbigaaW.PrintLast Go.Proofs.YtmkfmbjemdbigaaW.PrintMore
set_option linter.unusedVariables false
set_option linter.unusedSimpArgs false

/-- The contrary of a sentence that is allowed. -/
def conB (f o t : Nat) : Int × Int × Int :=
  if f = 0 then (1, o, (t + 1 - 2 * (t % 2) : Nat)) else if f = 1 then (0, o, (t + 1 - 2 * (t % 2) : Nat)) else if f = 2 then (3, t, o) else if f = 3 then (2, t, o) else if f = 4 then (5, o, t) else (4, o, t)
theorem spec_con_all : ((List.range 6).all fun f => (List.range 4).all fun o => (List.range 4).all fun t => decide (spec_ContraryOf.f 2 f o t = some (conB f o t))) = true := by kernel_rfl
theorem impl_con_all : ((List.range 6).all fun f => (List.range 4).all fun o => (List.range 4).all fun t => decide (impl_contraryOf.f f o t = some (conB f o t))) = true := by kernel_rfl
theorem con_all : ((List.range 6).all fun f => (List.range 4).all fun o => (List.range 4).all fun t =>
    decide ((conB f o t).1.toNat < 6 ∧ (conB f o t).2.1.toNat < 4 ∧ (conB f o t).2.2.toNat < 4 ∧ 0 ≤ (conB f o t).1 ∧ 0 ≤ (conB f o t).2.1 ∧ 0 ≤ (conB f o t).2.2 ∧
      rowL (conB f o t).1.toNat (conB f o t).2.1.toNat (conB f o t).2.2.toNat = (rowL f o t).map (fun x => -x) ∧ strictB (conB f o t).1.toNat = !strictB f)) = true := by kernel_rfl
theorem spec_con (f o t : Nat) (hf : f < 6) (ho : o < 4) (ht : t < 4) : spec_ContraryOf.f 2 f o t = some (conB f o t) :=
  of_decide_eq_true (List.all_eq_true.1 (List.all_eq_true.1 (List.all_eq_true.1 spec_con_all f (List.mem_range.2 hf)) o (List.mem_range.2 ho)) t (List.mem_range.2 ht))
theorem impl_con (f o t : Nat) (hf : f < 6) (ho : o < 4) (ht : t < 4) : impl_contraryOf.f f o t = some (conB f o t) :=
  of_decide_eq_true (List.all_eq_true.1 (List.all_eq_true.1 (List.all_eq_true.1 impl_con_all f (List.mem_range.2 hf)) o (List.mem_range.2 ho)) t (List.mem_range.2 ht))
/-- The contrary as a sentence. -/
def conS (f o t : Int) : S25 := ⟨(conB f.toNat o.toNat t.toNat).1, (conB f.toNat o.toNat t.toNat).2.1, (conB f.toNat o.toNat t.toNat).2.2⟩
theorem conS_facts {f o t : Int} (h : OkWeigh f o t) : OkWeigh (conS f o t).f0 (conS f o t).f1 (conS f o t).f2 ∧
    rowL (conS f o t).f0.toNat (conS f o t).f1.toNat (conS f o t).f2.toNat = (rowL f.toNat o.toNat t.toNat).map (fun x => -x) ∧ strictB (conS f o t).f0.toNat = !strictB f.toNat := by
  obtain ⟨f', o', t', rfl, rfl, rfl, hf, ho, ht⟩ := weigh_nat h
  have hc := of_decide_eq_true (List.all_eq_true.1 (List.all_eq_true.1 (List.all_eq_true.1 con_all f' (List.mem_range.2 hf)) o' (List.mem_range.2 ho)) t' (List.mem_range.2 ht))
  unfold conS
  simp only [Int.toNat_natCast]
  obtain ⟨c1, c2, c3, c4, c5, c6, c7, c8⟩ := hc
  refine ⟨?_, c7, c8⟩
  unfold OkWeigh
  omega
theorem spec_conS {f o t : Int} (h : OkWeigh f o t) : Ev (fun k => spec_ContraryOf.f k f o t) ((conS f o t).f0, (conS f o t).f1, (conS f o t).f2) := by
  obtain ⟨f', o', t', rfl, rfl, rfl, hf, ho, ht⟩ := weigh_nat h
  exact Ev.of (fun k => spec_ContraryOf.mono _ _ _ k) (spec_con f' o' t' hf ho ht)
theorem impl_conS {f o t : Int} (h : OkWeigh f o t) : impl_contraryOf.f f o t = some ((conS f o t).f0, (conS f o t).f1, (conS f o t).f2) := by
  obtain ⟨f', o', t', rfl, rfl, rfl, hf, ho, ht⟩ := weigh_nat h
  exact impl_con f' o' t' hf ho ht
theorem dot_neg (l r : List Int) : dotL l (r.map fun x => -x) = -dotL l r := by
  induction l generalizing r with
  | nil => unfold dotL; rfl
  | cons a l ih =>
    cases r with
    | nil => unfold dotL; rfl
    | cons b r =>
      rw [List.map_cons, dotL, dotL, ih, Int.mul_neg]
      omega
end Go.Proofs.Ytmkfmbjemdbigaa.Sem
namespace Go.Proofs.Ytmkfmbjemdbigaa.Cor
open Go.RowKit Go.Proofs.Ytmkfmbjemdbigaa.PA Go.Proofs.YtmkfmbjemdbigaaW.PrintWords Go.Proofs.YtmkfmbjemdbigaaW.PrintLast Go.Proofs.YtmkfmbjemdbigaaW.PrintMore
set_option linter.unusedVariables false
set_option linter.unusedSimpArgs false
open ManR (lexC sortL cornersI corA rwS bsF addR sumN sumL wsB cntA cntF)
open Go.Proofs.Ytmkfmbjemdbigaa.Sem (conS OkWeigh)

/-- For all numbers a sentence is so exactly if its contrary is not. -/
theorem wsB_con {f o t : Int} (h : OkWeigh f o t) (n : List Int) : wsB n (conS f o t) = !wsB n ⟨f, o, t⟩ := by
  obtain ⟨_, h7, h8⟩ := Sem.conS_facts h
  unfold wsB rwS
  rw [h7, h8, Sem.dot_neg]
  cases Sem.strictB f.toNat
  · simp only [Bool.not_false, if_true, Bool.false_eq_true, if_false]
    rw [← decide_not]
    exact decide_eq_decide.mpr (by omega)
  · simp only [Bool.not_true, if_true, Bool.false_eq_true, if_false]
    rw [← decide_not]
    exact decide_eq_decide.mpr (by omega)
theorem weighedB_of {l : List S25} (h6 : l.length ≤ 6) (h : ∀ s ∈ l, OkWeigh s.f0 s.f1 s.f2) : Man.weighedB l = true := by
  have hB : l.all Man.weighB = true := by
    rw [List.all_eq_true]
    intro s hs
    rw [weighB_ok]
    exact decide_eq_true (h s hs)
  unfold Man.weighedB
  rw [decide_eq_true h6, hB]
  rfl
/-- WeighFollows. -/
def wfR (l : List S25) (f o t : Int) : Bool := if Man.weighedB l = true ∧ l.length ≠ 6 ∧ OkWeigh f o t then !(cntA (l ++ [conS f o t])).2 else false
theorem con_weighed {l : List S25} {f o t : Int} (hw : Man.weighedB l = true) (h6 : l.length ≠ 6) (ho : OkWeigh f o t) : Man.weighedB (l ++ [conS f o t]) = true := by
  obtain ⟨hl, hok⟩ := ManR.weigh_ok hw
  refine weighedB_of (by rw [List.length_append]; simp; omega) (fun s hs => ?_)
  rcases List.mem_append.1 hs with hs | hs
  · exact hok s hs
  · rw [List.mem_singleton.1 hs]
    exact (Sem.conS_facts ho).1
theorem impl_wf (l : List S25) (f o t : Int) : impl_WeighFollows.f l f o t = some (wfR l f o t) := by
  unfold impl_WeighFollows.f wfR
  show (some (Man.weighedB l)).bind _ = _
  simp only [Option.bind_some]
  by_cases hw : Man.weighedB l = true
  · rw [if_pos hw]
    by_cases h6 : l.length = 6
    · rw [if_pos (by omega), if_neg (fun h => h.2.1 h6)]
    · rw [if_neg (by omega), Sem.impl_isWeigh_eq, Option.bind_some]
      by_cases ho : OkWeigh f o t
      · rw [decide_eq_true ho, if_pos rfl, if_pos ⟨hw, h6, ho⟩]
        have hcw := con_weighed hw h6 ho
        have hl := (ManR.weigh_ok hw).1
        have e : impl_weighFollows.f l f o t = some (!(cntA (l ++ [conS f o t])).2) := by
          unfold impl_weighFollows.f
          rw [Option.bind_some, if_pos (by simp; omega), Option.bind_some, Sem.impl_conS ho, Option.bind_some, if_pos (by simp; omega), List.nil_append]
          show (cntF (l ++ [conS f o t])).bind _ = _
          unfold cntF
          rw [if_pos hcw]
          rfl
        rw [e]
        rfl
      · rw [decide_eq_false ho, if_neg (by simp), if_neg (fun h => ho h.2.2)]
  · rw [if_neg hw, if_neg (fun h => hw h.1)]
section
variable (l : List S25) (f o t : Int) (r : Bool)
theorem wf0_ok (hl : l.length ≤ 9223372036854775807) (hok : ∀ s ∈ l, OkWeigh s.f0 s.f1 s.f2) (h : Ev (fun k => spec_WeighFollows.l0 k l (l.length : Int) f o t) r) (n : Nat) : ∀ i : Nat, i + n = l.length → Ev (fun k => spec_WeighFollows.l0 k l (i : Int) f o t) r := by
  induction n with
  | zero =>
    intro i hi
    obtain rfl : i = l.length := by omega
    exact h
  | succ n ih =>
    intro i hi
    have hlt : i < l.length := by omega
    have ho := hok _ (List.getElem_mem hlt)
    have hw : wrap64 ((i : Int) + 1) = ((i + 1 : Nat) : Int) := by unfold wrap64; omega
    refine (ih (i + 1) (by omega)).step fun k => ?_
    show spec_WeighFollows.l0 (k + 1) l (i : Int) f o t = _
    simp only [spec_WeighFollows.l0]
    rw [if_pos (by omega), if_pos (by omega), rdT_get l i hlt, Sem.spec_WeighOk_eq, decide_eq_true ho, Option.bind_some, if_pos rfl, hw]
theorem wf0_bad (hl : l.length ≤ 9223372036854775807) (n : Nat) : ∀ i : Nat, i + n = l.length → (∃ s ∈ l.drop i, ¬ OkWeigh s.f0 s.f1 s.f2) → Ev (fun k => spec_WeighFollows.l0 k l (i : Int) f o t) false := by
  induction n with
  | zero =>
    intro i hi h
    obtain ⟨s, hs, _⟩ := h
    rw [List.drop_of_length_le (by omega)] at hs
    exact absurd hs List.not_mem_nil
  | succ n ih =>
    intro i hi h
    have hlt : i < l.length := by omega
    have hw : wrap64 ((i : Int) + 1) = ((i + 1 : Nat) : Int) := by unfold wrap64; omega
    by_cases ho : OkWeigh l[i].f0 l[i].f1 l[i].f2
    · have hd : ∃ s ∈ l.drop (i + 1), ¬ OkWeigh s.f0 s.f1 s.f2 := by
        obtain ⟨s, hs, hn⟩ := h
        rw [List.drop_eq_getElem_cons hlt] at hs
        rcases List.mem_cons.1 hs with rfl | hs
        · exact absurd ho hn
        · exact ⟨s, hs, hn⟩
      refine (ih (i + 1) (by omega) hd).step fun k => ?_
      show spec_WeighFollows.l0 (k + 1) l (i : Int) f o t = _
      simp only [spec_WeighFollows.l0]
      rw [if_pos (by omega), if_pos (by omega), rdT_get l i hlt, Sem.spec_WeighOk_eq, decide_eq_true ho, Option.bind_some, if_pos rfl, hw]
    · refine Ev.one fun k => ?_
      simp only [spec_WeighFollows.l0]
      rw [if_pos (by omega), if_pos (by omega), rdT_get l i hlt, Sem.spec_WeighOk_eq, decide_eq_false ho, Option.bind_some, if_neg (by simp)]
theorem weighFollows_ev (hl : l.length ≤ 9223372036854775807) : Ev (fun k => spec_WeighFollows.f k l f o t) (wfR l f o t) := by
  unfold wfR
  by_cases hall : ∀ s ∈ l, OkWeigh s.f0 s.f1 s.f2
  · refine wf0_ok l f o t _ hl hall ?_ l.length 0 (by omega)
    by_cases ho : OkWeigh f o t
    · by_cases h6 : l.length < 6
      · have hw := weighedB_of (by omega) hall
        have hcw := con_weighed hw (by omega) ho
        rw [if_pos ⟨hw, by omega, ho⟩]
        have hc := countsFor_ev (l ++ [conS f o t]) (by rw [List.length_append]; simp; omega)
        unfold cntR at hc
        rw [if_pos hcw] at hc
        have hb : Ev (fun k => (spec_ContraryOf.f k f o t).bind fun bt => (spec_CountsFor.f k (l ++ [(⟨bt.1, bt.2.1, bt.2.2⟩ : S25)])).bind fun bc => some (!bc.2)) (!(cntA (l ++ [conS f o t])).2) :=
          Ev.bind (Sem.spec_conS ho) (Ev.bind hc (Ev.now _))
        have hj : Ev (fun k => spec_WeighFollows.j1 k l (decide ((l.length : Int) ≥ 6)) f o t) (!(cntA (l ++ [conS f o t])).2) := by
          refine hb.step fun k => ?_
          rw [decide_eq_false (by omega)]
          simp only [spec_WeighFollows.j1, Bool.false_eq_true, if_false, Option.bind_some, List.nil_append]
          rw [if_pos (by simp; omega)]
          simp only [if_pos (show l.length < 5864062014805 by omega)]
        refine hj.step fun k => ?_
        show spec_WeighFollows.l0 (k + 1) l (l.length : Int) f o t = _
        simp only [spec_WeighFollows.l0]
        rw [if_neg (by omega), Sem.spec_WeighOk_eq, decide_eq_true ho, Option.bind_some, if_pos rfl]
      · rw [if_neg (fun h => by have := (ManR.weigh_ok h.1).1; have := h.2.1; omega)]
        have hj : Ev (fun k => spec_WeighFollows.j1 k l (decide ((l.length : Int) ≥ 6)) f o t) false := by
          refine Ev.one fun k => ?_
          rw [decide_eq_true (by omega)]
          simp only [spec_WeighFollows.j1, if_true]
        refine hj.step fun k => ?_
        show spec_WeighFollows.l0 (k + 1) l (l.length : Int) f o t = _
        simp only [spec_WeighFollows.l0]
        rw [if_neg (by omega), Sem.spec_WeighOk_eq, decide_eq_true ho, Option.bind_some, if_pos rfl]
    · rw [if_neg (fun h => ho h.2.2)]
      have hj : Ev (fun k => spec_WeighFollows.j1 k l true f o t) false := by
        refine Ev.one fun k => ?_
        simp only [spec_WeighFollows.j1, if_true]
      refine hj.step fun k => ?_
      show spec_WeighFollows.l0 (k + 1) l (l.length : Int) f o t = _
      simp only [spec_WeighFollows.l0]
      rw [if_neg (by omega), Sem.spec_WeighOk_eq, decide_eq_false ho, Option.bind_some, if_neg (by simp)]
  · have hex : ∃ s ∈ l.drop 0, ¬ OkWeigh s.f0 s.f1 s.f2 := by
      by_cases q : ∃ s ∈ l, ¬ OkWeigh s.f0 s.f1 s.f2
      · exact q
      · exact absurd (fun s hs => Decidable.byContradiction fun hn => q ⟨s, hs, hn⟩) hall
    rw [if_neg (fun h => hall (ManR.weigh_ok h.1).2)]
    exact wf0_bad l f o t hl l.length 0 (by omega) hex
end
end Go.Proofs.Ytmkfmbjemdbigaa.Cor
