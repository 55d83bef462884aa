/- spec.CornersOf answers what impl.CornersOf answers. -/
import Derived.Test.YtmbninbecclbiaaSemCorW
import Derived.Test.YtmbninbecclbiaaPAx8
import Derived.Test.YtmbninbecclbiaaPAx1
namespace Go.Proofs.Ytmbninbecclbiaa.Cor
open Go.RowKit Go.Proofs.Ytmbninbecclbiaa.PA Go.Proofs.YtmbninbecclbiaaW.PrintWords Go.Proofs.YtmbninbecclbiaaW.PrintLast Go.Proofs.YtmbninbecclbiaaW.PrintMore
set_option linter.unusedVariables false
set_option linter.unusedSimpArgs false
open ManR (lexC sortL cornersI corA rwS bsF)

theorem weighB_ok (s : S29) : Man.weighB s = decide (Sem.OkWeigh s.f0 s.f1 s.f2) := by
  unfold Man.weighB
  rw [Sem.impl_isWeigh_eq]
  rfl
def rowsA (l : List S29) : List (List Int) := ManR.units ++ l.map rwS
theorem rowsA_four (l : List S29) : ∀ x ∈ rowsA l, Sem.Four x := by
  intro x hx
  unfold rowsA at hx
  rcases List.mem_append.1 hx with hx | hx
  · have : x = [1, 0, 0, 0] ∨ x = [0, 1, 0, 0] ∨ x = [0, 0, 1, 0] ∨ x = [0, 0, 0, 1] := by unfold ManR.units at hx; simpa using hx
    rcases this with rfl | rfl | rfl | rfl <;> exact ⟨rfl, by decide⟩
  · obtain ⟨s, _, rfl⟩ := List.mem_map.1 hx
    exact ⟨Sem.row_len _ _ _, Sem.row_one _ _ _⟩
theorem some_row (o t : Nat) : 0 ≤ rd (Sem.rowL 1 o t) 0 ∧ 0 ≤ rd (Sem.rowL 1 o t) 1 ∧ 0 ≤ rd (Sem.rowL 1 o t) 2 ∧ 0 ≤ rd (Sem.rowL 1 o t) 3 := by
  have h : ∀ b c : Bool, 0 ≤ Sem.wt 1 (Sem.bit b) (Sem.bit c) := by decide
  exact ⟨h _ _, h _ _, h _ _, h _ _⟩
theorem corner_rows (l : List S29) (hl : l.length ≤ 6) (x : List Int) : x ∈ ManR.l1 Sem.dotL (rowsA l) (rowsA l).length ↔ x ∈ ManR.l1 Sem.dotL (bsF l) (bsF l).length := by
  rw [corner_iff _ (rowsA_four l), corner_iff _ (ManR.bs_four l)]
  refine corner_same (fun r hr => ?_) (fun r hr => ?_) (fun r hr => ?_) x
  · unfold ManR.bsF ManR.bsL at hr
    unfold rowsA
    rcases List.mem_append.1 hr with hr | hr
    · exact List.mem_append.2 (Or.inl hr)
    · obtain ⟨s, hs, rfl⟩ := List.mem_map.1 hr
      exact List.mem_append.2 (Or.inr (List.mem_map.2 ⟨s, (List.mem_filter.1 hs).1, rfl⟩))
  · unfold ManR.bsF ManR.bsL
    exact List.mem_append.2 (Or.inl hr)
  · unfold rowsA at hr
    rcases List.mem_append.1 hr with hr | hr
    · left
      unfold ManR.bsF ManR.bsL
      exact List.mem_append.2 (Or.inl hr)
    · obtain ⟨s, hs, rfl⟩ := List.mem_map.1 hr
      by_cases h1 : s.f0 = 1
      · right
        unfold ManR.rwS
        rw [h1]
        exact some_row _ _
      · left
        unfold ManR.bsF ManR.bsL
        exact List.mem_append.2 (Or.inr (List.mem_map.2 ⟨s, List.mem_filter.2 ⟨hs, by simpa using h1⟩, rfl⟩))
theorem rdT_get (l : List S29) (i : Nat) (h : i < l.length) : rd_T29 l (i : Int) = l[i] := by
  unfold rd_T29
  rw [List.getD_eq_getElem?_getD, Int.toNat_natCast, List.getElem?_eq_getElem h]
  rfl
theorem l0_ok (l : List S29) (hl : l.length ≤ 6) (hok : ∀ s ∈ l, Sem.OkWeigh s.f0 s.f1 s.f2) (r : List (List Int)) (h : Ev (fun k => spec_CornersOf.l0 k l (rowsA l) (l.length : Int)) r) (d : Nat) : ∀ i : Nat, i + d = l.length → Ev (fun k => spec_CornersOf.l0 k l (rowsA (l.take i)) (i : Int)) r := by
  induction d with
  | zero =>
    intro i hi
    obtain rfl : i = l.length := by omega
    rw [List.take_length]
    exact h
  | succ d ih =>
    intro i hi
    have hlt : i < l.length := by omega
    have ho := hok _ (List.getElem_mem hlt)
    have hw : wrap64 ((i : Int) + 1) = ((i + 1 : Nat) : Int) := by unfold wrap64; omega
    have er : rowsA (l.take (i + 1)) = rowsA (l.take i) ++ [rwS l[i]] := by
      unfold rowsA
      rw [List.take_succ_eq_append_getElem hlt, List.map_append, List.append_assoc]
      rfl
    have hlen : (rowsA (l.take i)).length ≤ 4 + i := by
      unfold rowsA
      rw [List.length_append, List.length_map, List.length_take]
      show 4 + _ ≤ _
      omega
    have hb : Ev (fun k => (spec_l6Row.f k l[i].f0 l[i].f1 l[i].f2).bind fun bt194 => if (rowsA (l.take i)).length < 5864062014805 then spec_CornersOf.l0 k l (rowsA (l.take i) ++ [bt194.1]) ((i + 1 : Nat) : Int) else none) r := by
      refine Ev.bind (row_ev ho) ?_
      simp only [if_pos (show (rowsA (l.take i)).length < 5864062014805 by omega)]
      rw [← er]
      exact ih (i + 1) (by omega)
    refine hb.step fun k => ?_
    show spec_CornersOf.l0 (k + 1) l (rowsA (l.take i)) (i : Int) = _
    simp only [spec_CornersOf.l0]
    rw [if_pos (by omega), if_pos (by omega), rdT_get l i hlt, Sem.spec_WeighOk_eq, decide_eq_true ho, Option.bind_some, if_pos rfl, if_neg (by omega), hw]
theorem l0_bad (l : List S29) (d : Nat) : ∀ (i : Nat) (x3 : List (List Int)), i + d = l.length → (6 < l.length ∧ 0 < d ∨ l.length ≤ 6 ∧ ∃ s ∈ l.drop i, ¬ Sem.OkWeigh s.f0 s.f1 s.f2) → x3.length ≤ 4 + i →
    Ev (fun k => spec_CornersOf.l0 k l x3 (i : Int)) [] := by
  induction d with
  | zero =>
    intro i x3 hi h hx
    rcases h with h | ⟨_, s, hs, _⟩
    · omega
    · rw [List.drop_of_length_le (by omega)] at hs
      exact absurd hs List.not_mem_nil
  | succ d ih =>
    intro i x3 hi h hx
    have hlt : i < l.length := by omega
    by_cases ho : Sem.OkWeigh l[i].f0 l[i].f1 l[i].f2
    · by_cases h6 : 6 < l.length
      · refine Ev.one fun k => ?_
        simp only [spec_CornersOf.l0]
        rw [if_pos (by omega), if_pos (by omega), rdT_get l i hlt, Sem.spec_WeighOk_eq, decide_eq_true ho, Option.bind_some, if_pos rfl, if_pos (by omega)]
      · have hw : wrap64 ((i : Int) + 1) = ((i + 1 : Nat) : Int) := by unfold wrap64; omega
        have hd : ∃ s ∈ l.drop (i + 1), ¬ Sem.OkWeigh s.f0 s.f1 s.f2 := by
          rcases h with h | ⟨_, s, hs, hn⟩
          · omega
          · rw [List.drop_eq_getElem_cons hlt] at hs
            rcases List.mem_cons.1 hs with rfl | hs
            · exact absurd ho hn
            · exact ⟨s, hs, hn⟩
        have hb : Ev (fun k => (spec_l6Row.f k l[i].f0 l[i].f1 l[i].f2).bind fun bt194 => if x3.length < 5864062014805 then spec_CornersOf.l0 k l (x3 ++ [bt194.1]) ((i + 1 : Nat) : Int) else none) [] := by
          refine Ev.bind (row_ev ho) ?_
          simp only [if_pos (show x3.length < 5864062014805 by omega)]
          exact ih (i + 1) _ (by omega) (Or.inr ⟨by omega, hd⟩) (by rw [List.length_append, List.length_singleton]; omega)
        refine hb.step fun k => ?_
        show spec_CornersOf.l0 (k + 1) l x3 (i : Int) = _
        simp only [spec_CornersOf.l0]
        rw [if_pos (by omega), if_pos (by omega), rdT_get l i hlt, Sem.spec_WeighOk_eq, decide_eq_true ho, Option.bind_some, if_pos rfl, if_neg (by omega), hw]
    · refine Ev.one fun k => ?_
      simp only [spec_CornersOf.l0]
      rw [if_pos (by omega), if_pos (by omega), rdT_get l i hlt, Sem.spec_WeighOk_eq, decide_eq_false ho, Option.bind_some, if_neg (by simp)]
theorem cornersOf_ev (l : List S29) : Ev (fun k => spec_CornersOf.f k l) (corA l) := by
  by_cases hw : Man.weighedB l = true
  · obtain ⟨h6, hok⟩ := ManR.weigh_ok hw
    unfold corA
    rw [if_pos hw]
    have hn : (rowsA l).length ≤ 10 := by
      unfold rowsA
      rw [List.length_append, List.length_map]
      show 4 + _ ≤ _
      omega
    have hu : ∀ r ∈ ManR.units, r ∈ rowsA l := fun r hr => List.mem_append.2 (Or.inl hr)
    have hlen := ManR.l1_len Sem.dotL (rowsA l) (rowsA l).length hn
    have hs := sort_ev (t := ManR.l1 Sem.dotL (rowsA l) (rowsA l).length) (hlen.2) (by omega)
    rw [sort_same (u := ManR.l1 Sem.dotL (bsF l) (bsF l).length) (ManR.l1_nodup _ _ _) (ManR.l1_nodup _ _ _) (corner_rows l h6)] at hs
    refine l0_ok l h6 hok _ ?_ l.length 0 (by omega)
    have hb : Ev (fun k => (spec_l6Corners.f k (rowsA l)).bind fun t204 => spec_CornersOf.l1 k t204 1) (cornersI l) := Ev.bind (corners_ev (rowsA l) (rowsA_four l) hu hn) hs
    refine hb.step fun k => ?_
    show spec_CornersOf.l0 (k + 1) l (rowsA l) (l.length : Int) = _
    simp only [spec_CornersOf.l0]
    rw [if_neg (by omega)]
  · unfold corA
    rw [if_neg hw]
    refine l0_bad l l.length 0 _ (by omega) ?_ (by decide)
    unfold Man.weighedB at hw
    by_cases h6 : l.length ≤ 6
    · right
      refine ⟨h6, ?_⟩
      rw [decide_eq_true h6, Bool.true_and, List.all_eq_true] at hw
      by_cases he : ∃ s ∈ l, ¬ Sem.OkWeigh s.f0 s.f1 s.f2
      · exact he
      · refine absurd (fun s hs => ?_) hw
        rw [weighB_ok]
        by_cases q : Sem.OkWeigh s.f0 s.f1 s.f2
        · exact decide_eq_true q
        · exact absurd ⟨s, hs, q⟩ he
    · left; omega
end Go.Proofs.Ytmbninbecclbiaa.Cor
