/- impl.CornersOf; no condition but that the sentences compare numbers and are six at most (CornersOf: none). -/
import Derived.Test.YtmkfmbjemdbigaaManCorF
import Derived.Test.YtmkfmbjemdbigaaPAx5
namespace Go.Proofs.Ytmkfmbjemdbigaa.ManR
open Go.RowKit Go.Proofs.Ytmkfmbjemdbigaa.PA Go.Proofs.YtmkfmbjemdbigaaW.PrintWords Go.Proofs.YtmkfmbjemdbigaaW.PrintLast Go.Proofs.YtmkfmbjemdbigaaW.PrintMore
set_option linter.unusedVariables false
set_option linter.unusedSimpArgs false

/-- What CornersOf answers. -/
def corA (l : List S25) : List (List Int) := if Man.weighedB l = true then cornersI l else []
theorem cornersI_len (l : List S25) (h : (bsF l).length ≤ 10) : (cornersI l).length ≤ 1000 ∧ ∀ x ∈ cornersI l, x.length = 4 := by
  have h1 := l1_len Sem.dotL (bsF l) (bsF l).length h
  have hp := List.mergeSort_perm (l1 Sem.dotL (bsF l) (bsF l).length) (fun x y => !(decide (lexC y x < 0)))
  refine ⟨?_, fun x hx => h1.2 x (hp.mem_iff.1 hx)⟩
  have := hp.length_eq
  show (List.mergeSort _ _).length ≤ 1000
  rw [this]
  omega
theorem bsF_len (l : List S25) (h : l.length ≤ 6) : 4 ≤ (bsF l).length ∧ (bsF l).length ≤ 10 := by
  unfold bsF bsL
  rw [List.length_append, List.length_map]
  have h1 := List.length_filter_le (fun s : S25 => s.f0 != 1) l
  show 4 ≤ 4 + _ ∧ 4 + _ ≤ 10
  omega
theorem cornersI_bound (l : List S25) : ∀ x ∈ cornersI l, ∀ y ∈ x, -6 ≤ y ∧ y ≤ 6 := by
  have hst : ∀ (o : List (List Int)) a b c, Sem.Four a → Sem.Four b → Sem.Four c → (∀ x ∈ o, ∀ y ∈ x, -6 ≤ y ∧ y ≤ 6) → ∀ x ∈ stepR Sem.dotL (bsF l) o a b c, ∀ y ∈ x, -6 ≤ y ∧ y ≤ 6 := by
    intro o a b c ha hb hc ho
    unfold stepR
    split
    · exact ho
    · split
      · exact ho
      · split
        · exact ho
        · intro x hx
          rcases List.mem_append.1 hx with hx | hx
          · exact ho x hx
          · rw [List.mem_singleton.1 hx]
            exact Sem.ol_bound _ (Sem.ml_bound ha hb hc)
  have hF : ∀ i : Nat, i < (bsF l).length → Sem.Four (rd_L5 (bsF l) (i : Int)) := fun i hi => bs_four l _ (mem_rd _ _ (by omega) (by omega))
  have h3 : ∀ (o : List (List Int)) a b, Sem.Four a → Sem.Four b → (∀ x ∈ o, ∀ y ∈ x, -6 ≤ y ∧ y ≤ 6) → ∀ j, j ≤ (bsF l).length → ∀ x ∈ l3 Sem.dotL (bsF l) a b j o, ∀ y ∈ x, -6 ≤ y ∧ y ≤ 6 := by
    intro o a b ha hb ho j
    induction j with
    | zero => exact fun _ => ho
    | succ j ih => exact fun hj => hst _ a b _ ha hb (hF j (by omega)) (ih (by omega))
  have h2 : ∀ (o : List (List Int)) a, Sem.Four a → (∀ x ∈ o, ∀ y ∈ x, -6 ≤ y ∧ y ≤ 6) → ∀ k, k ≤ (bsF l).length → ∀ x ∈ l2 Sem.dotL (bsF l) a k o, ∀ y ∈ x, -6 ≤ y ∧ y ≤ 6 := by
    intro o a ha ho k
    induction k with
    | zero => exact fun _ => ho
    | succ k ih => exact fun hk => h3 _ a _ ha (hF k (by omega)) (ih (by omega)) k (by omega)
  have h1 : ∀ i, i ≤ (bsF l).length → ∀ x ∈ l1 Sem.dotL (bsF l) i, ∀ y ∈ x, -6 ≤ y ∧ y ≤ 6 := by
    intro i
    induction i with
    | zero => exact fun _ x hx => absurd hx (List.not_mem_nil)
    | succ i ih => exact fun hi => h2 _ _ (hF i (by omega)) (ih (by omega)) i (by omega)
  intro x hx
  exact h1 _ (Nat.le_refl _) x ((List.mergeSort_perm _ _).mem_iff.1 hx)
end Go.Proofs.Ytmkfmbjemdbigaa.ManR
