/- impl.cornersOf, as a plain function; no condition but that the sentences compare numbers and are six at most. -/
import Derived.Test.YtmkfmbjemdbigaaManA
import Derived.Test.YtmkfmbjemdbigaaSemRow
import Derived.Test.YtmkfmbjemdbigaaSemOk
namespace Go.Proofs.Ytmkfmbjemdbigaa.ManR
open Go.RowKit Go.Proofs.Ytmkfmbjemdbigaa.PA Go.Proofs.YtmkfmbjemdbigaaW.PrintWords Go.Proofs.YtmkfmbjemdbigaaW.PrintLast Go.Proofs.YtmkfmbjemdbigaaW.PrintMore
set_option linter.unusedVariables false
set_option linter.unusedSimpArgs false

/-- A sentence's weights. -/
def rwS (s : S25) : List Int := Sem.rowL s.f0.toNat s.f1.toNat s.f2.toNat
def bsF (l : List S25) : List (List Int) := bsL rwS l
def cornersI (l : List S25) : List (List Int) := sortL (l1 Sem.dotL (bsF l) (bsF l).length)
def corF (l : List S25) : Option (List (List Int)) := if Man.weighedB l = true then some (cornersI l) else none
theorem weigh_ok {l : List S25} (h : Man.weighedB l = true) : l.length ≤ 6 ∧ ∀ s ∈ l, Sem.OkWeigh s.f0 s.f1 s.f2 := by
  unfold Man.weighedB at h
  rw [Bool.and_eq_true] at h
  refine ⟨of_decide_eq_true h.1, fun s hs => ?_⟩
  have := List.all_eq_true.1 h.2 s hs
  unfold Man.weighB at this
  rw [Sem.impl_isWeigh_eq] at this
  exact of_decide_eq_true this
theorem bs_four (l : List S25) : ∀ x ∈ bsF l, Sem.Four x := by
  intro x hx
  unfold bsF bsL at hx
  rcases List.mem_append.1 hx with hx | hx
  · have : x = [1, 0, 0, 0] ∨ x = [0, 1, 0, 0] ∨ x = [0, 0, 1, 0] ∨ x = [0, 0, 0, 1] := by unfold units at hx; simpa using hx
    rcases this with rfl | rfl | rfl | rfl <;> exact ⟨rfl, by decide⟩
  · obtain ⟨s, _, rfl⟩ := List.mem_map.1 hx
    exact ⟨Sem.row_len _ _ _, Sem.row_one _ _ _⟩
theorem cornersOf_calls (A : Option Addr) (c : Nat) (l : List S25) (r : List (List Int)) (w : World) (hr : Kd.C k25 w A l.length l) (h : corF l = some r) :
    Calls Try.prog 46 #[.slice A l.length c] w fun e w' => ∃ v, e = .returned v ∧ Kd.S (Kd.slice 3 (Kd.int .i64)) 29 w' w.heap.size (fun _ => True) v r ∧ Below w.heap.size w w' := by
  unfold corF at h
  by_cases hw : Man.weighedB l = true
  · rw [if_pos hw] at h
    obtain rfl := Option.some.inj h
    obtain ⟨h6, hok⟩ := weigh_ok hw
    have h4 := bs_four l
    refine cornersOf w A c l rwS Sem.dotL 40 5 hr h6 (fun s hs _ => ?_) (fun x hx => (h4 x hx).1) (fun a ha b hb d hd i hi => ?_) (fun a ha b hb d hd x hx hne => ?_)
    · obtain ⟨f, o, t, e0, e1, e2, hf, ho, ht⟩ := Sem.weigh_nat (hok s hs)
      unfold rwS
      rw [e0, e1, e2]
      exact Sem.impl_row40 f o t hf ho ht
    · have := Sem.ml_bound (h4 a ha) (h4 b hb) (h4 d hd) i hi
      omega
    · have hm := Sem.ml_bound (h4 a ha) (h4 b hb) (h4 d hd)
      have hx4 := h4 x hx
      exact Sem.weighed4 _ x ((lineL_len _).resolve_left hne) hx4.1 (fun y hy => by have := Sem.ol_bound _ hm y hy; omega) (fun y hy => by have := hx4.2 y hy; omega)
  · rw [if_neg hw] at h
    cases h
end Go.Proofs.Ytmkfmbjemdbigaa.ManR
