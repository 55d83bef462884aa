/- spec.l6Minor, as a plain function; no condition but that the rows are of four small numbers. -/
import Derived.Test.YtmkfmbjemdbigaaManA
import Derived.Test.YtmkfmbjemdbigaaSemRow
namespace Go.Proofs.Ytmkfmbjemdbigaa.Man
open Go.RowKit Go.Proofs.Ytmkfmbjemdbigaa.PA Go.Proofs.YtmkfmbjemdbigaaW.PrintWords Go.Proofs.YtmkfmbjemdbigaaW.PrintLast Go.Proofs.YtmkfmbjemdbigaaW.PrintMore
set_option linter.unusedVariables false
set_option linter.unusedSimpArgs false

def fourB (l : List Int) : Bool := decide (l.length = 4) && l.all fun x => decide (-1 ≤ x) && decide (x ≤ 1)
theorem four_of {l : List Int} (h : fourB l = true) : Sem.Four l := by
  unfold fourB at h
  rw [Bool.and_eq_true] at h
  refine ⟨of_decide_eq_true h.1, fun x hx => ?_⟩
  have := List.all_eq_true.1 h.2 x hx
  rw [Bool.and_eq_true] at this
  exact ⟨of_decide_eq_true this.1, of_decide_eq_true this.2⟩
theorem of_four {l : List Int} (h : Sem.Four l) : fourB l = true := by
  unfold fourB
  rw [Bool.and_eq_true]
  refine ⟨decide_eq_true h.1, List.all_eq_true.2 fun x hx => ?_⟩
  have := h.2 x hx
  rw [Bool.and_eq_true]
  exact ⟨decide_eq_true this.1, decide_eq_true this.2⟩
def minF (a b c : List Int) : Option (List Int) := if (fourB a && fourB b && fourB c) = true then some (ul (ml a b c) 4) else none
theorem minF_calls (w : World) (A0 A1 A2 : Option Addr) (c0 c1 c2 : Nat) (a b c r : List Int) (r0 : Kd.C (Kd.int .i64) w A0 a.length a) (r1 : Kd.C (Kd.int .i64) w A1 b.length b) (r2 : Kd.C (Kd.int .i64) w A2 c.length c) (h : minF a b c = some r) :
    Calls Try.prog 62 #[.slice A0 a.length c0, .slice A1 b.length c1, .slice A2 c.length c2] w fun e w' => ∃ v, e = .returned v ∧ Kd.R (Kd.int .i64) 3 w' w.heap.size (fun _ => True) v r ∧ Below w.heap.size w w' := by
  unfold minF at h
  by_cases hb : (fourB a && fourB b && fourB c) = true
  · rw [if_pos hb] at h
    obtain rfl := Option.some.inj h
    rw [Bool.and_eq_true, Bool.and_eq_true] at hb
    have ha := four_of hb.1.1
    have hb2 := four_of hb.1.2
    have hc := four_of hb.2
    exact l6Minor w A0 A1 A2 c0 c1 c2 a b c r0 r1 r2 ha.1 hb2.1 hc.1 (fun i hi => by have := Sem.ml_bound ha hb2 hc i hi; omega)
  · rw [if_neg hb] at h
    cases h
end Go.Proofs.Ytmkfmbjemdbigaa.Man
