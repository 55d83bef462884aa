/- The contrary of a machine is one, and its contrary is the machine; no condition. -/
import Derived.Test.YtgaapfldimokpaaSemNot
namespace Go.Proofs.Ytgaapfldimokpaa.Sem
open Go.RowKit Go.Proofs.Ytgaapfldimokpaa.PA Go.Proofs.YtgaapfldimokpaaW.PrintWords Go.Proofs.YtgaapfldimokpaaW.PrintLast Go.Proofs.YtgaapfldimokpaaW.PrintMore
set_option linter.unusedVariables false
set_option linter.unusedSimpArgs false

theorem wrap_one {x : Int} (h0 : 0 ≤ x) (h1 : x ≤ 1) : wrap64 (1 - x) = 1 - x := by unfold wrap64; omega
theorem bit_of {a b c : List Int} (h : MachOk a b c) {x : Int} (hx : x ∈ c) : 0 ≤ x ∧ x ≤ 1 := by
  obtain ⟨i, hi, rfl⟩ := List.mem_iff_getElem.1 hx
  have := (h.2 i (by have := h.1.2.2.2; omega)).2.2
  rw [rd_at c i hi] at this
  exact this
theorem not_twice {a b c : List Int} (h : MachOk a b c) : (c.map fun x => wrap64 (1 - x)).map (fun x => wrap64 (1 - x)) = c := by
  rw [List.map_map]
  conv => rhs; rw [← List.map_id c]
  apply List.map_congr_left
  intro x hx
  obtain ⟨h0, h1⟩ := bit_of h hx
  show wrap64 (1 - wrap64 (1 - x)) = x
  rw [wrap_one h0 h1, wrap_one (x := 1 - x) (by omega) (by omega)]
  omega
theorem not_ok {a b c : List Int} (h : MachOk a b c) : MachOk a b (c.map fun x => wrap64 (1 - x)) := by
  refine ⟨⟨h.1.1, h.1.2.1, h.1.2.2.1, by rw [List.length_map]; exact h.1.2.2.2⟩, fun i hi => ⟨(h.2 i hi).1, (h.2 i hi).2.1, ?_⟩⟩
  have hc : i < c.length := by have := h.1.2.2.2; omega
  rw [rd_at _ i (by rw [List.length_map]; exact hc), List.getElem_map]
  obtain ⟨h0, h1⟩ := bit_of h (List.getElem_mem hc)
  rw [wrap_one h0 h1]
  omega
theorem notM_notM {a b c : List Int} (h : MachOk a b c) : Sem.notM (Sem.notM a b c).1 (Sem.notM a b c).2.1 (Sem.notM a b c).2.2 = (a, b, c) := by
  have e : Sem.notM a b c = (a, b, c.map fun x => wrap64 (1 - x)) := by unfold Sem.notM; rw [if_pos h]
  rw [e]
  show Sem.notM a b (c.map fun x => wrap64 (1 - x)) = _
  unfold Sem.notM
  rw [if_pos (not_ok h), not_twice h]

end Go.Proofs.Ytgaapfldimokpaa.Sem
