/- What holds at a place of a triangle; no condition but that the row can be read. -/
import Derived.Test.YthodcgkhianecaaDoorManTriB
import Derived.Test.YthodcgkhianecaaDoorPAx21
namespace Go.Proofs.YthodcgkhianecaaDoor.Man
open Go.RowKit Go.Proofs.YthodcgkhianecaaDoor.PA Go.Proofs.YthodcgkhianecaaDoorW.PrintWords Go.Proofs.YthodcgkhianecaaDoorW.PrintLast Go.Proofs.YthodcgkhianecaaDoorW.PrintMore
set_option linter.unusedVariables false
set_option linter.unusedSimpArgs false

/-- The place of an entry. -/
def pl (a s : Nat) : Int := ((a * (a + 1) / 2 + s : Nat) : Int)
theorem pl_eq (a s : Nat) (ha : a ≤ 5) (hs : s ≤ a) : impl_placeOf.f (a : Int) (s : Int) = some (pl a s) := by
  have h1 : a = 0 ∨ a = 1 ∨ a = 2 ∨ a = 3 ∨ a = 4 ∨ a = 5 := by omega
  have h2 : s = 0 ∨ s = 1 ∨ s = 2 ∨ s = 3 ∨ s = 4 ∨ s = 5 := by omega
  rcases h1 with rfl | rfl | rfl | rfl | rfl | rfl <;> rcases h2 with rfl | rfl | rfl | rfl | rfl | rfl <;> first | (exfalso; omega) | (unfold impl_placeOf.f pl wrap64; rfl) | (unfold impl_placeOf.f pl wrap64; decide)
theorem pl_range (a s : Nat) (ha : a ≤ 5) (hs : s ≤ a) : 0 ≤ pl a s ∧ pl a s < 21 := by
  have h1 : a = 0 ∨ a = 1 ∨ a = 2 ∨ a = 3 ∨ a = 4 ∨ a = 5 := by omega
  have h2 : s = 0 ∨ s = 1 ∨ s = 2 ∨ s = 3 ∨ s = 4 ∨ s = 5 := by omega
  rcases h1 with rfl | rfl | rfl | rfl | rfl | rfl <;> rcases h2 with rfl | rfl | rfl | rfl | rfl | rfl <;> first | decide | (exfalso; omega)
end Go.Proofs.YthodcgkhianecaaDoor.Man
