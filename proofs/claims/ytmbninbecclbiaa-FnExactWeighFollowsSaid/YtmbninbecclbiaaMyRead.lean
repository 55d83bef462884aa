/- Rows of structs among the arguments, opened to the lists that the printed functions take. -/
import Derived.Test.YtmbninbecclbiaaPAx0
import Derived.Test.YtmbninbecclbiaaMyOpen
namespace Go.Proofs.Ytmbninbecclbiaa.MyRead
open Go.Joins Go.ChangeShapes Go.WideShapes Go.RowKit Go.Deep Go.Proofs.Ytmbninbecclbiaa.PA Go.Proofs.YtmbninbecclbiaaW.PrintWords Go.Proofs.YtmbninbecclbiaaW.PrintLast
set_option linter.unusedVariables false
set_option maxRecDepth 100000
theorem reads24 {W : World} {A : Option Addr} {zs : List (Int × Int × Int)} (h : ReadsRow (fun x c => c = [.int .i64 x.1, .int .i64 x.2.1, .int .i64 x.2.2]) 3 W A zs.length zs) :
    Kd.C k24 W A (zs.map fun z => (⟨z.1, z.2.1, z.2.2⟩ : S24)).length (zs.map fun z => (⟨z.1, z.2.1, z.2.2⟩ : S24)) := by
  obtain ⟨h1, h2, h3⟩ := h
  refine ⟨rfl, by simpa using h2, fun hn => ?_⟩
  obtain ⟨ad, e, hc⟩ := h3 (by simpa using hn)
  refine ⟨ad, e, fun j p hj => ?_⟩
  rw [List.getElem?_map] at hj
  obtain ⟨z, hz, rfl⟩ := Option.map_eq_some_iff.1 hj
  obtain ⟨c, hl, hR, hcell⟩ := hc j z hz
  subst hR
  exact ⟨_, rfl, k24_mk _ _, hcell⟩
/-- An argument that is a row of structs of type 24. -/
theorem open24 {H : Type} {enc : TypeId × Value → H} {w : World} {base : Nat} {spare : Nat → Bool} {held : Bool} {r : Reach} {b0 : Nat} {t : TypeId} {v : Value} {d : DataW H} {p : List MemPlace} (ht : Try.prog.underlying t = some (.slice 24))
    (hv : Value.okWide Try.prog w r b0 t v) (h : DataW.Trod enc Try.prog w base spare held t v d p) :
    ∃ (A : Option Addr) (cap : Nat) (l : List S24), v = .slice A l.length cap ∧ l.length ≤ cap ∧ cap ≤ maxLen ∧ Kd.C k24 w A l.length l ∧ ∀ x ∈ l, (Lit.int .i64 x.f0).wf = true ∧ (Lit.int .i64 x.f1).wf = true ∧ (Lit.int .i64 x.f2).wf = true := by
  obtain ⟨A, cap, zs, rfl, h1, h2, h3, h4⟩ := MyOpen.open_says ht Try.underlying24 (by kernel_rfl) (by kernel_rfl) Try.underlying3 Try.underlying3 Try.underlying3 hv h
  refine ⟨A, cap, zs.map fun z => ⟨z.1, z.2.1, z.2.2⟩, by rw [List.length_map], by rw [List.length_map]; exact h1, h2, reads24 h3, fun x hx => ?_⟩
  obtain ⟨z, hz, rfl⟩ := List.mem_map.1 hx
  exact h4 z hz
end Go.Proofs.Ytmbninbecclbiaa.MyRead
