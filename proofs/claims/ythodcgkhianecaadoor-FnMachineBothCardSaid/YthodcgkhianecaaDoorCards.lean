/-
  DERIVED. GIVEN WITH THE SEED: THE CARDS: each row of YthodcgkhianecaaDoorRows.lean that lists a variable, with what it lists TIED to the program's text (the seventh form; the later family's looks); each row that meets fmt, with fmt's text TOLD by the authors' own Lean function (tested against real Go, not proved from fmt's source: count such statements apart). THE CARD IS WHAT COUNTS. Prove the row's statement (the work); the ties are given (YthodcgkhianecaaDoorTie.lean); close each card by the builder's one call (the guide's Derived/Test/ToyasCard.lean, 'card_holds'). Laid BY PROGRAM, IN A SANDBOX (cutbox-door.mjs). By AI agents, Wed Nov 11 2026. No macro, syntax, notation, axiom, sorry.
-/
import Derived.Test.YthodcgkhianecaaDoorRows
import GoSem.ClaimSeven
namespace Go.Proofs.YthodcgkhianecaaDoor
namespace Rows

/-- THE TIED CARD OF 'laws.FnSaysYes'. -/
def fnSaysYesCard : Claim7 := { stood := { row := fnSaysYesRow, standIns := [], harness := (true, "a11859581a53173f9a0228a9c728f4551bff2b5f6b0d538346ff216d828db58e"), looks := false }, kinds := [], alts := [], laidByText := true, laidKinds := [.data, .pinned], laidTests := true, laidLooks := .later }
def FnSaysYesCardSaid : Prop := Claim7.holds Tryd.pinned (.plain (OpenSpec.ofChange fnSaysYesSpec)) fnSaysYesCard

/-- THE TIED CARD OF 'laws.FnMachineBoth'. -/
def fnMachineBothCard : Claim7 := { stood := { row := fnMachineBothRow, standIns := [], harness := (true, "a11859581a53173f9a0228a9c728f4551bff2b5f6b0d538346ff216d828db58e"), looks := false }, kinds := [], alts := [], laidByText := true, laidKinds := [.data, .pinned], laidTests := true, laidLooks := .later }
def FnMachineBothCardSaid : Prop := Claim7.holds Tryd.pinned (.plain (OpenSpec.ofChange fnMachineBothSpec)) fnMachineBothCard

/-- THE SECOND FORM's CARD OF 'laws.FnSaysYes'. -/
def fnSaysYesUptoCard : Claim7 := { stood := { row := fnSaysYesUptoRow, standIns := [], harness := (true, "a11859581a53173f9a0228a9c728f4551bff2b5f6b0d538346ff216d828db58e"), looks := false }, kinds := [], alts := [], laidByText := true, laidKinds := [.data, .pinned], laidTests := true, laidLooks := .later }
def FnSaysYesUptoCardSaid : Prop := Claim7.holds Tryd.pinned (.plain (OpenSpec.upto fnSaysYesSpec)) fnSaysYesUptoCard

/-- THE SECOND FORM's CARD OF 'laws.FnMachineBoth'. -/
def fnMachineBothUptoCard : Claim7 := { stood := { row := fnMachineBothUptoRow, standIns := [], harness := (true, "a11859581a53173f9a0228a9c728f4551bff2b5f6b0d538346ff216d828db58e"), looks := false }, kinds := [], alts := [], laidByText := true, laidKinds := [.data, .pinned], laidTests := true, laidLooks := .later }
def FnMachineBothUptoCardSaid : Prop := Claim7.holds Tryd.pinned (.plain (OpenSpec.upto fnMachineBothSpec)) fnMachineBothUptoCard
end Rows
end Go.Proofs.YthodcgkhianecaaDoor
