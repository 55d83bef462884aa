/-
  DERIVED. GIVEN WITH THE SEED: THE CARDS: each row of YtjfgbpmkboncnaaDoorRows.lean that lists a variable, with what it lists TIED to the program's text (the seventh form; the later family's looks); each row that meets fmt, with fmt's text TOLD by the authors' own Lean function (tested against real Go, not proved from fmt's source: count such statements apart). THE CARD IS WHAT COUNTS. Prove the row's statement (the work); the ties are given (YtjfgbpmkboncnaaDoorTie.lean); close each card by the builder's one call (the guide's Derived/Test/ToyasCard.lean, 'card_holds'). Laid BY PROGRAM, IN A SANDBOX (cutbox-door.mjs). By AI agents, Wed Nov 11 2026. No macro, syntax, notation, axiom, sorry.
-/
import Derived.Test.YtjfgbpmkboncnaaDoorRows
import GoSem.ClaimSeven
namespace Go.Proofs.YtjfgbpmkboncnaaDoor
namespace Rows

/-- THE TIED CARD OF 'laws.FnExactSaysYes'. -/
def fnExactSaysYesCard : Claim7 := { stood := { row := fnExactSaysYesRow, standIns := [], harness := (true, "1cdf0f55b8f95a4fa4631990367f24267412ae60faed383f17f0299b5fb76ae3"), looks := false }, kinds := [], alts := [], laidByText := true, laidKinds := [.data, .pinned], laidTests := true, laidLooks := .later }
def FnExactSaysYesCardSaid : Prop := Claim7.holds Tryd.pinned (.plain (OpenSpec.ofChange fnExactSaysYesSpec)) fnExactSaysYesCard

/-- THE TIED CARD OF 'laws.FnNoCircle'. -/
def fnNoCircleCard : Claim7 := { stood := { row := fnNoCircleRow, standIns := [], harness := (true, "1cdf0f55b8f95a4fa4631990367f24267412ae60faed383f17f0299b5fb76ae3"), looks := false }, kinds := [], alts := [], laidByText := true, laidKinds := [.data, .pinned], laidTests := true, laidLooks := .later }
def FnNoCircleCardSaid : Prop := Claim7.holds Tryd.pinned (.plain (OpenSpec.ofChange fnNoCircleSpec)) fnNoCircleCard

/-- THE SECOND FORM's CARD OF 'laws.FnExactSaysYes'. -/
def fnExactSaysYesUptoCard : Claim7 := { stood := { row := fnExactSaysYesUptoRow, standIns := [], harness := (true, "1cdf0f55b8f95a4fa4631990367f24267412ae60faed383f17f0299b5fb76ae3"), looks := false }, kinds := [], alts := [], laidByText := true, laidKinds := [.data, .pinned], laidTests := true, laidLooks := .later }
def FnExactSaysYesUptoCardSaid : Prop := Claim7.holds Tryd.pinned (.plain (OpenSpec.upto fnExactSaysYesSpec)) fnExactSaysYesUptoCard

/-- THE SECOND FORM's CARD OF 'laws.FnNoCircle'. -/
def fnNoCircleUptoCard : Claim7 := { stood := { row := fnNoCircleUptoRow, standIns := [], harness := (true, "1cdf0f55b8f95a4fa4631990367f24267412ae60faed383f17f0299b5fb76ae3"), looks := false }, kinds := [], alts := [], laidByText := true, laidKinds := [.data, .pinned], laidTests := true, laidLooks := .later }
def FnNoCircleUptoCardSaid : Prop := Claim7.holds Tryd.pinned (.plain (OpenSpec.upto fnNoCircleSpec)) fnNoCircleUptoCard
end Rows
end Go.Proofs.YtjfgbpmkboncnaaDoor
