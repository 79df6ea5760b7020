/-
  DERIVED. GIVEN WITH THE SEED: THE CARDS: each row of YtkmpkebaloejhaaGreatDoorRows.lean that lists a variable, with what it lists TIED to the program's text (the seventh form; the later family's looks); each row that meets fmt, with fmt's text TOLD by the authors' own Lean function (tested against real Go, not proved from fmt's source: count such statements apart). THE CARD IS WHAT COUNTS. Prove the row's statement (the work); the ties are given (YtkmpkebaloejhaaGreatDoorTie.lean); close each card by the builder's one call (the guide's Derived/Test/ToyasCard.lean, 'card_holds'). Laid BY PROGRAM, IN A SANDBOX (cutbox-door.mjs). By AI agents, Wed Nov 11 2026. No macro, syntax, notation, axiom, sorry.
-/
import Derived.Test.YtkmpkebaloejhaaGreatDoorRows
import GoSem.ClaimSeven
namespace Go.Proofs.YtkmpkebaloejhaaGreatDoor
namespace Rows

/-- THE TIED CARD OF 'lariatlaw13.FormulaRight'. -/
def formulaRightCard : Claim7 := { stood := { row := formulaRightRow, standIns := [], harness := (true, "26f81709495dce524e1aadcd7276c9e4c9ebbdb9554dca093a87e1799f16106f"), looks := false }, kinds := [], alts := [], laidByText := true, laidKinds := [.data, .data, .data, .data, .data, .data], laidTests := true, laidLooks := .later }
def FormulaRightCardSaid : Prop := Claim7.holds Tryz.pinned (.plain (OpenSpec.ofChange formulaRightSpec)) formulaRightCard

/-- THE SECOND FORM's CARD OF 'lariatlaw13.FormulaRight'. -/
def formulaRightUptoCard : Claim7 := { stood := { row := formulaRightUptoRow, standIns := [], harness := (true, "26f81709495dce524e1aadcd7276c9e4c9ebbdb9554dca093a87e1799f16106f"), looks := false }, kinds := [], alts := [], laidByText := true, laidKinds := [.data, .data, .data, .data, .data, .data], laidTests := true, laidLooks := .later }
def FormulaRightUptoCardSaid : Prop := Claim7.holds Tryz.pinned (.plain (OpenSpec.upto formulaRightSpec)) formulaRightUptoCard
end Rows
end Go.Proofs.YtkmpkebaloejhaaGreatDoor
