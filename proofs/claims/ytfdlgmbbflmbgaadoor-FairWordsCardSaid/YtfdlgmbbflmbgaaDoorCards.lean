/-
  DERIVED. GIVEN WITH THE SEED: THE CARDS: each row of YtfdlgmbbflmbgaaDoorRows.lean that lists a variable, with what it lists TIED to the program's text (the seventh form; the later family's looks); each row that meets fmt, with fmt's text TOLD by the authors' own Lean function (tested against real Go, not proved from fmt's source: count such statements apart). THE CARD IS WHAT COUNTS. Prove the row's statement (the work); the ties are given (YtfdlgmbbflmbgaaDoorTie.lean); close each card by the builder's one call (the guide's Derived/Test/ToyasCard.lean, 'card_holds'). Laid BY PROGRAM, IN A SANDBOX (cutbox-door.mjs). By AI agents, Wed Nov 11 2026. No macro, syntax, notation, axiom, sorry.
-/
import Derived.Test.YtfdlgmbbflmbgaaDoorRows
import GoSem.ClaimSeven
namespace Go.Proofs.YtfdlgmbbflmbgaaDoor
namespace Rows

/-- THE TIED CARD OF 'lariatlaw7.LexStands'. -/
def lexStandsCard : Claim7 := { stood := { row := lexStandsRow, standIns := [], harness := (true, "f8f3216ba8e3cbe335a6fd5c86e1de02b3e3aa746ebfed47fd2c85554424024a"), looks := false }, kinds := [], alts := [], laidByText := true, laidKinds := [.data, .data, .data], laidTests := true, laidLooks := .later }
def LexStandsCardSaid : Prop := Claim7.holds Tryd.pinned (.plain (OpenSpec.ofChange lexStandsSpec)) lexStandsCard

/-- THE TIED CARD OF 'lariatlaw7.LexTells'. -/
def lexTellsCard : Claim7 := { stood := { row := lexTellsRow, standIns := [], harness := (true, "f8f3216ba8e3cbe335a6fd5c86e1de02b3e3aa746ebfed47fd2c85554424024a"), looks := false }, kinds := [], alts := [], laidByText := true, laidKinds := [.data, .data, .data], laidTests := true, laidLooks := .later }
def LexTellsCardSaid : Prop := Claim7.holds Tryd.pinned (.plain (OpenSpec.ofChange lexTellsSpec)) lexTellsCard

/-- THE TIED CARD OF 'lariatlaw18.FairWords'. -/
def fairWordsCard : Claim7 := { stood := { row := fairWordsRow, standIns := [], harness := (true, "f8f3216ba8e3cbe335a6fd5c86e1de02b3e3aa746ebfed47fd2c85554424024a"), looks := false }, kinds := [], alts := [], laidByText := true, laidKinds := [.data, .data, .data], laidTests := true, laidLooks := .later }
def FairWordsCardSaid : Prop := Claim7.holds Tryd.pinned (.plain (OpenSpec.ofChange fairWordsSpec)) fairWordsCard

/-- THE SECOND FORM's CARD OF 'lariatlaw7.LexStands'. -/
def lexStandsUptoCard : Claim7 := { stood := { row := lexStandsUptoRow, standIns := [], harness := (true, "f8f3216ba8e3cbe335a6fd5c86e1de02b3e3aa746ebfed47fd2c85554424024a"), looks := false }, kinds := [], alts := [], laidByText := true, laidKinds := [.data, .data, .data], laidTests := true, laidLooks := .later }
def LexStandsUptoCardSaid : Prop := Claim7.holds Tryd.pinned (.plain (OpenSpec.upto lexStandsSpec)) lexStandsUptoCard

/-- THE SECOND FORM's CARD OF 'lariatlaw7.LexTells'. -/
def lexTellsUptoCard : Claim7 := { stood := { row := lexTellsUptoRow, standIns := [], harness := (true, "f8f3216ba8e3cbe335a6fd5c86e1de02b3e3aa746ebfed47fd2c85554424024a"), looks := false }, kinds := [], alts := [], laidByText := true, laidKinds := [.data, .data, .data], laidTests := true, laidLooks := .later }
def LexTellsUptoCardSaid : Prop := Claim7.holds Tryd.pinned (.plain (OpenSpec.upto lexTellsSpec)) lexTellsUptoCard

/-- THE SECOND FORM's CARD OF 'lariatlaw18.FairWords'. -/
def fairWordsUptoCard : Claim7 := { stood := { row := fairWordsUptoRow, standIns := [], harness := (true, "f8f3216ba8e3cbe335a6fd5c86e1de02b3e3aa746ebfed47fd2c85554424024a"), looks := false }, kinds := [], alts := [], laidByText := true, laidKinds := [.data, .data, .data], laidTests := true, laidLooks := .later }
def FairWordsUptoCardSaid : Prop := Claim7.holds Tryd.pinned (.plain (OpenSpec.upto fairWordsSpec)) fairWordsUptoCard
end Rows
end Go.Proofs.YtfdlgmbbflmbgaaDoor
