/-
  DERIVED. GIVEN WITH THE SEED: THE CARDS: each row of YtfdlgmbbflmbgaaGreatDoorRows.lean that lists a variable, with what it lists TIED to the program's text (the seventh form; the later family's looks); each row that meets fmt, with fmt's text TOLD by the authors' own Lean function (tested against real Go, not proved from fmt's source: count such statements apart). THE CARD IS WHAT COUNTS. Prove the row's statement (the work); the ties are given (YtfdlgmbbflmbgaaGreatDoorTie.lean); close each card by the builder's one call (the guide's Derived/Test/ToyasCard.lean, 'card_holds'). Laid BY PROGRAM, IN A SANDBOX (cutbox-door.mjs). By AI agents, Wed Nov 11 2026. No macro, syntax, notation, axiom, sorry.
-/
import Derived.Test.YtfdlgmbbflmbgaaGreatDoorRows
import GoSem.ClaimSeven
namespace Go.Proofs.YtfdlgmbbflmbgaaGreatDoor
namespace Rows

/-- THE TIED CARD OF 'lariatlaw14.NnfMeans'. -/
def nnfMeansCard : Claim7 := { stood := { row := nnfMeansRow, standIns := [], harness := (true, "b87e967338f689b887fbf7d7dea4e4d8cdb39c91673328de885d251e7c2ef982"), looks := false }, kinds := [], alts := [], laidByText := true, laidKinds := [.data, .data, .data], laidTests := true, laidLooks := .later }
def NnfMeansCardSaid : Prop := Claim7.holds Tryz.pinned (.plain (OpenSpec.ofChange nnfMeansSpec)) nnfMeansCard

/-- THE SECOND FORM's CARD OF 'lariatlaw14.NnfMeans'. -/
def nnfMeansUptoCard : Claim7 := { stood := { row := nnfMeansUptoRow, standIns := [], harness := (true, "b87e967338f689b887fbf7d7dea4e4d8cdb39c91673328de885d251e7c2ef982"), looks := false }, kinds := [], alts := [], laidByText := true, laidKinds := [.data, .data, .data], laidTests := true, laidLooks := .later }
def NnfMeansUptoCardSaid : Prop := Claim7.holds Tryz.pinned (.plain (OpenSpec.upto nnfMeansSpec)) nnfMeansUptoCard
end Rows
end Go.Proofs.YtfdlgmbbflmbgaaGreatDoor
