/-
  DERIVED. GIVEN WITH THE SEED: THE CARDS: each row of YtccnmhdgghjgoaaGreatDoorRows.lean that lists a variable, with what it lists TIED to the program's text (the seventh form; the later family's looks); each row that meets fmt, with fmt's text TOLD by the authors' own Lean function (tested against real Go, not proved from fmt's source: count such statements apart). THE CARD IS WHAT COUNTS. Prove the row's statement (the work); the ties are given (YtccnmhdgghjgoaaGreatDoorTie.lean); close each card by the builder's one call (the guide's Derived/Test/ToyasCard.lean, 'card_holds'). Laid BY PROGRAM, IN A SANDBOX (cutbox-door.mjs). By AI agents, Wed Nov 11 2026. No macro, syntax, notation, axiom, sorry.
-/
import Derived.Test.YtccnmhdgghjgoaaGreatDoorRows
import GoSem.ClaimSeven
namespace Go.Proofs.YtccnmhdgghjgoaaGreatDoor
namespace Rows

/-- THE TIED CARD OF 'lariatlaw15.RewriteMeans'. -/
def rewriteMeansCard : Claim7 := { stood := { row := rewriteMeansRow, standIns := [], harness := (true, "de175b3018b22398997d14ee8aa9ce43b750c2e92a72d6b356071fb7dea13cec"), looks := false }, kinds := [], alts := [], laidByText := true, laidKinds := [.data, .data, .data], laidTests := true, laidLooks := .later }
def RewriteMeansCardSaid : Prop := Claim7.holds Tryz.pinned (.plain (OpenSpec.ofChange rewriteMeansSpec)) rewriteMeansCard

/-- THE TIED CARD OF 'lariatlaw17.TableauTells'. -/
def tableauTellsCard : Claim7 := { stood := { row := tableauTellsRow, standIns := [], harness := (true, "de175b3018b22398997d14ee8aa9ce43b750c2e92a72d6b356071fb7dea13cec"), looks := false }, kinds := [], alts := [], laidByText := true, laidKinds := [.data, .data, .data], laidTests := true, laidLooks := .later }
def TableauTellsCardSaid : Prop := Claim7.holds Tryz.pinned (.plain (OpenSpec.ofChange tableauTellsSpec)) tableauTellsCard

/-- THE TIED CARD OF 'lariatlaw17.TableauWords'. -/
def tableauWordsCard : Claim7 := { stood := { row := tableauWordsRow, standIns := [], harness := (true, "de175b3018b22398997d14ee8aa9ce43b750c2e92a72d6b356071fb7dea13cec"), looks := false }, kinds := [], alts := [], laidByText := true, laidKinds := [.data, .data, .data], laidTests := true, laidLooks := .later }
def TableauWordsCardSaid : Prop := Claim7.holds Tryz.pinned (.plain (OpenSpec.ofChange tableauWordsSpec)) tableauWordsCard

/-- THE TIED CARD OF 'lariatlaw17.TableauOne'. -/
def tableauOneCard : Claim7 := { stood := { row := tableauOneRow, standIns := [], harness := (true, "de175b3018b22398997d14ee8aa9ce43b750c2e92a72d6b356071fb7dea13cec"), looks := false }, kinds := [], alts := [], laidByText := true, laidKinds := [.data, .data, .data], laidTests := true, laidLooks := .later }
def TableauOneCardSaid : Prop := Claim7.holds Tryz.pinned (.plain (OpenSpec.ofChange tableauOneSpec)) tableauOneCard

/-- THE TIED CARD OF 'lariatlaw16.WordTells'. -/
def wordTellsCard : Claim7 := { stood := { row := wordTellsRow, standIns := [], harness := (true, "de175b3018b22398997d14ee8aa9ce43b750c2e92a72d6b356071fb7dea13cec"), looks := false }, kinds := [], alts := [], laidByText := true, laidKinds := [.data, .data, .data], laidTests := true, laidLooks := .later }
def WordTellsCardSaid : Prop := Claim7.holds Tryz.pinned (.plain (OpenSpec.ofChange wordTellsSpec)) wordTellsCard

/-- THE TIED CARD OF 'lariatlaw16.WordRolls'. -/
def wordRollsCard : Claim7 := { stood := { row := wordRollsRow, standIns := [], harness := (true, "de175b3018b22398997d14ee8aa9ce43b750c2e92a72d6b356071fb7dea13cec"), looks := false }, kinds := [], alts := [], laidByText := true, laidKinds := [.data, .data, .data], laidTests := true, laidLooks := .later }
def WordRollsCardSaid : Prop := Claim7.holds Tryz.pinned (.plain (OpenSpec.ofChange wordRollsSpec)) wordRollsCard

/-- THE TIED CARD OF 'lariatlaw16.WordLaws'. -/
def wordLawsCard : Claim7 := { stood := { row := wordLawsRow, standIns := [], harness := (true, "de175b3018b22398997d14ee8aa9ce43b750c2e92a72d6b356071fb7dea13cec"), looks := false }, kinds := [], alts := [], laidByText := true, laidKinds := [.data, .data, .data], laidTests := true, laidLooks := .later }
def WordLawsCardSaid : Prop := Claim7.holds Tryz.pinned (.plain (OpenSpec.ofChange wordLawsSpec)) wordLawsCard

/-- THE TIED CARD OF 'lariatlaw16.WordPlaces'. -/
def wordPlacesCard : Claim7 := { stood := { row := wordPlacesRow, standIns := [], harness := (true, "de175b3018b22398997d14ee8aa9ce43b750c2e92a72d6b356071fb7dea13cec"), looks := false }, kinds := [], alts := [], laidByText := true, laidKinds := [.data, .data, .data], laidTests := true, laidLooks := .later }
def WordPlacesCardSaid : Prop := Claim7.holds Tryz.pinned (.plain (OpenSpec.ofChange wordPlacesSpec)) wordPlacesCard

/-- THE SECOND FORM's CARD OF 'lariatlaw15.RewriteMeans'. -/
def rewriteMeansUptoCard : Claim7 := { stood := { row := rewriteMeansUptoRow, standIns := [], harness := (true, "de175b3018b22398997d14ee8aa9ce43b750c2e92a72d6b356071fb7dea13cec"), looks := false }, kinds := [], alts := [], laidByText := true, laidKinds := [.data, .data, .data], laidTests := true, laidLooks := .later }
def RewriteMeansUptoCardSaid : Prop := Claim7.holds Tryz.pinned (.plain (OpenSpec.upto rewriteMeansSpec)) rewriteMeansUptoCard

/-- THE SECOND FORM's CARD OF 'lariatlaw17.TableauTells'. -/
def tableauTellsUptoCard : Claim7 := { stood := { row := tableauTellsUptoRow, standIns := [], harness := (true, "de175b3018b22398997d14ee8aa9ce43b750c2e92a72d6b356071fb7dea13cec"), looks := false }, kinds := [], alts := [], laidByText := true, laidKinds := [.data, .data, .data], laidTests := true, laidLooks := .later }
def TableauTellsUptoCardSaid : Prop := Claim7.holds Tryz.pinned (.plain (OpenSpec.upto tableauTellsSpec)) tableauTellsUptoCard

/-- THE SECOND FORM's CARD OF 'lariatlaw17.TableauWords'. -/
def tableauWordsUptoCard : Claim7 := { stood := { row := tableauWordsUptoRow, standIns := [], harness := (true, "de175b3018b22398997d14ee8aa9ce43b750c2e92a72d6b356071fb7dea13cec"), looks := false }, kinds := [], alts := [], laidByText := true, laidKinds := [.data, .data, .data], laidTests := true, laidLooks := .later }
def TableauWordsUptoCardSaid : Prop := Claim7.holds Tryz.pinned (.plain (OpenSpec.upto tableauWordsSpec)) tableauWordsUptoCard

/-- THE SECOND FORM's CARD OF 'lariatlaw17.TableauOne'. -/
def tableauOneUptoCard : Claim7 := { stood := { row := tableauOneUptoRow, standIns := [], harness := (true, "de175b3018b22398997d14ee8aa9ce43b750c2e92a72d6b356071fb7dea13cec"), looks := false }, kinds := [], alts := [], laidByText := true, laidKinds := [.data, .data, .data], laidTests := true, laidLooks := .later }
def TableauOneUptoCardSaid : Prop := Claim7.holds Tryz.pinned (.plain (OpenSpec.upto tableauOneSpec)) tableauOneUptoCard

/-- THE SECOND FORM's CARD OF 'lariatlaw16.WordTells'. -/
def wordTellsUptoCard : Claim7 := { stood := { row := wordTellsUptoRow, standIns := [], harness := (true, "de175b3018b22398997d14ee8aa9ce43b750c2e92a72d6b356071fb7dea13cec"), looks := false }, kinds := [], alts := [], laidByText := true, laidKinds := [.data, .data, .data], laidTests := true, laidLooks := .later }
def WordTellsUptoCardSaid : Prop := Claim7.holds Tryz.pinned (.plain (OpenSpec.upto wordTellsSpec)) wordTellsUptoCard

/-- THE SECOND FORM's CARD OF 'lariatlaw16.WordRolls'. -/
def wordRollsUptoCard : Claim7 := { stood := { row := wordRollsUptoRow, standIns := [], harness := (true, "de175b3018b22398997d14ee8aa9ce43b750c2e92a72d6b356071fb7dea13cec"), looks := false }, kinds := [], alts := [], laidByText := true, laidKinds := [.data, .data, .data], laidTests := true, laidLooks := .later }
def WordRollsUptoCardSaid : Prop := Claim7.holds Tryz.pinned (.plain (OpenSpec.upto wordRollsSpec)) wordRollsUptoCard

/-- THE SECOND FORM's CARD OF 'lariatlaw16.WordLaws'. -/
def wordLawsUptoCard : Claim7 := { stood := { row := wordLawsUptoRow, standIns := [], harness := (true, "de175b3018b22398997d14ee8aa9ce43b750c2e92a72d6b356071fb7dea13cec"), looks := false }, kinds := [], alts := [], laidByText := true, laidKinds := [.data, .data, .data], laidTests := true, laidLooks := .later }
def WordLawsUptoCardSaid : Prop := Claim7.holds Tryz.pinned (.plain (OpenSpec.upto wordLawsSpec)) wordLawsUptoCard

/-- THE SECOND FORM's CARD OF 'lariatlaw16.WordPlaces'. -/
def wordPlacesUptoCard : Claim7 := { stood := { row := wordPlacesUptoRow, standIns := [], harness := (true, "de175b3018b22398997d14ee8aa9ce43b750c2e92a72d6b356071fb7dea13cec"), looks := false }, kinds := [], alts := [], laidByText := true, laidKinds := [.data, .data, .data], laidTests := true, laidLooks := .later }
def WordPlacesUptoCardSaid : Prop := Claim7.holds Tryz.pinned (.plain (OpenSpec.upto wordPlacesSpec)) wordPlacesUptoCard
end Rows
end Go.Proofs.YtccnmhdgghjgoaaGreatDoor
