/-
  NARROWER THAN 'FOR EVERY INPUT', by the rows' own cells (each row's printed sentence says how): RewriteMeans: laid · TableauTells: laid · TableauWords: laid · TableauOne: laid · WordTells: laid · WordRolls: laid · WordLaws: laid · WordPlaces: laid.
  DERIVED. THE GIVEN ROWS OF THIS SEAT. 8 by the template 'for every input the law returns true; each argument reads behind the call as it read before'; 0 by the template 'total and deterministic' (their statements: YtccnmhdgghjgoaaGreatDoorTotals.lean).
  GIVEN WITH THE SEED: the statements are not yours to turn. If you find one false, say at which input.
  Laid BY PROGRAM, IN A SANDBOX (cutbox-rows.mjs): the forced cells as the released guide's own fill.sh prints them over the translation 38f06fc4c70a3bb4… (all of the seat's roots in one cut). By AI agents, Wed Nov 11 2026. No macro, syntax, notation, axiom, sorry.
-/
import Derived.Test.YtccnmhdgghjgoaaGreatDoorChecked
import GoSem.Claim
import GoSem.ClaimJoined
import GoSem.ClaimMapViews
import Derived.JoinedTies
import Derived.KernelRfl
namespace Go.Proofs.YtccnmhdgghjgoaaGreatDoor
/- THE CELL 'sum', in the pinned program and in every row, IS THE sha256 OF THE DUMP (.gsa) THAT YtccnmhdgghjgoaaGreatDoorProg.lean LOADS. Nothing in Lean hashes anything: it is a label: what it is worth is what the hold of that sum in a sandbox is worth. -/
noncomputable def Tryz.pinned : Pinned := { name := "ytccnmhdgghjgoaagreatdoor", sum := "38f06fc4c70a3bb4978daf9e52d5933559f6cb97edeb1a790d09d3693534374f", checked := Tryz.checked }
namespace Rows
def none {H : Type} : Left H := { results := [], args := [] }

/- WHAT THE LISTED PACKAGE-LEVEL VARIABLES READ AS WHEN THE CALL BEGINS. Each datum BY PROGRAM (the guide's laid-datum.mjs) off the statement by which the dump's own 'gosem.cut.vars' lays the variable. In a bare row this is a premise. The card (YtccnmhdgghjgoaaGreatDoorCards.lean) ties it to the program's text. -/
def laid_lariat_lariathand_vars {H : Type} : DataW H := .agg [.lit (.string [120]), .lit (.string [121]), .lit (.string [122])]
def laid_lariat_lariathand_procs {H : Type} : DataW H := .agg [.lit (.string [112]), .lit (.string [113]), .lit (.string [114])]
def laid_lariat_lariathand_locs {H : Type} : DataW H := .agg [.lit (.string [97]), .lit (.string [98]), .lit (.string [99]), .lit (.string [100])]

/-- 'lariatlaw15.RewriteMeans': WHATEVER THE INPUT: true; the input reads as it did. -/
def rewriteMeansSpec : ChangeSpec := { name := "rewriteMeans", fn := fun _ => fun
  | [d1, d2, d3, d4, d5] => { results := [.lit (.bool true)], args := [d1, d2, d3, d4, d5] }
  | _ => none }
def rewriteMeansRow : OpenClaim := { program := "ytccnmhdgghjgoaagreatdoor", sum := "38f06fc4c70a3bb4978daf9e52d5933559f6cb97edeb1a790d09d3693534374f", func := "lariat/lariatlaw15.RewriteMeans", spec := "rewriteMeans", unfollowed := true, recurses := true, named := ["lariat/lariathand.vars", "lariat/lariathand.procs", "lariat/lariathand.locs"], apart := false, laid := [("lariat/lariathand.vars", laid_lariat_lariathand_vars), ("lariat/lariathand.procs", laid_lariat_lariathand_procs), ("lariat/lariathand.locs", laid_lariat_lariathand_locs)] }
def RewriteMeansSaid : Prop := rewriteMeansRow.holds Tryz.pinned (OpenSpec.ofChange rewriteMeansSpec)

/-- ITS FALSE NEIGHBOUR: 'it returns false'. Refute it at one input. -/
def rewriteMeansWrong : ChangeSpec := { name := "rewriteMeans", fn := fun _ => fun
  | [d1, d2, d3, d4, d5] => { results := [.lit (.bool false)], args := [d1, d2, d3, d4, d5] }
  | _ => none }
def RewriteMeansWrongFalsely : Prop := rewriteMeansRow.holds Tryz.pinned (OpenSpec.ofChange rewriteMeansWrong)

/-- 'lariatlaw17.TableauTells': WHATEVER THE INPUT: true; the input reads as it did. -/
def tableauTellsSpec : ChangeSpec := { name := "tableauTells", fn := fun _ => fun
  | [d1, d2, d3, d4, d5, d6, d7] => { results := [.lit (.bool true)], args := [d1, d2, d3, d4, d5, d6, d7] }
  | _ => none }
def tableauTellsRow : OpenClaim := { program := "ytccnmhdgghjgoaagreatdoor", sum := "38f06fc4c70a3bb4978daf9e52d5933559f6cb97edeb1a790d09d3693534374f", func := "lariat/lariatlaw17.TableauTells", spec := "tableauTells", unfollowed := true, recurses := true, named := ["lariat/lariathand.vars", "lariat/lariathand.procs", "lariat/lariathand.locs"], apart := false, laid := [("lariat/lariathand.vars", laid_lariat_lariathand_vars), ("lariat/lariathand.procs", laid_lariat_lariathand_procs), ("lariat/lariathand.locs", laid_lariat_lariathand_locs)] }
def TableauTellsSaid : Prop := tableauTellsRow.holds Tryz.pinned (OpenSpec.ofChange tableauTellsSpec)

/-- ITS FALSE NEIGHBOUR: 'it returns false'. Refute it at one input. -/
def tableauTellsWrong : ChangeSpec := { name := "tableauTells", fn := fun _ => fun
  | [d1, d2, d3, d4, d5, d6, d7] => { results := [.lit (.bool false)], args := [d1, d2, d3, d4, d5, d6, d7] }
  | _ => none }
def TableauTellsWrongFalsely : Prop := tableauTellsRow.holds Tryz.pinned (OpenSpec.ofChange tableauTellsWrong)

/-- 'lariatlaw17.TableauWords': WHATEVER THE INPUT: true; the input reads as it did. -/
def tableauWordsSpec : ChangeSpec := { name := "tableauWords", fn := fun _ => fun
  | [d1, d2, d3, d4, d5] => { results := [.lit (.bool true)], args := [d1, d2, d3, d4, d5] }
  | _ => none }
def tableauWordsRow : OpenClaim := { program := "ytccnmhdgghjgoaagreatdoor", sum := "38f06fc4c70a3bb4978daf9e52d5933559f6cb97edeb1a790d09d3693534374f", func := "lariat/lariatlaw17.TableauWords", spec := "tableauWords", unfollowed := true, recurses := true, named := ["lariat/lariathand.vars", "lariat/lariathand.procs", "lariat/lariathand.locs"], apart := false, laid := [("lariat/lariathand.vars", laid_lariat_lariathand_vars), ("lariat/lariathand.procs", laid_lariat_lariathand_procs), ("lariat/lariathand.locs", laid_lariat_lariathand_locs)] }
def TableauWordsSaid : Prop := tableauWordsRow.holds Tryz.pinned (OpenSpec.ofChange tableauWordsSpec)

/-- ITS FALSE NEIGHBOUR: 'it returns false'. Refute it at one input. -/
def tableauWordsWrong : ChangeSpec := { name := "tableauWords", fn := fun _ => fun
  | [d1, d2, d3, d4, d5] => { results := [.lit (.bool false)], args := [d1, d2, d3, d4, d5] }
  | _ => none }
def TableauWordsWrongFalsely : Prop := tableauWordsRow.holds Tryz.pinned (OpenSpec.ofChange tableauWordsWrong)

/-- 'lariatlaw17.TableauOne': WHATEVER THE INPUT: true; the input reads as it did. -/
def tableauOneSpec : ChangeSpec := { name := "tableauOne", fn := fun _ => fun
  | [d1, d2, d3, d4, d5] => { results := [.lit (.bool true)], args := [d1, d2, d3, d4, d5] }
  | _ => none }
def tableauOneRow : OpenClaim := { program := "ytccnmhdgghjgoaagreatdoor", sum := "38f06fc4c70a3bb4978daf9e52d5933559f6cb97edeb1a790d09d3693534374f", func := "lariat/lariatlaw17.TableauOne", spec := "tableauOne", unfollowed := true, recurses := true, named := ["lariat/lariathand.vars", "lariat/lariathand.procs", "lariat/lariathand.locs"], apart := false, laid := [("lariat/lariathand.vars", laid_lariat_lariathand_vars), ("lariat/lariathand.procs", laid_lariat_lariathand_procs), ("lariat/lariathand.locs", laid_lariat_lariathand_locs)] }
def TableauOneSaid : Prop := tableauOneRow.holds Tryz.pinned (OpenSpec.ofChange tableauOneSpec)

/-- ITS FALSE NEIGHBOUR: 'it returns false'. Refute it at one input. -/
def tableauOneWrong : ChangeSpec := { name := "tableauOne", fn := fun _ => fun
  | [d1, d2, d3, d4, d5] => { results := [.lit (.bool false)], args := [d1, d2, d3, d4, d5] }
  | _ => none }
def TableauOneWrongFalsely : Prop := tableauOneRow.holds Tryz.pinned (OpenSpec.ofChange tableauOneWrong)

/-- 'lariatlaw16.WordTells': WHATEVER THE INPUT: true; the input reads as it did. -/
def wordTellsSpec : ChangeSpec := { name := "wordTells", fn := fun _ => fun
  | [d1, d2, d3, d4, d5] => { results := [.lit (.bool true)], args := [d1, d2, d3, d4, d5] }
  | _ => none }
def wordTellsRow : OpenClaim := { program := "ytccnmhdgghjgoaagreatdoor", sum := "38f06fc4c70a3bb4978daf9e52d5933559f6cb97edeb1a790d09d3693534374f", func := "lariat/lariatlaw16.WordTells", spec := "wordTells", unfollowed := true, recurses := true, named := ["lariat/lariathand.vars", "lariat/lariathand.procs", "lariat/lariathand.locs"], apart := false, laid := [("lariat/lariathand.vars", laid_lariat_lariathand_vars), ("lariat/lariathand.procs", laid_lariat_lariathand_procs), ("lariat/lariathand.locs", laid_lariat_lariathand_locs)] }
def WordTellsSaid : Prop := wordTellsRow.holds Tryz.pinned (OpenSpec.ofChange wordTellsSpec)

/-- ITS FALSE NEIGHBOUR: 'it returns false'. Refute it at one input. -/
def wordTellsWrong : ChangeSpec := { name := "wordTells", fn := fun _ => fun
  | [d1, d2, d3, d4, d5] => { results := [.lit (.bool false)], args := [d1, d2, d3, d4, d5] }
  | _ => none }
def WordTellsWrongFalsely : Prop := wordTellsRow.holds Tryz.pinned (OpenSpec.ofChange wordTellsWrong)

/-- 'lariatlaw16.WordRolls': WHATEVER THE INPUT: true; the input reads as it did. -/
def wordRollsSpec : ChangeSpec := { name := "wordRolls", fn := fun _ => fun
  | [d1, d2, d3, d4] => { results := [.lit (.bool true)], args := [d1, d2, d3, d4] }
  | _ => none }
def wordRollsRow : OpenClaim := { program := "ytccnmhdgghjgoaagreatdoor", sum := "38f06fc4c70a3bb4978daf9e52d5933559f6cb97edeb1a790d09d3693534374f", func := "lariat/lariatlaw16.WordRolls", spec := "wordRolls", unfollowed := true, recurses := true, named := ["lariat/lariathand.vars", "lariat/lariathand.procs", "lariat/lariathand.locs"], apart := false, laid := [("lariat/lariathand.vars", laid_lariat_lariathand_vars), ("lariat/lariathand.procs", laid_lariat_lariathand_procs), ("lariat/lariathand.locs", laid_lariat_lariathand_locs)] }
def WordRollsSaid : Prop := wordRollsRow.holds Tryz.pinned (OpenSpec.ofChange wordRollsSpec)

/-- ITS FALSE NEIGHBOUR: 'it returns false'. Refute it at one input. -/
def wordRollsWrong : ChangeSpec := { name := "wordRolls", fn := fun _ => fun
  | [d1, d2, d3, d4] => { results := [.lit (.bool false)], args := [d1, d2, d3, d4] }
  | _ => none }
def WordRollsWrongFalsely : Prop := wordRollsRow.holds Tryz.pinned (OpenSpec.ofChange wordRollsWrong)

/-- 'lariatlaw16.WordLaws': WHATEVER THE INPUT: true; the input reads as it did. -/
def wordLawsSpec : ChangeSpec := { name := "wordLaws", fn := fun _ => fun
  | [d1, d2, d3, d4, d5] => { results := [.lit (.bool true)], args := [d1, d2, d3, d4, d5] }
  | _ => none }
def wordLawsRow : OpenClaim := { program := "ytccnmhdgghjgoaagreatdoor", sum := "38f06fc4c70a3bb4978daf9e52d5933559f6cb97edeb1a790d09d3693534374f", func := "lariat/lariatlaw16.WordLaws", spec := "wordLaws", unfollowed := true, recurses := true, named := ["lariat/lariathand.vars", "lariat/lariathand.procs", "lariat/lariathand.locs"], apart := false, laid := [("lariat/lariathand.vars", laid_lariat_lariathand_vars), ("lariat/lariathand.procs", laid_lariat_lariathand_procs), ("lariat/lariathand.locs", laid_lariat_lariathand_locs)] }
def WordLawsSaid : Prop := wordLawsRow.holds Tryz.pinned (OpenSpec.ofChange wordLawsSpec)

/-- ITS FALSE NEIGHBOUR: 'it returns false'. Refute it at one input. -/
def wordLawsWrong : ChangeSpec := { name := "wordLaws", fn := fun _ => fun
  | [d1, d2, d3, d4, d5] => { results := [.lit (.bool false)], args := [d1, d2, d3, d4, d5] }
  | _ => none }
def WordLawsWrongFalsely : Prop := wordLawsRow.holds Tryz.pinned (OpenSpec.ofChange wordLawsWrong)

/-- 'lariatlaw16.WordPlaces': WHATEVER THE INPUT: true; the input reads as it did. -/
def wordPlacesSpec : ChangeSpec := { name := "wordPlaces", fn := fun _ => fun
  | [d1, d2, d3, d4] => { results := [.lit (.bool true)], args := [d1, d2, d3, d4] }
  | _ => none }
def wordPlacesRow : OpenClaim := { program := "ytccnmhdgghjgoaagreatdoor", sum := "38f06fc4c70a3bb4978daf9e52d5933559f6cb97edeb1a790d09d3693534374f", func := "lariat/lariatlaw16.WordPlaces", spec := "wordPlaces", unfollowed := true, recurses := true, named := ["lariat/lariathand.vars", "lariat/lariathand.procs", "lariat/lariathand.locs"], apart := false, laid := [("lariat/lariathand.vars", laid_lariat_lariathand_vars), ("lariat/lariathand.procs", laid_lariat_lariathand_procs), ("lariat/lariathand.locs", laid_lariat_lariathand_locs)] }
def WordPlacesSaid : Prop := wordPlacesRow.holds Tryz.pinned (OpenSpec.ofChange wordPlacesSpec)

/-- ITS FALSE NEIGHBOUR: 'it returns false'. Refute it at one input. -/
def wordPlacesWrong : ChangeSpec := { name := "wordPlaces", fn := fun _ => fun
  | [d1, d2, d3, d4] => { results := [.lit (.bool false)], args := [d1, d2, d3, d4] }
  | _ => none }
def WordPlacesWrongFalsely : Prop := wordPlacesRow.holds Tryz.pinned (OpenSpec.ofChange wordPlacesWrong)

/- THE SECOND FORM. 'bulk': how many values and letters a reading holds, each counted each time it is reached (what is shared counts as often as it is met; a slice's spare places count too). A statement '..UptoSaid' is the law's where the arguments, and the package variables that the reading takes, are together of bulk at most 1048576: NARROWER than '..Said'. Prove '..Said' where nothing that the law and all that it calls make is longer than what came in: it says more and counts as full. Else prove '..UptoSaid'. A law counts once. -/
mutual
def uptoBulk {H : Type} : DataW H → Nat
  | .lit (.string bytes) => bytes.length + 1
  | .lit _ => 1
  | .nil => 1
  | .ptr d => uptoBulk d + 1
  | .slice elems spare => uptoBulkAll elems + uptoBulkAll spare + 1
  | .agg parts => uptoBulkAll parts + 1
  | .iface _ d => uptoBulk d + 1
  | .map entries => uptoBulkEntries entries + 1
  | .held _ => 1
def uptoBulkAll {H : Type} : List (DataW H) → Nat
  | [] => 0
  | d :: r => uptoBulk d + uptoBulkAll r
def uptoBulkEntries {H : Type} : List (Lit × DataW H) → Nat
  | [] => 0
  | x :: r => uptoBulkEntry x + uptoBulkEntries r
def uptoBulkEntry {H : Type} : Lit × DataW H → Nat
  | (.string bytes, d) => bytes.length + uptoBulk d + 1
  | (_, d) => uptoBulk d + 1
 end
def uptoSmall : (H : Type) → List (DataW H) → Bool := fun _ ds => decide (uptoBulkAll ds ≤ 1048576)
def OpenSpec.upto (s : _root_.Go.ChangeSpec) : _root_.Go.OpenSpec := { _root_.Go.OpenSpec.ofChange s with cond := some uptoSmall }

/-- 'lariatlaw15.RewriteMeans', WHERE WHAT IT READS IS OF BULK AT MOST 1048576: true; the input reads as it did. -/
def rewriteMeansUptoRow : OpenClaim := { program := "ytccnmhdgghjgoaagreatdoor", sum := "38f06fc4c70a3bb4978daf9e52d5933559f6cb97edeb1a790d09d3693534374f", func := "lariat/lariatlaw15.RewriteMeans", spec := "rewriteMeans", unfollowed := true, recurses := true, named := ["lariat/lariathand.vars", "lariat/lariathand.procs", "lariat/lariathand.locs"], apart := false, laid := [("lariat/lariathand.vars", laid_lariat_lariathand_vars), ("lariat/lariathand.procs", laid_lariat_lariathand_procs), ("lariat/lariathand.locs", laid_lariat_lariathand_locs)], narrowed := true }
def RewriteMeansUptoSaid : Prop := rewriteMeansUptoRow.holds Tryz.pinned (OpenSpec.upto rewriteMeansSpec)

/-- 'lariatlaw17.TableauTells', WHERE WHAT IT READS IS OF BULK AT MOST 1048576: true; the input reads as it did. -/
def tableauTellsUptoRow : OpenClaim := { program := "ytccnmhdgghjgoaagreatdoor", sum := "38f06fc4c70a3bb4978daf9e52d5933559f6cb97edeb1a790d09d3693534374f", func := "lariat/lariatlaw17.TableauTells", spec := "tableauTells", unfollowed := true, recurses := true, named := ["lariat/lariathand.vars", "lariat/lariathand.procs", "lariat/lariathand.locs"], apart := false, laid := [("lariat/lariathand.vars", laid_lariat_lariathand_vars), ("lariat/lariathand.procs", laid_lariat_lariathand_procs), ("lariat/lariathand.locs", laid_lariat_lariathand_locs)], narrowed := true }
def TableauTellsUptoSaid : Prop := tableauTellsUptoRow.holds Tryz.pinned (OpenSpec.upto tableauTellsSpec)

/-- 'lariatlaw17.TableauWords', WHERE WHAT IT READS IS OF BULK AT MOST 1048576: true; the input reads as it did. -/
def tableauWordsUptoRow : OpenClaim := { program := "ytccnmhdgghjgoaagreatdoor", sum := "38f06fc4c70a3bb4978daf9e52d5933559f6cb97edeb1a790d09d3693534374f", func := "lariat/lariatlaw17.TableauWords", spec := "tableauWords", unfollowed := true, recurses := true, named := ["lariat/lariathand.vars", "lariat/lariathand.procs", "lariat/lariathand.locs"], apart := false, laid := [("lariat/lariathand.vars", laid_lariat_lariathand_vars), ("lariat/lariathand.procs", laid_lariat_lariathand_procs), ("lariat/lariathand.locs", laid_lariat_lariathand_locs)], narrowed := true }
def TableauWordsUptoSaid : Prop := tableauWordsUptoRow.holds Tryz.pinned (OpenSpec.upto tableauWordsSpec)

/-- 'lariatlaw17.TableauOne', WHERE WHAT IT READS IS OF BULK AT MOST 1048576: true; the input reads as it did. -/
def tableauOneUptoRow : OpenClaim := { program := "ytccnmhdgghjgoaagreatdoor", sum := "38f06fc4c70a3bb4978daf9e52d5933559f6cb97edeb1a790d09d3693534374f", func := "lariat/lariatlaw17.TableauOne", spec := "tableauOne", unfollowed := true, recurses := true, named := ["lariat/lariathand.vars", "lariat/lariathand.procs", "lariat/lariathand.locs"], apart := false, laid := [("lariat/lariathand.vars", laid_lariat_lariathand_vars), ("lariat/lariathand.procs", laid_lariat_lariathand_procs), ("lariat/lariathand.locs", laid_lariat_lariathand_locs)], narrowed := true }
def TableauOneUptoSaid : Prop := tableauOneUptoRow.holds Tryz.pinned (OpenSpec.upto tableauOneSpec)

/-- 'lariatlaw16.WordTells', WHERE WHAT IT READS IS OF BULK AT MOST 1048576: true; the input reads as it did. -/
def wordTellsUptoRow : OpenClaim := { program := "ytccnmhdgghjgoaagreatdoor", sum := "38f06fc4c70a3bb4978daf9e52d5933559f6cb97edeb1a790d09d3693534374f", func := "lariat/lariatlaw16.WordTells", spec := "wordTells", unfollowed := true, recurses := true, named := ["lariat/lariathand.vars", "lariat/lariathand.procs", "lariat/lariathand.locs"], apart := false, laid := [("lariat/lariathand.vars", laid_lariat_lariathand_vars), ("lariat/lariathand.procs", laid_lariat_lariathand_procs), ("lariat/lariathand.locs", laid_lariat_lariathand_locs)], narrowed := true }
def WordTellsUptoSaid : Prop := wordTellsUptoRow.holds Tryz.pinned (OpenSpec.upto wordTellsSpec)

/-- 'lariatlaw16.WordRolls', WHERE WHAT IT READS IS OF BULK AT MOST 1048576: true; the input reads as it did. -/
def wordRollsUptoRow : OpenClaim := { program := "ytccnmhdgghjgoaagreatdoor", sum := "38f06fc4c70a3bb4978daf9e52d5933559f6cb97edeb1a790d09d3693534374f", func := "lariat/lariatlaw16.WordRolls", spec := "wordRolls", unfollowed := true, recurses := true, named := ["lariat/lariathand.vars", "lariat/lariathand.procs", "lariat/lariathand.locs"], apart := false, laid := [("lariat/lariathand.vars", laid_lariat_lariathand_vars), ("lariat/lariathand.procs", laid_lariat_lariathand_procs), ("lariat/lariathand.locs", laid_lariat_lariathand_locs)], narrowed := true }
def WordRollsUptoSaid : Prop := wordRollsUptoRow.holds Tryz.pinned (OpenSpec.upto wordRollsSpec)

/-- 'lariatlaw16.WordLaws', WHERE WHAT IT READS IS OF BULK AT MOST 1048576: true; the input reads as it did. -/
def wordLawsUptoRow : OpenClaim := { program := "ytccnmhdgghjgoaagreatdoor", sum := "38f06fc4c70a3bb4978daf9e52d5933559f6cb97edeb1a790d09d3693534374f", func := "lariat/lariatlaw16.WordLaws", spec := "wordLaws", unfollowed := true, recurses := true, named := ["lariat/lariathand.vars", "lariat/lariathand.procs", "lariat/lariathand.locs"], apart := false, laid := [("lariat/lariathand.vars", laid_lariat_lariathand_vars), ("lariat/lariathand.procs", laid_lariat_lariathand_procs), ("lariat/lariathand.locs", laid_lariat_lariathand_locs)], narrowed := true }
def WordLawsUptoSaid : Prop := wordLawsUptoRow.holds Tryz.pinned (OpenSpec.upto wordLawsSpec)

/-- 'lariatlaw16.WordPlaces', WHERE WHAT IT READS IS OF BULK AT MOST 1048576: true; the input reads as it did. -/
def wordPlacesUptoRow : OpenClaim := { program := "ytccnmhdgghjgoaagreatdoor", sum := "38f06fc4c70a3bb4978daf9e52d5933559f6cb97edeb1a790d09d3693534374f", func := "lariat/lariatlaw16.WordPlaces", spec := "wordPlaces", unfollowed := true, recurses := true, named := ["lariat/lariathand.vars", "lariat/lariathand.procs", "lariat/lariathand.locs"], apart := false, laid := [("lariat/lariathand.vars", laid_lariat_lariathand_vars), ("lariat/lariathand.procs", laid_lariat_lariathand_procs), ("lariat/lariathand.locs", laid_lariat_lariathand_locs)], narrowed := true }
def WordPlacesUptoSaid : Prop := wordPlacesUptoRow.holds Tryz.pinned (OpenSpec.upto wordPlacesSpec)

end Rows
end Go.Proofs.YtccnmhdgghjgoaaGreatDoor
