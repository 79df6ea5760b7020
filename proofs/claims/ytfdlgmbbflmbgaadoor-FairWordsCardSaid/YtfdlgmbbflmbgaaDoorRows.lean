/-
  NARROWER THAN 'FOR EVERY INPUT', by the rows' own cells (each row's printed sentence says how): LexStands: laid · LexTells: laid · FairWords: laid.
  DERIVED. THE GIVEN ROWS OF THIS SEAT. 3 by the template 'for every input the law returns true; each argument reads behind the call as it read before'; 0 by the template 'total and deterministic' (their statements: YtfdlgmbbflmbgaaDoorTotals.lean).
  GIVEN WITH THE SEED: the statements are not yours to turn. If you find one false, say at which input.
  Laid BY PROGRAM, IN A SANDBOX (cutbox-rows.mjs): the forced cells as the released guide's own fill.sh prints them over the translation b37ee62939a8d30a… (all of the seat's roots in one cut). By AI agents, Wed Nov 11 2026. No macro, syntax, notation, axiom, sorry.
-/
import Derived.Test.YtfdlgmbbflmbgaaDoorChecked
import GoSem.Claim
import GoSem.ClaimJoined
import GoSem.ClaimMapViews
import Derived.JoinedTies
import Derived.KernelRfl
namespace Go.Proofs.YtfdlgmbbflmbgaaDoor
/- THE CELL 'sum', in the pinned program and in every row, IS THE sha256 OF THE DUMP (.gsa) THAT YtfdlgmbbflmbgaaDoorProg.lean LOADS. Nothing in Lean hashes anything: it is a label: what it is worth is what the hold of that sum in a sandbox is worth. -/
noncomputable def Tryd.pinned : Pinned := { name := "ytfdlgmbbflmbgaadoor", sum := "b37ee62939a8d30a197386f6d09d1c8c4124405204988390d75754c04a4c55eb", checked := Tryd.checked }
namespace Rows
def none {H : Type} : Left H := { results := [], args := [] }

/- WHAT THE LISTED PACKAGE-LEVEL VARIABLES READ AS WHEN THE CALL BEGINS. Each datum BY PROGRAM (the guide's laid-datum.mjs) off the statement by which the dump's own 'gosem.cut.vars' lays the variable. In a bare row this is a premise. The card (YtfdlgmbbflmbgaaDoorCards.lean) ties it to the program's text. -/
def laid_lariat_lariathand_vars {H : Type} : DataW H := .agg [.lit (.string [120]), .lit (.string [121]), .lit (.string [122])]
def laid_lariat_lariathand_procs {H : Type} : DataW H := .agg [.lit (.string [112]), .lit (.string [113]), .lit (.string [114])]
def laid_lariat_lariathand_locs {H : Type} : DataW H := .agg [.lit (.string [97]), .lit (.string [98]), .lit (.string [99]), .lit (.string [100])]

/-- 'lariatlaw7.LexStands': WHATEVER THE INPUT: true; the input reads as it did. -/
def lexStandsSpec : ChangeSpec := { name := "lexStands", fn := fun _ => fun
  | [d1, d2, d3, d4] => { results := [.lit (.bool true)], args := [d1, d2, d3, d4] }
  | _ => none }
def lexStandsRow : OpenClaim := { program := "ytfdlgmbbflmbgaadoor", sum := "b37ee62939a8d30a197386f6d09d1c8c4124405204988390d75754c04a4c55eb", func := "lariat/lariatlaw7.LexStands", spec := "lexStands", unfollowed := true, recurses := true, named := ["lariat/lariathand.procs", "lariat/lariathand.locs", "lariat/lariathand.vars"], apart := false, laid := [("lariat/lariathand.vars", laid_lariat_lariathand_vars), ("lariat/lariathand.procs", laid_lariat_lariathand_procs), ("lariat/lariathand.locs", laid_lariat_lariathand_locs)] }
def LexStandsSaid : Prop := lexStandsRow.holds Tryd.pinned (OpenSpec.ofChange lexStandsSpec)

/-- ITS FALSE NEIGHBOUR: 'it returns false'. Refute it at one input. -/
def lexStandsWrong : ChangeSpec := { name := "lexStands", fn := fun _ => fun
  | [d1, d2, d3, d4] => { results := [.lit (.bool false)], args := [d1, d2, d3, d4] }
  | _ => none }
def LexStandsWrongFalsely : Prop := lexStandsRow.holds Tryd.pinned (OpenSpec.ofChange lexStandsWrong)

/-- 'lariatlaw7.LexTells': WHATEVER THE INPUT: true; the input reads as it did. -/
def lexTellsSpec : ChangeSpec := { name := "lexTells", fn := fun _ => fun
  | [d1, d2, d3, d4] => { results := [.lit (.bool true)], args := [d1, d2, d3, d4] }
  | _ => none }
def lexTellsRow : OpenClaim := { program := "ytfdlgmbbflmbgaadoor", sum := "b37ee62939a8d30a197386f6d09d1c8c4124405204988390d75754c04a4c55eb", func := "lariat/lariatlaw7.LexTells", spec := "lexTells", unfollowed := true, recurses := true, named := ["lariat/lariathand.procs", "lariat/lariathand.locs", "lariat/lariathand.vars"], apart := false, laid := [("lariat/lariathand.vars", laid_lariat_lariathand_vars), ("lariat/lariathand.procs", laid_lariat_lariathand_procs), ("lariat/lariathand.locs", laid_lariat_lariathand_locs)] }
def LexTellsSaid : Prop := lexTellsRow.holds Tryd.pinned (OpenSpec.ofChange lexTellsSpec)

/-- ITS FALSE NEIGHBOUR: 'it returns false'. Refute it at one input. -/
def lexTellsWrong : ChangeSpec := { name := "lexTells", fn := fun _ => fun
  | [d1, d2, d3, d4] => { results := [.lit (.bool false)], args := [d1, d2, d3, d4] }
  | _ => none }
def LexTellsWrongFalsely : Prop := lexTellsRow.holds Tryd.pinned (OpenSpec.ofChange lexTellsWrong)

/-- 'lariatlaw18.FairWords': WHATEVER THE INPUT: true; the input reads as it did. -/
def fairWordsSpec : ChangeSpec := { name := "fairWords", fn := fun _ => fun
  | [d1, d2, d3, d4, d5] => { results := [.lit (.bool true)], args := [d1, d2, d3, d4, d5] }
  | _ => none }
def fairWordsRow : OpenClaim := { program := "ytfdlgmbbflmbgaadoor", sum := "b37ee62939a8d30a197386f6d09d1c8c4124405204988390d75754c04a4c55eb", func := "lariat/lariatlaw18.FairWords", spec := "fairWords", unfollowed := true, recurses := true, named := ["lariat/lariathand.vars", "lariat/lariathand.procs", "lariat/lariathand.locs"], apart := false, laid := [("lariat/lariathand.vars", laid_lariat_lariathand_vars), ("lariat/lariathand.procs", laid_lariat_lariathand_procs), ("lariat/lariathand.locs", laid_lariat_lariathand_locs)] }
def FairWordsSaid : Prop := fairWordsRow.holds Tryd.pinned (OpenSpec.ofChange fairWordsSpec)

/-- ITS FALSE NEIGHBOUR: 'it returns false'. Refute it at one input. -/
def fairWordsWrong : ChangeSpec := { name := "fairWords", fn := fun _ => fun
  | [d1, d2, d3, d4, d5] => { results := [.lit (.bool false)], args := [d1, d2, d3, d4, d5] }
  | _ => none }
def FairWordsWrongFalsely : Prop := fairWordsRow.holds Tryd.pinned (OpenSpec.ofChange fairWordsWrong)

/- THE SECOND FORM. 'bulk': how many values and letters a reading holds, each counted each time it is reached (what is shared counts as often as it is met; a slice's spare places count too). A statement '..UptoSaid' is the law's where the arguments, and the package variables that the reading takes, are together of bulk at most 1048576: NARROWER than '..Said'. Prove '..Said' where nothing that the law and all that it calls make is longer than what came in: it says more and counts as full. Else prove '..UptoSaid'. A law counts once. -/
mutual
def uptoBulk {H : Type} : DataW H → Nat
  | .lit (.string bytes) => bytes.length + 1
  | .lit _ => 1
  | .nil => 1
  | .ptr d => uptoBulk d + 1
  | .slice elems spare => uptoBulkAll elems + uptoBulkAll spare + 1
  | .agg parts => uptoBulkAll parts + 1
  | .iface _ d => uptoBulk d + 1
  | .map entries => uptoBulkEntries entries + 1
  | .held _ => 1
def uptoBulkAll {H : Type} : List (DataW H) → Nat
  | [] => 0
  | d :: r => uptoBulk d + uptoBulkAll r
def uptoBulkEntries {H : Type} : List (Lit × DataW H) → Nat
  | [] => 0
  | x :: r => uptoBulkEntry x + uptoBulkEntries r
def uptoBulkEntry {H : Type} : Lit × DataW H → Nat
  | (.string bytes, d) => bytes.length + uptoBulk d + 1
  | (_, d) => uptoBulk d + 1
 end
def uptoSmall : (H : Type) → List (DataW H) → Bool := fun _ ds => decide (uptoBulkAll ds ≤ 1048576)
def OpenSpec.upto (s : _root_.Go.ChangeSpec) : _root_.Go.OpenSpec := { _root_.Go.OpenSpec.ofChange s with cond := some uptoSmall }

/-- 'lariatlaw7.LexStands', WHERE WHAT IT READS IS OF BULK AT MOST 1048576: true; the input reads as it did. -/
def lexStandsUptoRow : OpenClaim := { program := "ytfdlgmbbflmbgaadoor", sum := "b37ee62939a8d30a197386f6d09d1c8c4124405204988390d75754c04a4c55eb", func := "lariat/lariatlaw7.LexStands", spec := "lexStands", unfollowed := true, recurses := true, named := ["lariat/lariathand.procs", "lariat/lariathand.locs", "lariat/lariathand.vars"], apart := false, laid := [("lariat/lariathand.vars", laid_lariat_lariathand_vars), ("lariat/lariathand.procs", laid_lariat_lariathand_procs), ("lariat/lariathand.locs", laid_lariat_lariathand_locs)], narrowed := true }
def LexStandsUptoSaid : Prop := lexStandsUptoRow.holds Tryd.pinned (OpenSpec.upto lexStandsSpec)

/-- 'lariatlaw7.LexTells', WHERE WHAT IT READS IS OF BULK AT MOST 1048576: true; the input reads as it did. -/
def lexTellsUptoRow : OpenClaim := { program := "ytfdlgmbbflmbgaadoor", sum := "b37ee62939a8d30a197386f6d09d1c8c4124405204988390d75754c04a4c55eb", func := "lariat/lariatlaw7.LexTells", spec := "lexTells", unfollowed := true, recurses := true, named := ["lariat/lariathand.procs", "lariat/lariathand.locs", "lariat/lariathand.vars"], apart := false, laid := [("lariat/lariathand.vars", laid_lariat_lariathand_vars), ("lariat/lariathand.procs", laid_lariat_lariathand_procs), ("lariat/lariathand.locs", laid_lariat_lariathand_locs)], narrowed := true }
def LexTellsUptoSaid : Prop := lexTellsUptoRow.holds Tryd.pinned (OpenSpec.upto lexTellsSpec)

/-- 'lariatlaw18.FairWords', WHERE WHAT IT READS IS OF BULK AT MOST 1048576: true; the input reads as it did. -/
def fairWordsUptoRow : OpenClaim := { program := "ytfdlgmbbflmbgaadoor", sum := "b37ee62939a8d30a197386f6d09d1c8c4124405204988390d75754c04a4c55eb", func := "lariat/lariatlaw18.FairWords", spec := "fairWords", unfollowed := true, recurses := true, named := ["lariat/lariathand.vars", "lariat/lariathand.procs", "lariat/lariathand.locs"], apart := false, laid := [("lariat/lariathand.vars", laid_lariat_lariathand_vars), ("lariat/lariathand.procs", laid_lariat_lariathand_procs), ("lariat/lariathand.locs", laid_lariat_lariathand_locs)], narrowed := true }
def FairWordsUptoSaid : Prop := fairWordsUptoRow.holds Tryd.pinned (OpenSpec.upto fairWordsSpec)

end Rows
end Go.Proofs.YtfdlgmbbflmbgaaDoor
