/-
  No cell of these rows narrows 'for every input' (looked for: loops, veiled, ifaces, maps, wideKeys, modest, calm, conditions, laid).
  DERIVED. THE GIVEN ROWS OF THIS SEAT. 8 by the template 'for every input the law returns true; each argument reads behind the call as it read before'; 0 by the template 'total and deterministic' (their statements: YtfdlgmbbflmbgaaTotals.lean).
  GIVEN WITH THE SEED: the statements are not yours to turn. If you find one false, say at which input.
  Laid BY PROGRAM, IN A SANDBOX (cutbox-rows.mjs): the forced cells as the released guide's own fill.sh prints them over the translation 73d60efbe9e4e850… (all of the seat's roots in one cut). By AI agents, Wed Nov 11 2026. No macro, syntax, notation, axiom, sorry.
-/
import Derived.Test.YtfdlgmbbflmbgaaChecked
import GoSem.Claim
import GoSem.ClaimJoined
import GoSem.ClaimMapViews
import Derived.JoinedTies
import Derived.KernelRfl
namespace Go.Proofs.Ytfdlgmbbflmbgaa
/- THE CELL 'sum', in the pinned program and in every row, IS THE sha256 OF THE DUMP (.gsa) THAT YtfdlgmbbflmbgaaProg.lean LOADS. Nothing in Lean hashes anything: it is a label: what it is worth is what the hold of that sum in a sandbox is worth. -/
noncomputable def Try.pinned : Pinned := { name := "ytfdlgmbbflmbgaa", sum := "73d60efbe9e4e850ba9a51b492a5b0e8edeac8ecd06dbf432a248204842f2954", checked := Try.checked }
namespace Rows
def none {H : Type} : Left H := { results := [], args := [] }

/-- 'lariatlaw7.LexJoins': WHATEVER THE INPUT: true; the input reads as it did. -/
def lexJoinsSpec : ChangeSpec := { name := "lexJoins", fn := fun _ => fun
  | [d1, d2] => { results := [.lit (.bool true)], args := [d1, d2] }
  | _ => none }
def lexJoinsRow : OpenClaim := { program := "ytfdlgmbbflmbgaa", sum := "73d60efbe9e4e850ba9a51b492a5b0e8edeac8ecd06dbf432a248204842f2954", func := "lariat/lariatlaw7.LexJoins", spec := "lexJoins", unfollowed := true, recurses := true, apart := false }
def LexJoinsSaid : Prop := lexJoinsRow.holds Try.pinned (OpenSpec.ofChange lexJoinsSpec)

/-- ITS FALSE NEIGHBOUR: 'it returns false'. Refute it at one input. -/
def lexJoinsWrong : ChangeSpec := { name := "lexJoins", fn := fun _ => fun
  | [d1, d2] => { results := [.lit (.bool false)], args := [d1, d2] }
  | _ => none }
def LexJoinsWrongFalsely : Prop := lexJoinsRow.holds Try.pinned (OpenSpec.ofChange lexJoinsWrong)

/-- 'lariatlaw7.LexKnown': WHATEVER THE INPUT: true; the input reads as it did. -/
def lexKnownSpec : ChangeSpec := { name := "lexKnown", fn := fun _ => fun
  | [] => { results := [.lit (.bool true)], args := [] }
  | _ => none }
def lexKnownRow : OpenClaim := { program := "ytfdlgmbbflmbgaa", sum := "73d60efbe9e4e850ba9a51b492a5b0e8edeac8ecd06dbf432a248204842f2954", func := "lariat/lariatlaw7.LexKnown", spec := "lexKnown", unfollowed := true, recurses := true, apart := false }
def LexKnownSaid : Prop := lexKnownRow.holds Try.pinned (OpenSpec.ofChange lexKnownSpec)

/-- ITS FALSE NEIGHBOUR: 'it returns false'. Refute it at one input. -/
def lexKnownWrong : ChangeSpec := { name := "lexKnown", fn := fun _ => fun
  | [] => { results := [.lit (.bool false)], args := [] }
  | _ => none }
def LexKnownWrongFalsely : Prop := lexKnownRow.holds Try.pinned (OpenSpec.ofChange lexKnownWrong)

/-- 'lariatlaw18.FairRounds': WHATEVER THE INPUT: true; the input reads as it did. -/
def fairRoundsSpec : ChangeSpec := { name := "fairRounds", fn := fun _ => fun
  | [d1, d2] => { results := [.lit (.bool true)], args := [d1, d2] }
  | _ => none }
def fairRoundsRow : OpenClaim := { program := "ytfdlgmbbflmbgaa", sum := "73d60efbe9e4e850ba9a51b492a5b0e8edeac8ecd06dbf432a248204842f2954", func := "lariat/lariatlaw18.FairRounds", spec := "fairRounds", unfollowed := true, recurses := true, apart := false }
def FairRoundsSaid : Prop := fairRoundsRow.holds Try.pinned (OpenSpec.ofChange fairRoundsSpec)

/-- ITS FALSE NEIGHBOUR: 'it returns false'. Refute it at one input. -/
def fairRoundsWrong : ChangeSpec := { name := "fairRounds", fn := fun _ => fun
  | [d1, d2] => { results := [.lit (.bool false)], args := [d1, d2] }
  | _ => none }
def FairRoundsWrongFalsely : Prop := fairRoundsRow.holds Try.pinned (OpenSpec.ofChange fairRoundsWrong)

/-- 'lariatlaw18.FairKnown': WHATEVER THE INPUT: true; the input reads as it did. -/
def fairKnownSpec : ChangeSpec := { name := "fairKnown", fn := fun _ => fun
  | [] => { results := [.lit (.bool true)], args := [] }
  | _ => none }
def fairKnownRow : OpenClaim := { program := "ytfdlgmbbflmbgaa", sum := "73d60efbe9e4e850ba9a51b492a5b0e8edeac8ecd06dbf432a248204842f2954", func := "lariat/lariatlaw18.FairKnown", spec := "fairKnown", unfollowed := true, recurses := true, apart := false }
def FairKnownSaid : Prop := fairKnownRow.holds Try.pinned (OpenSpec.ofChange fairKnownSpec)

/-- ITS FALSE NEIGHBOUR: 'it returns false'. Refute it at one input. -/
def fairKnownWrong : ChangeSpec := { name := "fairKnown", fn := fun _ => fun
  | [] => { results := [.lit (.bool false)], args := [] }
  | _ => none }
def FairKnownWrongFalsely : Prop := fairKnownRow.holds Try.pinned (OpenSpec.ofChange fairKnownWrong)

/-- 'lariatlaw18.FairTells': WHATEVER THE INPUT: true; the input reads as it did. -/
def fairTellsSpec : ChangeSpec := { name := "fairTells", fn := fun _ => fun
  | [d1, d2, d3, d4, d5] => { results := [.lit (.bool true)], args := [d1, d2, d3, d4, d5] }
  | _ => none }
def fairTellsRow : OpenClaim := { program := "ytfdlgmbbflmbgaa", sum := "73d60efbe9e4e850ba9a51b492a5b0e8edeac8ecd06dbf432a248204842f2954", func := "lariat/lariatlaw18.FairTells", spec := "fairTells", unfollowed := true, recurses := true, apart := false }
def FairTellsSaid : Prop := fairTellsRow.holds Try.pinned (OpenSpec.ofChange fairTellsSpec)

/-- ITS FALSE NEIGHBOUR: 'it returns false'. Refute it at one input. -/
def fairTellsWrong : ChangeSpec := { name := "fairTells", fn := fun _ => fun
  | [d1, d2, d3, d4, d5] => { results := [.lit (.bool false)], args := [d1, d2, d3, d4, d5] }
  | _ => none }
def FairTellsWrongFalsely : Prop := fairTellsRow.holds Try.pinned (OpenSpec.ofChange fairTellsWrong)

/-- 'lariatlaw14.NnfKnown': WHATEVER THE INPUT: true; the input reads as it did. -/
def nnfKnownSpec : ChangeSpec := { name := "nnfKnown", fn := fun _ => fun
  | [] => { results := [.lit (.bool true)], args := [] }
  | _ => none }
def nnfKnownRow : OpenClaim := { program := "ytfdlgmbbflmbgaa", sum := "73d60efbe9e4e850ba9a51b492a5b0e8edeac8ecd06dbf432a248204842f2954", func := "lariat/lariatlaw14.NnfKnown", spec := "nnfKnown", unfollowed := true, recurses := true, apart := false }
def NnfKnownSaid : Prop := nnfKnownRow.holds Try.pinned (OpenSpec.ofChange nnfKnownSpec)

/-- ITS FALSE NEIGHBOUR: 'it returns false'. Refute it at one input. -/
def nnfKnownWrong : ChangeSpec := { name := "nnfKnown", fn := fun _ => fun
  | [] => { results := [.lit (.bool false)], args := [] }
  | _ => none }
def NnfKnownWrongFalsely : Prop := nnfKnownRow.holds Try.pinned (OpenSpec.ofChange nnfKnownWrong)

/-- 'lariatlaw14.NnfTells': WHATEVER THE INPUT: true; the input reads as it did. -/
def nnfTellsSpec : ChangeSpec := { name := "nnfTells", fn := fun _ => fun
  | [d1, d2, d3] => { results := [.lit (.bool true)], args := [d1, d2, d3] }
  | _ => none }
def nnfTellsRow : OpenClaim := { program := "ytfdlgmbbflmbgaa", sum := "73d60efbe9e4e850ba9a51b492a5b0e8edeac8ecd06dbf432a248204842f2954", func := "lariat/lariatlaw14.NnfTells", spec := "nnfTells", unfollowed := true, recurses := true, apart := false }
def NnfTellsSaid : Prop := nnfTellsRow.holds Try.pinned (OpenSpec.ofChange nnfTellsSpec)

/-- ITS FALSE NEIGHBOUR: 'it returns false'. Refute it at one input. -/
def nnfTellsWrong : ChangeSpec := { name := "nnfTells", fn := fun _ => fun
  | [d1, d2, d3] => { results := [.lit (.bool false)], args := [d1, d2, d3] }
  | _ => none }
def NnfTellsWrongFalsely : Prop := nnfTellsRow.holds Try.pinned (OpenSpec.ofChange nnfTellsWrong)

/-- 'lariatlaw14.NnfTwice': WHATEVER THE INPUT: true; the input reads as it did. -/
def nnfTwiceSpec : ChangeSpec := { name := "nnfTwice", fn := fun _ => fun
  | [d] => { results := [.lit (.bool true)], args := [d] }
  | _ => none }
def nnfTwiceRow : OpenClaim := { program := "ytfdlgmbbflmbgaa", sum := "73d60efbe9e4e850ba9a51b492a5b0e8edeac8ecd06dbf432a248204842f2954", func := "lariat/lariatlaw14.NnfTwice", spec := "nnfTwice", unfollowed := true, recurses := true, apart := false }
def NnfTwiceSaid : Prop := nnfTwiceRow.holds Try.pinned (OpenSpec.ofChange nnfTwiceSpec)

/-- ITS FALSE NEIGHBOUR: 'it returns false'. Refute it at one input. -/
def nnfTwiceWrong : ChangeSpec := { name := "nnfTwice", fn := fun _ => fun
  | [d] => { results := [.lit (.bool false)], args := [d] }
  | _ => none }
def NnfTwiceWrongFalsely : Prop := nnfTwiceRow.holds Try.pinned (OpenSpec.ofChange nnfTwiceWrong)

/- THE SECOND FORM. 'bulk': how many values and letters a reading holds, each counted each time it is reached (what is shared counts as often as it is met; a slice's spare places count too). A statement '..UptoSaid' is the law's where the arguments, and the package variables that the reading takes, are together of bulk at most 1048576: NARROWER than '..Said'. Prove '..Said' where nothing that the law and all that it calls make is longer than what came in: it says more and counts as full. Else prove '..UptoSaid'. A law counts once. -/
mutual
def uptoBulk {H : Type} : DataW H → Nat
  | .lit (.string bytes) => bytes.length + 1
  | .lit _ => 1
  | .nil => 1
  | .ptr d => uptoBulk d + 1
  | .slice elems spare => uptoBulkAll elems + uptoBulkAll spare + 1
  | .agg parts => uptoBulkAll parts + 1
  | .iface _ d => uptoBulk d + 1
  | .map entries => uptoBulkEntries entries + 1
  | .held _ => 1
def uptoBulkAll {H : Type} : List (DataW H) → Nat
  | [] => 0
  | d :: r => uptoBulk d + uptoBulkAll r
def uptoBulkEntries {H : Type} : List (Lit × DataW H) → Nat
  | [] => 0
  | x :: r => uptoBulkEntry x + uptoBulkEntries r
def uptoBulkEntry {H : Type} : Lit × DataW H → Nat
  | (.string bytes, d) => bytes.length + uptoBulk d + 1
  | (_, d) => uptoBulk d + 1
 end
def uptoSmall : (H : Type) → List (DataW H) → Bool := fun _ ds => decide (uptoBulkAll ds ≤ 1048576)
def OpenSpec.upto (s : _root_.Go.ChangeSpec) : _root_.Go.OpenSpec := { _root_.Go.OpenSpec.ofChange s with cond := some uptoSmall }

/-- 'lariatlaw7.LexJoins', WHERE WHAT IT READS IS OF BULK AT MOST 1048576: true; the input reads as it did. -/
def lexJoinsUptoRow : OpenClaim := { program := "ytfdlgmbbflmbgaa", sum := "73d60efbe9e4e850ba9a51b492a5b0e8edeac8ecd06dbf432a248204842f2954", func := "lariat/lariatlaw7.LexJoins", spec := "lexJoins", unfollowed := true, recurses := true, apart := false, narrowed := true }
def LexJoinsUptoSaid : Prop := lexJoinsUptoRow.holds Try.pinned (OpenSpec.upto lexJoinsSpec)

/-- 'lariatlaw7.LexKnown', WHERE WHAT IT READS IS OF BULK AT MOST 1048576: true; the input reads as it did. -/
def lexKnownUptoRow : OpenClaim := { program := "ytfdlgmbbflmbgaa", sum := "73d60efbe9e4e850ba9a51b492a5b0e8edeac8ecd06dbf432a248204842f2954", func := "lariat/lariatlaw7.LexKnown", spec := "lexKnown", unfollowed := true, recurses := true, apart := false, narrowed := true }
def LexKnownUptoSaid : Prop := lexKnownUptoRow.holds Try.pinned (OpenSpec.upto lexKnownSpec)

/-- 'lariatlaw18.FairRounds', WHERE WHAT IT READS IS OF BULK AT MOST 1048576: true; the input reads as it did. -/
def fairRoundsUptoRow : OpenClaim := { program := "ytfdlgmbbflmbgaa", sum := "73d60efbe9e4e850ba9a51b492a5b0e8edeac8ecd06dbf432a248204842f2954", func := "lariat/lariatlaw18.FairRounds", spec := "fairRounds", unfollowed := true, recurses := true, apart := false, narrowed := true }
def FairRoundsUptoSaid : Prop := fairRoundsUptoRow.holds Try.pinned (OpenSpec.upto fairRoundsSpec)

/-- 'lariatlaw18.FairKnown', WHERE WHAT IT READS IS OF BULK AT MOST 1048576: true; the input reads as it did. -/
def fairKnownUptoRow : OpenClaim := { program := "ytfdlgmbbflmbgaa", sum := "73d60efbe9e4e850ba9a51b492a5b0e8edeac8ecd06dbf432a248204842f2954", func := "lariat/lariatlaw18.FairKnown", spec := "fairKnown", unfollowed := true, recurses := true, apart := false, narrowed := true }
def FairKnownUptoSaid : Prop := fairKnownUptoRow.holds Try.pinned (OpenSpec.upto fairKnownSpec)

/-- 'lariatlaw18.FairTells', WHERE WHAT IT READS IS OF BULK AT MOST 1048576: true; the input reads as it did. -/
def fairTellsUptoRow : OpenClaim := { program := "ytfdlgmbbflmbgaa", sum := "73d60efbe9e4e850ba9a51b492a5b0e8edeac8ecd06dbf432a248204842f2954", func := "lariat/lariatlaw18.FairTells", spec := "fairTells", unfollowed := true, recurses := true, apart := false, narrowed := true }
def FairTellsUptoSaid : Prop := fairTellsUptoRow.holds Try.pinned (OpenSpec.upto fairTellsSpec)

/-- 'lariatlaw14.NnfKnown', WHERE WHAT IT READS IS OF BULK AT MOST 1048576: true; the input reads as it did. -/
def nnfKnownUptoRow : OpenClaim := { program := "ytfdlgmbbflmbgaa", sum := "73d60efbe9e4e850ba9a51b492a5b0e8edeac8ecd06dbf432a248204842f2954", func := "lariat/lariatlaw14.NnfKnown", spec := "nnfKnown", unfollowed := true, recurses := true, apart := false, narrowed := true }
def NnfKnownUptoSaid : Prop := nnfKnownUptoRow.holds Try.pinned (OpenSpec.upto nnfKnownSpec)

/-- 'lariatlaw14.NnfTells', WHERE WHAT IT READS IS OF BULK AT MOST 1048576: true; the input reads as it did. -/
def nnfTellsUptoRow : OpenClaim := { program := "ytfdlgmbbflmbgaa", sum := "73d60efbe9e4e850ba9a51b492a5b0e8edeac8ecd06dbf432a248204842f2954", func := "lariat/lariatlaw14.NnfTells", spec := "nnfTells", unfollowed := true, recurses := true, apart := false, narrowed := true }
def NnfTellsUptoSaid : Prop := nnfTellsUptoRow.holds Try.pinned (OpenSpec.upto nnfTellsSpec)

/-- 'lariatlaw14.NnfTwice', WHERE WHAT IT READS IS OF BULK AT MOST 1048576: true; the input reads as it did. -/
def nnfTwiceUptoRow : OpenClaim := { program := "ytfdlgmbbflmbgaa", sum := "73d60efbe9e4e850ba9a51b492a5b0e8edeac8ecd06dbf432a248204842f2954", func := "lariat/lariatlaw14.NnfTwice", spec := "nnfTwice", unfollowed := true, recurses := true, apart := false, narrowed := true }
def NnfTwiceUptoSaid : Prop := nnfTwiceUptoRow.holds Try.pinned (OpenSpec.upto nnfTwiceSpec)

end Rows
end Go.Proofs.Ytfdlgmbbflmbgaa
