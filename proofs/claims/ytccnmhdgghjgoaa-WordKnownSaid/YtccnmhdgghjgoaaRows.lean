/-
  No cell of these rows narrows 'for every input' (looked for: loops, veiled, ifaces, maps, wideKeys, modest, calm, conditions, laid).
  DERIVED. THE GIVEN ROWS OF THIS SEAT. 4 by the template 'for every input the law returns true; each argument reads behind the call as it read before'; 0 by the template 'total and deterministic' (their statements: YtccnmhdgghjgoaaTotals.lean).
  GIVEN WITH THE SEED: the statements are not yours to turn. If you find one false, say at which input.
  Laid BY PROGRAM, IN A SANDBOX (cutbox-rows.mjs): the forced cells as the released guide's own fill.sh prints them over the translation c1c70b5f54911e42… (all of the seat's roots in one cut). By AI agents, Wed Nov 11 2026. No macro, syntax, notation, axiom, sorry.
-/
import Derived.Test.YtccnmhdgghjgoaaChecked
import GoSem.Claim
import GoSem.ClaimJoined
import GoSem.ClaimMapViews
import Derived.JoinedTies
import Derived.KernelRfl
namespace Go.Proofs.Ytccnmhdgghjgoaa
/- THE CELL 'sum', in the pinned program and in every row, IS THE sha256 OF THE DUMP (.gsa) THAT YtccnmhdgghjgoaaProg.lean LOADS. Nothing in Lean hashes anything: it is a label: what it is worth is what the hold of that sum in a sandbox is worth. -/
noncomputable def Try.pinned : Pinned := { name := "ytccnmhdgghjgoaa", sum := "c1c70b5f54911e42907546b920ffaafc2e53c62a5bfc3718237eec398e358e56", checked := Try.checked }
namespace Rows
def none {H : Type} : Left H := { results := [], args := [] }

/-- 'lariatlaw15.RewriteKnown': WHATEVER THE INPUT: true; the input reads as it did. -/
def rewriteKnownSpec : ChangeSpec := { name := "rewriteKnown", fn := fun _ => fun
  | [] => { results := [.lit (.bool true)], args := [] }
  | _ => none }
def rewriteKnownRow : OpenClaim := { program := "ytccnmhdgghjgoaa", sum := "c1c70b5f54911e42907546b920ffaafc2e53c62a5bfc3718237eec398e358e56", func := "lariat/lariatlaw15.RewriteKnown", spec := "rewriteKnown", unfollowed := true, recurses := true, apart := false }
def RewriteKnownSaid : Prop := rewriteKnownRow.holds Try.pinned (OpenSpec.ofChange rewriteKnownSpec)

/-- ITS FALSE NEIGHBOUR: 'it returns false'. Refute it at one input. -/
def rewriteKnownWrong : ChangeSpec := { name := "rewriteKnown", fn := fun _ => fun
  | [] => { results := [.lit (.bool false)], args := [] }
  | _ => none }
def RewriteKnownWrongFalsely : Prop := rewriteKnownRow.holds Try.pinned (OpenSpec.ofChange rewriteKnownWrong)

/-- 'lariatlaw15.RewriteTells': WHATEVER THE INPUT: true; the input reads as it did. -/
def rewriteTellsSpec : ChangeSpec := { name := "rewriteTells", fn := fun _ => fun
  | [d1, d2] => { results := [.lit (.bool true)], args := [d1, d2] }
  | _ => none }
def rewriteTellsRow : OpenClaim := { program := "ytccnmhdgghjgoaa", sum := "c1c70b5f54911e42907546b920ffaafc2e53c62a5bfc3718237eec398e358e56", func := "lariat/lariatlaw15.RewriteTells", spec := "rewriteTells", unfollowed := true, recurses := true, apart := false }
def RewriteTellsSaid : Prop := rewriteTellsRow.holds Try.pinned (OpenSpec.ofChange rewriteTellsSpec)

/-- ITS FALSE NEIGHBOUR: 'it returns false'. Refute it at one input. -/
def rewriteTellsWrong : ChangeSpec := { name := "rewriteTells", fn := fun _ => fun
  | [d1, d2] => { results := [.lit (.bool false)], args := [d1, d2] }
  | _ => none }
def RewriteTellsWrongFalsely : Prop := rewriteTellsRow.holds Try.pinned (OpenSpec.ofChange rewriteTellsWrong)

/-- 'lariatlaw15.RewriteTwice': WHATEVER THE INPUT: true; the input reads as it did. -/
def rewriteTwiceSpec : ChangeSpec := { name := "rewriteTwice", fn := fun _ => fun
  | [d1, d2] => { results := [.lit (.bool true)], args := [d1, d2] }
  | _ => none }
def rewriteTwiceRow : OpenClaim := { program := "ytccnmhdgghjgoaa", sum := "c1c70b5f54911e42907546b920ffaafc2e53c62a5bfc3718237eec398e358e56", func := "lariat/lariatlaw15.RewriteTwice", spec := "rewriteTwice", unfollowed := true, recurses := true, apart := false }
def RewriteTwiceSaid : Prop := rewriteTwiceRow.holds Try.pinned (OpenSpec.ofChange rewriteTwiceSpec)

/-- ITS FALSE NEIGHBOUR: 'it returns false'. Refute it at one input. -/
def rewriteTwiceWrong : ChangeSpec := { name := "rewriteTwice", fn := fun _ => fun
  | [d1, d2] => { results := [.lit (.bool false)], args := [d1, d2] }
  | _ => none }
def RewriteTwiceWrongFalsely : Prop := rewriteTwiceRow.holds Try.pinned (OpenSpec.ofChange rewriteTwiceWrong)

/-- 'lariatlaw16.WordKnown': WHATEVER THE INPUT: true; the input reads as it did. -/
def wordKnownSpec : ChangeSpec := { name := "wordKnown", fn := fun _ => fun
  | [] => { results := [.lit (.bool true)], args := [] }
  | _ => none }
def wordKnownRow : OpenClaim := { program := "ytccnmhdgghjgoaa", sum := "c1c70b5f54911e42907546b920ffaafc2e53c62a5bfc3718237eec398e358e56", func := "lariat/lariatlaw16.WordKnown", spec := "wordKnown", unfollowed := true, recurses := true, apart := false }
def WordKnownSaid : Prop := wordKnownRow.holds Try.pinned (OpenSpec.ofChange wordKnownSpec)

/-- ITS FALSE NEIGHBOUR: 'it returns false'. Refute it at one input. -/
def wordKnownWrong : ChangeSpec := { name := "wordKnown", fn := fun _ => fun
  | [] => { results := [.lit (.bool false)], args := [] }
  | _ => none }
def WordKnownWrongFalsely : Prop := wordKnownRow.holds Try.pinned (OpenSpec.ofChange wordKnownWrong)

/- THE SECOND FORM. 'bulk': how many values and letters a reading holds, each counted each time it is reached (what is shared counts as often as it is met; a slice's spare places count too). A statement '..UptoSaid' is the law's where the arguments, and the package variables that the reading takes, are together of bulk at most 1048576: NARROWER than '..Said'. Prove '..Said' where nothing that the law and all that it calls make is longer than what came in: it says more and counts as full. Else prove '..UptoSaid'. A law counts once. -/
mutual
def uptoBulk {H : Type} : DataW H → Nat
  | .lit (.string bytes) => bytes.length + 1
  | .lit _ => 1
  | .nil => 1
  | .ptr d => uptoBulk d + 1
  | .slice elems spare => uptoBulkAll elems + uptoBulkAll spare + 1
  | .agg parts => uptoBulkAll parts + 1
  | .iface _ d => uptoBulk d + 1
  | .map entries => uptoBulkEntries entries + 1
  | .held _ => 1
def uptoBulkAll {H : Type} : List (DataW H) → Nat
  | [] => 0
  | d :: r => uptoBulk d + uptoBulkAll r
def uptoBulkEntries {H : Type} : List (Lit × DataW H) → Nat
  | [] => 0
  | x :: r => uptoBulkEntry x + uptoBulkEntries r
def uptoBulkEntry {H : Type} : Lit × DataW H → Nat
  | (.string bytes, d) => bytes.length + uptoBulk d + 1
  | (_, d) => uptoBulk d + 1
 end
def uptoSmall : (H : Type) → List (DataW H) → Bool := fun _ ds => decide (uptoBulkAll ds ≤ 1048576)
def OpenSpec.upto (s : _root_.Go.ChangeSpec) : _root_.Go.OpenSpec := { _root_.Go.OpenSpec.ofChange s with cond := some uptoSmall }

/-- 'lariatlaw15.RewriteKnown', WHERE WHAT IT READS IS OF BULK AT MOST 1048576: true; the input reads as it did. -/
def rewriteKnownUptoRow : OpenClaim := { program := "ytccnmhdgghjgoaa", sum := "c1c70b5f54911e42907546b920ffaafc2e53c62a5bfc3718237eec398e358e56", func := "lariat/lariatlaw15.RewriteKnown", spec := "rewriteKnown", unfollowed := true, recurses := true, apart := false, narrowed := true }
def RewriteKnownUptoSaid : Prop := rewriteKnownUptoRow.holds Try.pinned (OpenSpec.upto rewriteKnownSpec)

/-- 'lariatlaw15.RewriteTells', WHERE WHAT IT READS IS OF BULK AT MOST 1048576: true; the input reads as it did. -/
def rewriteTellsUptoRow : OpenClaim := { program := "ytccnmhdgghjgoaa", sum := "c1c70b5f54911e42907546b920ffaafc2e53c62a5bfc3718237eec398e358e56", func := "lariat/lariatlaw15.RewriteTells", spec := "rewriteTells", unfollowed := true, recurses := true, apart := false, narrowed := true }
def RewriteTellsUptoSaid : Prop := rewriteTellsUptoRow.holds Try.pinned (OpenSpec.upto rewriteTellsSpec)

/-- 'lariatlaw15.RewriteTwice', WHERE WHAT IT READS IS OF BULK AT MOST 1048576: true; the input reads as it did. -/
def rewriteTwiceUptoRow : OpenClaim := { program := "ytccnmhdgghjgoaa", sum := "c1c70b5f54911e42907546b920ffaafc2e53c62a5bfc3718237eec398e358e56", func := "lariat/lariatlaw15.RewriteTwice", spec := "rewriteTwice", unfollowed := true, recurses := true, apart := false, narrowed := true }
def RewriteTwiceUptoSaid : Prop := rewriteTwiceUptoRow.holds Try.pinned (OpenSpec.upto rewriteTwiceSpec)

/-- 'lariatlaw16.WordKnown', WHERE WHAT IT READS IS OF BULK AT MOST 1048576: true; the input reads as it did. -/
def wordKnownUptoRow : OpenClaim := { program := "ytccnmhdgghjgoaa", sum := "c1c70b5f54911e42907546b920ffaafc2e53c62a5bfc3718237eec398e358e56", func := "lariat/lariatlaw16.WordKnown", spec := "wordKnown", unfollowed := true, recurses := true, apart := false, narrowed := true }
def WordKnownUptoSaid : Prop := wordKnownUptoRow.holds Try.pinned (OpenSpec.upto wordKnownSpec)

end Rows
end Go.Proofs.Ytccnmhdgghjgoaa
