/-
  NARROWER THAN 'FOR EVERY INPUT', by the rows' own cells (each row's printed sentence says how): ExprTells: laid · ExprBack: laid · ExprBlanks: laid · ExprKnown: laid · ExprEvals: laid · ExprLaws: laid · ExprRight: laid · FormulaKids: laid · FormulaBack: laid · FormulaBlanks: laid · FormulaKnown: laid.
  DERIVED. THE GIVEN ROWS OF THIS SEAT. 11 by the template 'for every input the law returns true; each argument reads behind the call as it read before'; 0 by the template 'total and deterministic' (their statements: YtkmpkebaloejhaaDoorTotals.lean).
  GIVEN WITH THE SEED: the statements are not yours to turn. If you find one false, say at which input.
  Laid BY PROGRAM, IN A SANDBOX (cutbox-rows.mjs): the forced cells as the released guide's own fill.sh prints them over the translation 328673617318c19a… (all of the seat's roots in one cut). By AI agents, Wed Nov 11 2026. No macro, syntax, notation, axiom, sorry.
-/
import Derived.Test.YtkmpkebaloejhaaDoorChecked
import GoSem.Claim
import GoSem.ClaimJoined
import GoSem.ClaimMapViews
import Derived.JoinedTies
import Derived.KernelRfl
namespace Go.Proofs.YtkmpkebaloejhaaDoor
/- THE CELL 'sum', in the pinned program and in every row, IS THE sha256 OF THE DUMP (.gsa) THAT YtkmpkebaloejhaaDoorProg.lean LOADS. Nothing in Lean hashes anything: it is a label: what it is worth is what the hold of that sum in a sandbox is worth. -/
noncomputable def Tryd.pinned : Pinned := { name := "ytkmpkebaloejhaadoor", sum := "328673617318c19a532156c85c0b609f853c7865d9cef6e81b85f54adcfcb89e", checked := Tryd.checked }
namespace Rows
def none {H : Type} : Left H := { results := [], args := [] }

/- WHAT THE LISTED PACKAGE-LEVEL VARIABLES READ AS WHEN THE CALL BEGINS. Each datum BY PROGRAM (the guide's laid-datum.mjs) off the statement by which the dump's own 'gosem.cut.vars' lays the variable. In a bare row this is a premise. The card (YtkmpkebaloejhaaDoorCards.lean) ties it to the program's text. -/
def laid_math_bits_deBruijn32tab {H : Type} : DataW H := .agg [.lit (.int .u8 0), .lit (.int .u8 1), .lit (.int .u8 28), .lit (.int .u8 2), .lit (.int .u8 29), .lit (.int .u8 14), .lit (.int .u8 24), .lit (.int .u8 3), .lit (.int .u8 30), .lit (.int .u8 22), .lit (.int .u8 20), .lit (.int .u8 15), .lit (.int .u8 25), .lit (.int .u8 17), .lit (.int .u8 4), .lit (.int .u8 8), .lit (.int .u8 31), .lit (.int .u8 27), .lit (.int .u8 13), .lit (.int .u8 23), .lit (.int .u8 21), .lit (.int .u8 19), .lit (.int .u8 16), .lit (.int .u8 7), .lit (.int .u8 26), .lit (.int .u8 12), .lit (.int .u8 18), .lit (.int .u8 6), .lit (.int .u8 11), .lit (.int .u8 5), .lit (.int .u8 10), .lit (.int .u8 9)]
def laid_math_bits_deBruijn64tab {H : Type} : DataW H := .agg [.lit (.int .u8 0), .lit (.int .u8 1), .lit (.int .u8 56), .lit (.int .u8 2), .lit (.int .u8 57), .lit (.int .u8 49), .lit (.int .u8 28), .lit (.int .u8 3), .lit (.int .u8 61), .lit (.int .u8 58), .lit (.int .u8 42), .lit (.int .u8 50), .lit (.int .u8 38), .lit (.int .u8 29), .lit (.int .u8 17), .lit (.int .u8 4), .lit (.int .u8 62), .lit (.int .u8 47), .lit (.int .u8 59), .lit (.int .u8 36), .lit (.int .u8 45), .lit (.int .u8 43), .lit (.int .u8 51), .lit (.int .u8 22), .lit (.int .u8 53), .lit (.int .u8 39), .lit (.int .u8 33), .lit (.int .u8 30), .lit (.int .u8 24), .lit (.int .u8 18), .lit (.int .u8 12), .lit (.int .u8 5), .lit (.int .u8 63), .lit (.int .u8 55), .lit (.int .u8 48), .lit (.int .u8 27), .lit (.int .u8 60), .lit (.int .u8 41), .lit (.int .u8 37), .lit (.int .u8 16), .lit (.int .u8 46), .lit (.int .u8 35), .lit (.int .u8 44), .lit (.int .u8 21), .lit (.int .u8 52), .lit (.int .u8 32), .lit (.int .u8 23), .lit (.int .u8 11), .lit (.int .u8 54), .lit (.int .u8 26), .lit (.int .u8 40), .lit (.int .u8 15), .lit (.int .u8 34), .lit (.int .u8 20), .lit (.int .u8 31), .lit (.int .u8 10), .lit (.int .u8 25), .lit (.int .u8 14), .lit (.int .u8 19), .lit (.int .u8 9), .lit (.int .u8 13), .lit (.int .u8 8), .lit (.int .u8 7), .lit (.int .u8 6)]
def laid_internal_strconv_uint64pow10 {H : Type} : DataW H := .agg [.lit (.int .u64 1), .lit (.int .u64 10), .lit (.int .u64 100), .lit (.int .u64 1000), .lit (.int .u64 10000), .lit (.int .u64 100000), .lit (.int .u64 1000000), .lit (.int .u64 10000000), .lit (.int .u64 100000000), .lit (.int .u64 1000000000), .lit (.int .u64 10000000000), .lit (.int .u64 100000000000), .lit (.int .u64 1000000000000), .lit (.int .u64 10000000000000), .lit (.int .u64 100000000000000), .lit (.int .u64 1000000000000000), .lit (.int .u64 10000000000000000), .lit (.int .u64 100000000000000000), .lit (.int .u64 1000000000000000000), .lit (.int .u64 10000000000000000000)]
def laid_lariat_lariathand_vars {H : Type} : DataW H := .agg [.lit (.string [120]), .lit (.string [121]), .lit (.string [122])]
def laid_lariat_lariathand_procs {H : Type} : DataW H := .agg [.lit (.string [112]), .lit (.string [113]), .lit (.string [114])]
def laid_lariat_lariathand_locs {H : Type} : DataW H := .agg [.lit (.string [97]), .lit (.string [98]), .lit (.string [99]), .lit (.string [100])]

/-- 'lariatlaw8.ExprTells': WHATEVER THE INPUT: true; the input reads as it did. -/
def exprTellsSpec : ChangeSpec := { name := "exprTells", fn := fun _ => fun
  | [d1, d2, d3, d4, d5] => { results := [.lit (.bool true)], args := [d1, d2, d3, d4, d5] }
  | _ => none }
def exprTellsRow : OpenClaim := { program := "ytkmpkebaloejhaadoor", sum := "328673617318c19a532156c85c0b609f853c7865d9cef6e81b85f54adcfcb89e", func := "lariat/lariatlaw8.ExprTells", spec := "exprTells", unfollowed := true, recurses := true, named := ["internal/strconv.uint64pow10", "math/bits.deBruijn32tab", "math/bits.deBruijn64tab", "lariat/lariathand.procs", "lariat/lariathand.locs", "lariat/lariathand.vars"], apart := false, laid := [("math/bits.deBruijn32tab", laid_math_bits_deBruijn32tab), ("math/bits.deBruijn64tab", laid_math_bits_deBruijn64tab), ("internal/strconv.uint64pow10", laid_internal_strconv_uint64pow10), ("lariat/lariathand.vars", laid_lariat_lariathand_vars), ("lariat/lariathand.procs", laid_lariat_lariathand_procs), ("lariat/lariathand.locs", laid_lariat_lariathand_locs)] }
def ExprTellsSaid : Prop := exprTellsRow.holds Tryd.pinned (OpenSpec.ofChange exprTellsSpec)

/-- ITS FALSE NEIGHBOUR: 'it returns false'. Refute it at one input. -/
def exprTellsWrong : ChangeSpec := { name := "exprTells", fn := fun _ => fun
  | [d1, d2, d3, d4, d5] => { results := [.lit (.bool false)], args := [d1, d2, d3, d4, d5] }
  | _ => none }
def ExprTellsWrongFalsely : Prop := exprTellsRow.holds Tryd.pinned (OpenSpec.ofChange exprTellsWrong)

/-- 'lariatlaw8.ExprBack': WHATEVER THE INPUT: true; the input reads as it did. -/
def exprBackSpec : ChangeSpec := { name := "exprBack", fn := fun _ => fun
  | [d1, d2] => { results := [.lit (.bool true)], args := [d1, d2] }
  | _ => none }
def exprBackRow : OpenClaim := { program := "ytkmpkebaloejhaadoor", sum := "328673617318c19a532156c85c0b609f853c7865d9cef6e81b85f54adcfcb89e", func := "lariat/lariatlaw8.ExprBack", spec := "exprBack", unfollowed := true, recurses := true, named := ["internal/strconv.uint64pow10", "math/bits.deBruijn32tab", "math/bits.deBruijn64tab", "lariat/lariathand.procs", "lariat/lariathand.locs", "lariat/lariathand.vars"], apart := false, laid := [("math/bits.deBruijn32tab", laid_math_bits_deBruijn32tab), ("math/bits.deBruijn64tab", laid_math_bits_deBruijn64tab), ("internal/strconv.uint64pow10", laid_internal_strconv_uint64pow10), ("lariat/lariathand.vars", laid_lariat_lariathand_vars), ("lariat/lariathand.procs", laid_lariat_lariathand_procs), ("lariat/lariathand.locs", laid_lariat_lariathand_locs)] }
def ExprBackSaid : Prop := exprBackRow.holds Tryd.pinned (OpenSpec.ofChange exprBackSpec)

/-- ITS FALSE NEIGHBOUR: 'it returns false'. Refute it at one input. -/
def exprBackWrong : ChangeSpec := { name := "exprBack", fn := fun _ => fun
  | [d1, d2] => { results := [.lit (.bool false)], args := [d1, d2] }
  | _ => none }
def ExprBackWrongFalsely : Prop := exprBackRow.holds Tryd.pinned (OpenSpec.ofChange exprBackWrong)

/-- 'lariatlaw8.ExprBlanks': WHATEVER THE INPUT: true; the input reads as it did. -/
def exprBlanksSpec : ChangeSpec := { name := "exprBlanks", fn := fun _ => fun
  | [d1, d2] => { results := [.lit (.bool true)], args := [d1, d2] }
  | _ => none }
def exprBlanksRow : OpenClaim := { program := "ytkmpkebaloejhaadoor", sum := "328673617318c19a532156c85c0b609f853c7865d9cef6e81b85f54adcfcb89e", func := "lariat/lariatlaw8.ExprBlanks", spec := "exprBlanks", unfollowed := true, recurses := true, named := ["internal/strconv.uint64pow10", "math/bits.deBruijn32tab", "math/bits.deBruijn64tab", "lariat/lariathand.procs", "lariat/lariathand.locs", "lariat/lariathand.vars"], apart := false, laid := [("math/bits.deBruijn32tab", laid_math_bits_deBruijn32tab), ("math/bits.deBruijn64tab", laid_math_bits_deBruijn64tab), ("internal/strconv.uint64pow10", laid_internal_strconv_uint64pow10), ("lariat/lariathand.vars", laid_lariat_lariathand_vars), ("lariat/lariathand.procs", laid_lariat_lariathand_procs), ("lariat/lariathand.locs", laid_lariat_lariathand_locs)] }
def ExprBlanksSaid : Prop := exprBlanksRow.holds Tryd.pinned (OpenSpec.ofChange exprBlanksSpec)

/-- ITS FALSE NEIGHBOUR: 'it returns false'. Refute it at one input. -/
def exprBlanksWrong : ChangeSpec := { name := "exprBlanks", fn := fun _ => fun
  | [d1, d2] => { results := [.lit (.bool false)], args := [d1, d2] }
  | _ => none }
def ExprBlanksWrongFalsely : Prop := exprBlanksRow.holds Tryd.pinned (OpenSpec.ofChange exprBlanksWrong)

/-- 'lariatlaw8.ExprKnown': WHATEVER THE INPUT: true; the input reads as it did. -/
def exprKnownSpec : ChangeSpec := { name := "exprKnown", fn := fun _ => fun
  | [] => { results := [.lit (.bool true)], args := [] }
  | _ => none }
def exprKnownRow : OpenClaim := { program := "ytkmpkebaloejhaadoor", sum := "328673617318c19a532156c85c0b609f853c7865d9cef6e81b85f54adcfcb89e", func := "lariat/lariatlaw8.ExprKnown", spec := "exprKnown", unfollowed := true, recurses := true, named := ["internal/strconv.uint64pow10", "math/bits.deBruijn32tab", "math/bits.deBruijn64tab"], apart := false, laid := [("math/bits.deBruijn32tab", laid_math_bits_deBruijn32tab), ("math/bits.deBruijn64tab", laid_math_bits_deBruijn64tab), ("internal/strconv.uint64pow10", laid_internal_strconv_uint64pow10)] }
def ExprKnownSaid : Prop := exprKnownRow.holds Tryd.pinned (OpenSpec.ofChange exprKnownSpec)

/-- ITS FALSE NEIGHBOUR: 'it returns false'. Refute it at one input. -/
def exprKnownWrong : ChangeSpec := { name := "exprKnown", fn := fun _ => fun
  | [] => { results := [.lit (.bool false)], args := [] }
  | _ => none }
def ExprKnownWrongFalsely : Prop := exprKnownRow.holds Tryd.pinned (OpenSpec.ofChange exprKnownWrong)

/-- 'lariatlaw8.ExprEvals': WHATEVER THE INPUT: true; the input reads as it did. -/
def exprEvalsSpec : ChangeSpec := { name := "exprEvals", fn := fun _ => fun
  | [d1, d2, d3, d4, d5] => { results := [.lit (.bool true)], args := [d1, d2, d3, d4, d5] }
  | _ => none }
def exprEvalsRow : OpenClaim := { program := "ytkmpkebaloejhaadoor", sum := "328673617318c19a532156c85c0b609f853c7865d9cef6e81b85f54adcfcb89e", func := "lariat/lariatlaw8.ExprEvals", spec := "exprEvals", unfollowed := true, recurses := true, named := ["internal/strconv.uint64pow10", "math/bits.deBruijn32tab", "math/bits.deBruijn64tab", "lariat/lariathand.procs", "lariat/lariathand.locs", "lariat/lariathand.vars"], apart := false, laid := [("math/bits.deBruijn32tab", laid_math_bits_deBruijn32tab), ("math/bits.deBruijn64tab", laid_math_bits_deBruijn64tab), ("internal/strconv.uint64pow10", laid_internal_strconv_uint64pow10), ("lariat/lariathand.vars", laid_lariat_lariathand_vars), ("lariat/lariathand.procs", laid_lariat_lariathand_procs), ("lariat/lariathand.locs", laid_lariat_lariathand_locs)] }
def ExprEvalsSaid : Prop := exprEvalsRow.holds Tryd.pinned (OpenSpec.ofChange exprEvalsSpec)

/-- ITS FALSE NEIGHBOUR: 'it returns false'. Refute it at one input. -/
def exprEvalsWrong : ChangeSpec := { name := "exprEvals", fn := fun _ => fun
  | [d1, d2, d3, d4, d5] => { results := [.lit (.bool false)], args := [d1, d2, d3, d4, d5] }
  | _ => none }
def ExprEvalsWrongFalsely : Prop := exprEvalsRow.holds Tryd.pinned (OpenSpec.ofChange exprEvalsWrong)

/-- 'lariatlaw8.ExprLaws': WHATEVER THE INPUT: true; the input reads as it did. -/
def exprLawsSpec : ChangeSpec := { name := "exprLaws", fn := fun _ => fun
  | [d1, d2, d3, d4, d5] => { results := [.lit (.bool true)], args := [d1, d2, d3, d4, d5] }
  | _ => none }
def exprLawsRow : OpenClaim := { program := "ytkmpkebaloejhaadoor", sum := "328673617318c19a532156c85c0b609f853c7865d9cef6e81b85f54adcfcb89e", func := "lariat/lariatlaw8.ExprLaws", spec := "exprLaws", unfollowed := true, recurses := true, named := ["internal/strconv.uint64pow10", "math/bits.deBruijn32tab", "math/bits.deBruijn64tab", "lariat/lariathand.procs", "lariat/lariathand.locs", "lariat/lariathand.vars"], apart := false, laid := [("math/bits.deBruijn32tab", laid_math_bits_deBruijn32tab), ("math/bits.deBruijn64tab", laid_math_bits_deBruijn64tab), ("internal/strconv.uint64pow10", laid_internal_strconv_uint64pow10), ("lariat/lariathand.vars", laid_lariat_lariathand_vars), ("lariat/lariathand.procs", laid_lariat_lariathand_procs), ("lariat/lariathand.locs", laid_lariat_lariathand_locs)] }
def ExprLawsSaid : Prop := exprLawsRow.holds Tryd.pinned (OpenSpec.ofChange exprLawsSpec)

/-- ITS FALSE NEIGHBOUR: 'it returns false'. Refute it at one input. -/
def exprLawsWrong : ChangeSpec := { name := "exprLaws", fn := fun _ => fun
  | [d1, d2, d3, d4, d5] => { results := [.lit (.bool false)], args := [d1, d2, d3, d4, d5] }
  | _ => none }
def ExprLawsWrongFalsely : Prop := exprLawsRow.holds Tryd.pinned (OpenSpec.ofChange exprLawsWrong)

/-- 'lariatlaw8.ExprRight': WHATEVER THE INPUT: true; the input reads as it did. -/
def exprRightSpec : ChangeSpec := { name := "exprRight", fn := fun _ => fun
  | [d1, d2, d3, d4, d5, d6, d7] => { results := [.lit (.bool true)], args := [d1, d2, d3, d4, d5, d6, d7] }
  | _ => none }
def exprRightRow : OpenClaim := { program := "ytkmpkebaloejhaadoor", sum := "328673617318c19a532156c85c0b609f853c7865d9cef6e81b85f54adcfcb89e", func := "lariat/lariatlaw8.ExprRight", spec := "exprRight", unfollowed := true, recurses := true, named := ["internal/strconv.uint64pow10", "math/bits.deBruijn32tab", "math/bits.deBruijn64tab", "lariat/lariathand.procs", "lariat/lariathand.locs", "lariat/lariathand.vars"], apart := false, laid := [("math/bits.deBruijn32tab", laid_math_bits_deBruijn32tab), ("math/bits.deBruijn64tab", laid_math_bits_deBruijn64tab), ("internal/strconv.uint64pow10", laid_internal_strconv_uint64pow10), ("lariat/lariathand.vars", laid_lariat_lariathand_vars), ("lariat/lariathand.procs", laid_lariat_lariathand_procs), ("lariat/lariathand.locs", laid_lariat_lariathand_locs)] }
def ExprRightSaid : Prop := exprRightRow.holds Tryd.pinned (OpenSpec.ofChange exprRightSpec)

/-- ITS FALSE NEIGHBOUR: 'it returns false'. Refute it at one input. -/
def exprRightWrong : ChangeSpec := { name := "exprRight", fn := fun _ => fun
  | [d1, d2, d3, d4, d5, d6, d7] => { results := [.lit (.bool false)], args := [d1, d2, d3, d4, d5, d6, d7] }
  | _ => none }
def ExprRightWrongFalsely : Prop := exprRightRow.holds Tryd.pinned (OpenSpec.ofChange exprRightWrong)

/-- 'lariatlaw13.FormulaKids': WHATEVER THE INPUT: true; the input reads as it did. -/
def formulaKidsSpec : ChangeSpec := { name := "formulaKids", fn := fun _ => fun
  | [d] => { results := [.lit (.bool true)], args := [d] }
  | _ => none }
def formulaKidsRow : OpenClaim := { program := "ytkmpkebaloejhaadoor", sum := "328673617318c19a532156c85c0b609f853c7865d9cef6e81b85f54adcfcb89e", func := "lariat/lariatlaw13.FormulaKids", spec := "formulaKids", unfollowed := true, recurses := true, named := ["internal/strconv.uint64pow10", "math/bits.deBruijn32tab", "math/bits.deBruijn64tab"], apart := false, laid := [("math/bits.deBruijn32tab", laid_math_bits_deBruijn32tab), ("math/bits.deBruijn64tab", laid_math_bits_deBruijn64tab), ("internal/strconv.uint64pow10", laid_internal_strconv_uint64pow10)] }
def FormulaKidsSaid : Prop := formulaKidsRow.holds Tryd.pinned (OpenSpec.ofChange formulaKidsSpec)

/-- ITS FALSE NEIGHBOUR: 'it returns false'. Refute it at one input. -/
def formulaKidsWrong : ChangeSpec := { name := "formulaKids", fn := fun _ => fun
  | [d] => { results := [.lit (.bool false)], args := [d] }
  | _ => none }
def FormulaKidsWrongFalsely : Prop := formulaKidsRow.holds Tryd.pinned (OpenSpec.ofChange formulaKidsWrong)

/-- 'lariatlaw13.FormulaBack': WHATEVER THE INPUT: true; the input reads as it did. -/
def formulaBackSpec : ChangeSpec := { name := "formulaBack", fn := fun _ => fun
  | [d1, d2] => { results := [.lit (.bool true)], args := [d1, d2] }
  | _ => none }
def formulaBackRow : OpenClaim := { program := "ytkmpkebaloejhaadoor", sum := "328673617318c19a532156c85c0b609f853c7865d9cef6e81b85f54adcfcb89e", func := "lariat/lariatlaw13.FormulaBack", spec := "formulaBack", unfollowed := true, recurses := true, named := ["internal/strconv.uint64pow10", "math/bits.deBruijn32tab", "math/bits.deBruijn64tab"], apart := false, laid := [("math/bits.deBruijn32tab", laid_math_bits_deBruijn32tab), ("math/bits.deBruijn64tab", laid_math_bits_deBruijn64tab), ("internal/strconv.uint64pow10", laid_internal_strconv_uint64pow10)] }
def FormulaBackSaid : Prop := formulaBackRow.holds Tryd.pinned (OpenSpec.ofChange formulaBackSpec)

/-- ITS FALSE NEIGHBOUR: 'it returns false'. Refute it at one input. -/
def formulaBackWrong : ChangeSpec := { name := "formulaBack", fn := fun _ => fun
  | [d1, d2] => { results := [.lit (.bool false)], args := [d1, d2] }
  | _ => none }
def FormulaBackWrongFalsely : Prop := formulaBackRow.holds Tryd.pinned (OpenSpec.ofChange formulaBackWrong)

/-- 'lariatlaw13.FormulaBlanks': WHATEVER THE INPUT: true; the input reads as it did. -/
def formulaBlanksSpec : ChangeSpec := { name := "formulaBlanks", fn := fun _ => fun
  | [d1, d2] => { results := [.lit (.bool true)], args := [d1, d2] }
  | _ => none }
def formulaBlanksRow : OpenClaim := { program := "ytkmpkebaloejhaadoor", sum := "328673617318c19a532156c85c0b609f853c7865d9cef6e81b85f54adcfcb89e", func := "lariat/lariatlaw13.FormulaBlanks", spec := "formulaBlanks", unfollowed := true, recurses := true, named := ["internal/strconv.uint64pow10", "math/bits.deBruijn32tab", "math/bits.deBruijn64tab"], apart := false, laid := [("math/bits.deBruijn32tab", laid_math_bits_deBruijn32tab), ("math/bits.deBruijn64tab", laid_math_bits_deBruijn64tab), ("internal/strconv.uint64pow10", laid_internal_strconv_uint64pow10)] }
def FormulaBlanksSaid : Prop := formulaBlanksRow.holds Tryd.pinned (OpenSpec.ofChange formulaBlanksSpec)

/-- ITS FALSE NEIGHBOUR: 'it returns false'. Refute it at one input. -/
def formulaBlanksWrong : ChangeSpec := { name := "formulaBlanks", fn := fun _ => fun
  | [d1, d2] => { results := [.lit (.bool false)], args := [d1, d2] }
  | _ => none }
def FormulaBlanksWrongFalsely : Prop := formulaBlanksRow.holds Tryd.pinned (OpenSpec.ofChange formulaBlanksWrong)

/-- 'lariatlaw13.FormulaKnown': WHATEVER THE INPUT: true; the input reads as it did. -/
def formulaKnownSpec : ChangeSpec := { name := "formulaKnown", fn := fun _ => fun
  | [] => { results := [.lit (.bool true)], args := [] }
  | _ => none }
def formulaKnownRow : OpenClaim := { program := "ytkmpkebaloejhaadoor", sum := "328673617318c19a532156c85c0b609f853c7865d9cef6e81b85f54adcfcb89e", func := "lariat/lariatlaw13.FormulaKnown", spec := "formulaKnown", unfollowed := true, recurses := true, named := ["internal/strconv.uint64pow10", "math/bits.deBruijn32tab", "math/bits.deBruijn64tab"], apart := false, laid := [("math/bits.deBruijn32tab", laid_math_bits_deBruijn32tab), ("math/bits.deBruijn64tab", laid_math_bits_deBruijn64tab), ("internal/strconv.uint64pow10", laid_internal_strconv_uint64pow10)] }
def FormulaKnownSaid : Prop := formulaKnownRow.holds Tryd.pinned (OpenSpec.ofChange formulaKnownSpec)

/-- ITS FALSE NEIGHBOUR: 'it returns false'. Refute it at one input. -/
def formulaKnownWrong : ChangeSpec := { name := "formulaKnown", fn := fun _ => fun
  | [] => { results := [.lit (.bool false)], args := [] }
  | _ => none }
def FormulaKnownWrongFalsely : Prop := formulaKnownRow.holds Tryd.pinned (OpenSpec.ofChange formulaKnownWrong)

/- THE SECOND FORM. 'bulk': how many values and letters a reading holds, each counted each time it is reached (what is shared counts as often as it is met; a slice's spare places count too). A statement '..UptoSaid' is the law's where the arguments, and the package variables that the reading takes, are together of bulk at most 1048576: NARROWER than '..Said'. Prove '..Said' where nothing that the law and all that it calls make is longer than what came in: it says more and counts as full. Else prove '..UptoSaid'. A law counts once. -/
mutual
def uptoBulk {H : Type} : DataW H → Nat
  | .lit (.string bytes) => bytes.length + 1
  | .lit _ => 1
  | .nil => 1
  | .ptr d => uptoBulk d + 1
  | .slice elems spare => uptoBulkAll elems + uptoBulkAll spare + 1
  | .agg parts => uptoBulkAll parts + 1
  | .iface _ d => uptoBulk d + 1
  | .map entries => uptoBulkEntries entries + 1
  | .held _ => 1
def uptoBulkAll {H : Type} : List (DataW H) → Nat
  | [] => 0
  | d :: r => uptoBulk d + uptoBulkAll r
def uptoBulkEntries {H : Type} : List (Lit × DataW H) → Nat
  | [] => 0
  | x :: r => uptoBulkEntry x + uptoBulkEntries r
def uptoBulkEntry {H : Type} : Lit × DataW H → Nat
  | (.string bytes, d) => bytes.length + uptoBulk d + 1
  | (_, d) => uptoBulk d + 1
 end
def uptoSmall : (H : Type) → List (DataW H) → Bool := fun _ ds => decide (uptoBulkAll ds ≤ 1048576)
def OpenSpec.upto (s : _root_.Go.ChangeSpec) : _root_.Go.OpenSpec := { _root_.Go.OpenSpec.ofChange s with cond := some uptoSmall }

/-- 'lariatlaw8.ExprTells', WHERE WHAT IT READS IS OF BULK AT MOST 1048576: true; the input reads as it did. -/
def exprTellsUptoRow : OpenClaim := { program := "ytkmpkebaloejhaadoor", sum := "328673617318c19a532156c85c0b609f853c7865d9cef6e81b85f54adcfcb89e", func := "lariat/lariatlaw8.ExprTells", spec := "exprTells", unfollowed := true, recurses := true, named := ["internal/strconv.uint64pow10", "math/bits.deBruijn32tab", "math/bits.deBruijn64tab", "lariat/lariathand.procs", "lariat/lariathand.locs", "lariat/lariathand.vars"], apart := false, laid := [("math/bits.deBruijn32tab", laid_math_bits_deBruijn32tab), ("math/bits.deBruijn64tab", laid_math_bits_deBruijn64tab), ("internal/strconv.uint64pow10", laid_internal_strconv_uint64pow10), ("lariat/lariathand.vars", laid_lariat_lariathand_vars), ("lariat/lariathand.procs", laid_lariat_lariathand_procs), ("lariat/lariathand.locs", laid_lariat_lariathand_locs)], narrowed := true }
def ExprTellsUptoSaid : Prop := exprTellsUptoRow.holds Tryd.pinned (OpenSpec.upto exprTellsSpec)

/-- 'lariatlaw8.ExprBack', WHERE WHAT IT READS IS OF BULK AT MOST 1048576: true; the input reads as it did. -/
def exprBackUptoRow : OpenClaim := { program := "ytkmpkebaloejhaadoor", sum := "328673617318c19a532156c85c0b609f853c7865d9cef6e81b85f54adcfcb89e", func := "lariat/lariatlaw8.ExprBack", spec := "exprBack", unfollowed := true, recurses := true, named := ["internal/strconv.uint64pow10", "math/bits.deBruijn32tab", "math/bits.deBruijn64tab", "lariat/lariathand.procs", "lariat/lariathand.locs", "lariat/lariathand.vars"], apart := false, laid := [("math/bits.deBruijn32tab", laid_math_bits_deBruijn32tab), ("math/bits.deBruijn64tab", laid_math_bits_deBruijn64tab), ("internal/strconv.uint64pow10", laid_internal_strconv_uint64pow10), ("lariat/lariathand.vars", laid_lariat_lariathand_vars), ("lariat/lariathand.procs", laid_lariat_lariathand_procs), ("lariat/lariathand.locs", laid_lariat_lariathand_locs)], narrowed := true }
def ExprBackUptoSaid : Prop := exprBackUptoRow.holds Tryd.pinned (OpenSpec.upto exprBackSpec)

/-- 'lariatlaw8.ExprBlanks', WHERE WHAT IT READS IS OF BULK AT MOST 1048576: true; the input reads as it did. -/
def exprBlanksUptoRow : OpenClaim := { program := "ytkmpkebaloejhaadoor", sum := "328673617318c19a532156c85c0b609f853c7865d9cef6e81b85f54adcfcb89e", func := "lariat/lariatlaw8.ExprBlanks", spec := "exprBlanks", unfollowed := true, recurses := true, named := ["internal/strconv.uint64pow10", "math/bits.deBruijn32tab", "math/bits.deBruijn64tab", "lariat/lariathand.procs", "lariat/lariathand.locs", "lariat/lariathand.vars"], apart := false, laid := [("math/bits.deBruijn32tab", laid_math_bits_deBruijn32tab), ("math/bits.deBruijn64tab", laid_math_bits_deBruijn64tab), ("internal/strconv.uint64pow10", laid_internal_strconv_uint64pow10), ("lariat/lariathand.vars", laid_lariat_lariathand_vars), ("lariat/lariathand.procs", laid_lariat_lariathand_procs), ("lariat/lariathand.locs", laid_lariat_lariathand_locs)], narrowed := true }
def ExprBlanksUptoSaid : Prop := exprBlanksUptoRow.holds Tryd.pinned (OpenSpec.upto exprBlanksSpec)

/-- 'lariatlaw8.ExprKnown', WHERE WHAT IT READS IS OF BULK AT MOST 1048576: true; the input reads as it did. -/
def exprKnownUptoRow : OpenClaim := { program := "ytkmpkebaloejhaadoor", sum := "328673617318c19a532156c85c0b609f853c7865d9cef6e81b85f54adcfcb89e", func := "lariat/lariatlaw8.ExprKnown", spec := "exprKnown", unfollowed := true, recurses := true, named := ["internal/strconv.uint64pow10", "math/bits.deBruijn32tab", "math/bits.deBruijn64tab"], apart := false, laid := [("math/bits.deBruijn32tab", laid_math_bits_deBruijn32tab), ("math/bits.deBruijn64tab", laid_math_bits_deBruijn64tab), ("internal/strconv.uint64pow10", laid_internal_strconv_uint64pow10)], narrowed := true }
def ExprKnownUptoSaid : Prop := exprKnownUptoRow.holds Tryd.pinned (OpenSpec.upto exprKnownSpec)

/-- 'lariatlaw8.ExprEvals', WHERE WHAT IT READS IS OF BULK AT MOST 1048576: true; the input reads as it did. -/
def exprEvalsUptoRow : OpenClaim := { program := "ytkmpkebaloejhaadoor", sum := "328673617318c19a532156c85c0b609f853c7865d9cef6e81b85f54adcfcb89e", func := "lariat/lariatlaw8.ExprEvals", spec := "exprEvals", unfollowed := true, recurses := true, named := ["internal/strconv.uint64pow10", "math/bits.deBruijn32tab", "math/bits.deBruijn64tab", "lariat/lariathand.procs", "lariat/lariathand.locs", "lariat/lariathand.vars"], apart := false, laid := [("math/bits.deBruijn32tab", laid_math_bits_deBruijn32tab), ("math/bits.deBruijn64tab", laid_math_bits_deBruijn64tab), ("internal/strconv.uint64pow10", laid_internal_strconv_uint64pow10), ("lariat/lariathand.vars", laid_lariat_lariathand_vars), ("lariat/lariathand.procs", laid_lariat_lariathand_procs), ("lariat/lariathand.locs", laid_lariat_lariathand_locs)], narrowed := true }
def ExprEvalsUptoSaid : Prop := exprEvalsUptoRow.holds Tryd.pinned (OpenSpec.upto exprEvalsSpec)

/-- 'lariatlaw8.ExprLaws', WHERE WHAT IT READS IS OF BULK AT MOST 1048576: true; the input reads as it did. -/
def exprLawsUptoRow : OpenClaim := { program := "ytkmpkebaloejhaadoor", sum := "328673617318c19a532156c85c0b609f853c7865d9cef6e81b85f54adcfcb89e", func := "lariat/lariatlaw8.ExprLaws", spec := "exprLaws", unfollowed := true, recurses := true, named := ["internal/strconv.uint64pow10", "math/bits.deBruijn32tab", "math/bits.deBruijn64tab", "lariat/lariathand.procs", "lariat/lariathand.locs", "lariat/lariathand.vars"], apart := false, laid := [("math/bits.deBruijn32tab", laid_math_bits_deBruijn32tab), ("math/bits.deBruijn64tab", laid_math_bits_deBruijn64tab), ("internal/strconv.uint64pow10", laid_internal_strconv_uint64pow10), ("lariat/lariathand.vars", laid_lariat_lariathand_vars), ("lariat/lariathand.procs", laid_lariat_lariathand_procs), ("lariat/lariathand.locs", laid_lariat_lariathand_locs)], narrowed := true }
def ExprLawsUptoSaid : Prop := exprLawsUptoRow.holds Tryd.pinned (OpenSpec.upto exprLawsSpec)

/-- 'lariatlaw8.ExprRight', WHERE WHAT IT READS IS OF BULK AT MOST 1048576: true; the input reads as it did. -/
def exprRightUptoRow : OpenClaim := { program := "ytkmpkebaloejhaadoor", sum := "328673617318c19a532156c85c0b609f853c7865d9cef6e81b85f54adcfcb89e", func := "lariat/lariatlaw8.ExprRight", spec := "exprRight", unfollowed := true, recurses := true, named := ["internal/strconv.uint64pow10", "math/bits.deBruijn32tab", "math/bits.deBruijn64tab", "lariat/lariathand.procs", "lariat/lariathand.locs", "lariat/lariathand.vars"], apart := false, laid := [("math/bits.deBruijn32tab", laid_math_bits_deBruijn32tab), ("math/bits.deBruijn64tab", laid_math_bits_deBruijn64tab), ("internal/strconv.uint64pow10", laid_internal_strconv_uint64pow10), ("lariat/lariathand.vars", laid_lariat_lariathand_vars), ("lariat/lariathand.procs", laid_lariat_lariathand_procs), ("lariat/lariathand.locs", laid_lariat_lariathand_locs)], narrowed := true }
def ExprRightUptoSaid : Prop := exprRightUptoRow.holds Tryd.pinned (OpenSpec.upto exprRightSpec)

/-- 'lariatlaw13.FormulaKids', WHERE WHAT IT READS IS OF BULK AT MOST 1048576: true; the input reads as it did. -/
def formulaKidsUptoRow : OpenClaim := { program := "ytkmpkebaloejhaadoor", sum := "328673617318c19a532156c85c0b609f853c7865d9cef6e81b85f54adcfcb89e", func := "lariat/lariatlaw13.FormulaKids", spec := "formulaKids", unfollowed := true, recurses := true, named := ["internal/strconv.uint64pow10", "math/bits.deBruijn32tab", "math/bits.deBruijn64tab"], apart := false, laid := [("math/bits.deBruijn32tab", laid_math_bits_deBruijn32tab), ("math/bits.deBruijn64tab", laid_math_bits_deBruijn64tab), ("internal/strconv.uint64pow10", laid_internal_strconv_uint64pow10)], narrowed := true }
def FormulaKidsUptoSaid : Prop := formulaKidsUptoRow.holds Tryd.pinned (OpenSpec.upto formulaKidsSpec)

/-- 'lariatlaw13.FormulaBack', WHERE WHAT IT READS IS OF BULK AT MOST 1048576: true; the input reads as it did. -/
def formulaBackUptoRow : OpenClaim := { program := "ytkmpkebaloejhaadoor", sum := "328673617318c19a532156c85c0b609f853c7865d9cef6e81b85f54adcfcb89e", func := "lariat/lariatlaw13.FormulaBack", spec := "formulaBack", unfollowed := true, recurses := true, named := ["internal/strconv.uint64pow10", "math/bits.deBruijn32tab", "math/bits.deBruijn64tab"], apart := false, laid := [("math/bits.deBruijn32tab", laid_math_bits_deBruijn32tab), ("math/bits.deBruijn64tab", laid_math_bits_deBruijn64tab), ("internal/strconv.uint64pow10", laid_internal_strconv_uint64pow10)], narrowed := true }
def FormulaBackUptoSaid : Prop := formulaBackUptoRow.holds Tryd.pinned (OpenSpec.upto formulaBackSpec)

/-- 'lariatlaw13.FormulaBlanks', WHERE WHAT IT READS IS OF BULK AT MOST 1048576: true; the input reads as it did. -/
def formulaBlanksUptoRow : OpenClaim := { program := "ytkmpkebaloejhaadoor", sum := "328673617318c19a532156c85c0b609f853c7865d9cef6e81b85f54adcfcb89e", func := "lariat/lariatlaw13.FormulaBlanks", spec := "formulaBlanks", unfollowed := true, recurses := true, named := ["internal/strconv.uint64pow10", "math/bits.deBruijn32tab", "math/bits.deBruijn64tab"], apart := false, laid := [("math/bits.deBruijn32tab", laid_math_bits_deBruijn32tab), ("math/bits.deBruijn64tab", laid_math_bits_deBruijn64tab), ("internal/strconv.uint64pow10", laid_internal_strconv_uint64pow10)], narrowed := true }
def FormulaBlanksUptoSaid : Prop := formulaBlanksUptoRow.holds Tryd.pinned (OpenSpec.upto formulaBlanksSpec)

/-- 'lariatlaw13.FormulaKnown', WHERE WHAT IT READS IS OF BULK AT MOST 1048576: true; the input reads as it did. -/
def formulaKnownUptoRow : OpenClaim := { program := "ytkmpkebaloejhaadoor", sum := "328673617318c19a532156c85c0b609f853c7865d9cef6e81b85f54adcfcb89e", func := "lariat/lariatlaw13.FormulaKnown", spec := "formulaKnown", unfollowed := true, recurses := true, named := ["internal/strconv.uint64pow10", "math/bits.deBruijn32tab", "math/bits.deBruijn64tab"], apart := false, laid := [("math/bits.deBruijn32tab", laid_math_bits_deBruijn32tab), ("math/bits.deBruijn64tab", laid_math_bits_deBruijn64tab), ("internal/strconv.uint64pow10", laid_internal_strconv_uint64pow10)], narrowed := true }
def FormulaKnownUptoSaid : Prop := formulaKnownUptoRow.holds Tryd.pinned (OpenSpec.upto formulaKnownSpec)

end Rows
end Go.Proofs.YtkmpkebaloejhaaDoor
