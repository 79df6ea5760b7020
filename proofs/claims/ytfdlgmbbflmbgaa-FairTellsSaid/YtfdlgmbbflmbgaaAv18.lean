/- From what a law answers to what its row asks. Conditions: none. -/
import Derived.Test.YtfdlgmbbflmbgaaAv17
import Derived.Below
set_option linter.unusedVariables false
namespace Go.Proofs.Ytfdlgmbbflmbgaa.Av
open Go Go.RowKit
def gl0 : Nat → Option (List CV) := fun _ => none
theorem walk_of {f : Nat} {args : List AV} {objs' : Objs} (h : Spec Try.prog gl0 f args [] (.c (.bool true)) objs') (w : World) (vs : Array Value) (ha : ∀ ρ, All2 (AVR (fun k => k < w.heap.size) ρ w []) args vs.toList) :
    Calls Try.prog f vs w fun e w' => e = .returned (.bool true) ∧ Below w.heap.size w w' := by
  refine (h.2 (fun k => k < w.heap.size) (fun k => k < w.heap.size) (fun _ => undef) w vs (fun g cells hg => by cases hg) ?_ (ha _)).mono fun e w' he => ?_
  · exact ⟨fun i o ho => (by cases ho), fun i j g _ hi => (by cases hi), fun _ h => h, fun _ h => h⟩
  · obtain ⟨V, ρ', fz', rfl, hv, _, hf, _⟩ := he
    have hv : V = .bool true := hv
    subst hv
    exact ⟨rfl, hf.os, hf.tape, hf.output, hf.size, fun k hk => hf.oldw k hk⟩
end Go.Proofs.Ytfdlgmbbflmbgaa.Av
