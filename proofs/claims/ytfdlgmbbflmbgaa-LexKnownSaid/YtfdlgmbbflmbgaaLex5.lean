/- LexKnown: it answers true. Conditions: none. -/
import Derived.Test.YtfdlgmbbflmbgaaLex4
set_option linter.unusedVariables false
set_option linter.unusedSimpArgs false
namespace Go.Proofs.Ytfdlgmbbflmbgaa.Av
open Go Go.RowKit

/-- has a list more than n elements? -/
def longer {α : Type} : Nat → List α → Bool
  | _, [] => false
  | 0, _ :: _ => true
  | n + 1, _ :: r => longer n r
theorem longer_eq {α : Type} : ∀ (n : Nat) (l : List α), longer n l = decide (n < l.length)
  | n, [] => by cases n <;> rfl
  | 0, _ :: _ => by simp [longer]
  | n + 1, _ :: r => by rw [longer, longer_eq n r]; simp
def lexQ (s : List UInt8) : List Tok × (Int × Int) := cond (longer 60000 s) ([], 14, 0) (lexGo s (s.length + 1) 0 [])
theorem lexQ_eq : lexQ = lexF := by funext s; rw [lexQ, longer_eq, lexF]

def gK {R : Type} : Gam R := ent 13 (eLex lexF) gnil
theorem gK_ok {R : Type} : GOk Try.prog gl0 (gK (R := R)) := ent_ok eLex_ok gnil_ok
theorem known_spec : Spec Try.prog gl0 11 [] [] (.c (.bool true)) [] := by
  refine spec_of (G := gK) gK_ok 1 (fn := Try.f11) (by kernel_rfl) (by kernel_rfl) ?_
  kernel_rfl
def eKnown {R : Type} : Ent R
  | [], [], k => k (.c (.bool true)) []
  | _, _, _ => none
theorem eKnown_ok {R : Type} : EOk 11 (eKnown (R := R)) := fun args objs k r h => by
  unfold eKnown at h
  split at h
  · exact ⟨_, _, h, known_spec⟩
  · cases h
def gLK {R : Type} (lx : List UInt8 → List Tok × (Int × Int)) : Gam R := ent 11 eKnown (ent 13 (eLex lx) (ent 14 eIsWord gnil))
theorem gLK_ok {R : Type} : GOk Try.prog gl0 (gLK (R := R) lexQ) := by rw [lexQ_eq]; exact ent_ok eKnown_ok (ent_ok eLex_ok (ent_ok eIsWord_ok gnil_ok))
theorem lexKnown_spec : Spec Try.prog gl0 4 [] [] (.c (.bool true)) [] := by
  refine spec_of (G := gLK lexQ) gLK_ok 1 (fn := Try.f4) (by kernel_rfl) (by kernel_rfl) ?_
  kernel_rfl
theorem lexKnown_walk (w : World) : Calls Try.prog 4 #[] w fun e w' => e = .returned (.bool true) ∧ Below w.heap.size w w' := walk_of lexKnown_spec w #[] fun _ => trivial
end Go.Proofs.Ytfdlgmbbflmbgaa.Av
