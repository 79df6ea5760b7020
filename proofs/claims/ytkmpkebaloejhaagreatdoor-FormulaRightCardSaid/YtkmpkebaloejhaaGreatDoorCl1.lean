/- Closed runs: the evaluator calls itself for the functions of a table;slices.Clone. Conditions: none. -/
import Derived.Test.YtkmpkebaloejhaaGreatDoorGen0
namespace Go.Proofs.YtkmpkebaloejhaaGreatDoor.Av
open Go
theorem clone_empty {f e:Nat} {t:Ty} (h1:∀ b,Spec Tryz.prog gl0 f [.nz e t (some b)] [] (.c (.own 500)) [(500,.row e t [])]) :
  Spec Tryz.prog gl0 f [.c (.list e t [])] [] (.c (.own 500)) [(500,.row e t [])]:=by
 refine ⟨(h1 true).1,fun old fz ρ w vs hg ho ha=>?_⟩
 obtain ⟨vl⟩:=vs
 cases vl with
 | nil=>exact ha.elim
 | cons V l=>
   cases l with
   | cons=>exact ha.2.elim
   | nil=>
     obtain ⟨A,c,hV,_,hc,_⟩:=ha.1
     simp only [List.length_nil,List.cons.injEq,and_true] at hV
     subst hV
     exact (h1 A.isNone).2 old fz ρ w #[.slice A 0 c] hg ho ⟨⟨A,c,rfl,hc,fun b hb=>by cases hb;rfl⟩,trivial⟩
def cloneT {R:Type} (B:Ops) (e bytes:Nat) (t:Ty) (xs:List t.den) (k:AV→Objs→Option R):Option R:=
 cond (B.lt 0 xs.length) (cond (B.lim (([]:List t.den).length+xs.length) bytes) (k (.c (.own 500)) [(500,.row e t xs)]) none) none
def fits {α:Type} (xs:List α) (bytes:Nat):Bool:=decide (xs.length*bytes≤140737488355328)
def cloneF {t:Ty} (bytes:Nat) (xs:List t.den):Option (List t.den):=cond (fits xs bytes) (some xs) none
theorem clone_sp {f e bytes:Nat} {t:Ty} (h0:∀ xs (v:AV) (o:Objs),cloneT Ops.std e bytes t xs k0=some (v,o)→Spec Tryz.prog gl0 f [.c (.list e t xs)] [] v o)
  (h1:∀ b,Spec Tryz.prog gl0 f [.nz e t (some b)] [] (.c (.own 500)) [(500,.row e t [])]) (xs y:List t.den) (hy:cloneF bytes xs=some y):Spec Tryz.prog gl0 f [.c (.list e t xs)] [] (.c (.own 500)) [(500,.row e t y)]:=by
 unfold cloneF at hy
 cases hf:fits xs bytes with
 | false=>rw [hf] at hy;cases hy
 | true=>
   rw [hf] at hy
   cases hy
   cases xs with
   | nil=>exact clone_empty h1
   | cons x xs=>
     refine h0 _ _ _ ?_
     have hl:Ops.std.lt 0 ((x::xs).length:Nat)=true:=by simp [Ops.std]
     have hm:Ops.std.lim (([]:List t.den).length+(x::xs).length) bytes=true:=by simpa [Ops.std,fits] using hf
     simp only [cloneT,hl,hm,cond_true]
end Go.Proofs.YtkmpkebaloejhaaGreatDoor.Av
