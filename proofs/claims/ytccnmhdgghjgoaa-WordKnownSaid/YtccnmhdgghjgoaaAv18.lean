/- From what a law answers to what its row asks. Conditions: none. -/
import Derived.Test.YtccnmhdgghjgoaaAv17
import Derived.Below
namespace Go.Proofs.Ytccnmhdgghjgoaa.Av
open Go Go.RowKit
def glIn:List (Nat×List CV)→Nat→Option (List CV)
 | [],_=>none
 | p::r,g=>bif Nat.beq p.1 g then some p.2 else glIn r g
def gl0 (g:Nat):Option (List CV):=glIn glL g
theorem walk_gl {f:Nat} {args:List AV} {objs':Objs} (h:Spec Try.prog gl0 f args [] (.c (.bool true)) objs') (w:World) (vs:Array Value) (hgl:GlR (fun k=>k<w.heap.size) w gl0) (ha:∀ ρ,All2 (AVR (fun k=>k<w.heap.size) ρ w []) args vs.toList) :
  Calls Try.prog f vs w fun e w'=>e=.returned (.bool true)∧Below w.heap.size w w':=by
 refine (h.2 (fun k=>k<w.heap.size) (fun k=>k<w.heap.size) (fun _=>undef) w vs hgl ?_ (ha _)).mono fun e w' he=>?_
 ·exact ⟨fun i o ho=>(by cases ho),fun i j g _ hi=>(by cases hi),fun _ h=>h,fun _ h=>h⟩
 ·obtain ⟨V,ρ',fz',rfl,hv,_,hf,_⟩:=he
  have hv:V=.bool true:=hv
  subst hv
  exact ⟨rfl,hf.os,hf.tape,hf.output,hf.size,fun k hk=>hf.oldw k hk⟩
theorem walk_of {f:Nat} {args:List AV} {objs':Objs} (h:Spec Try.prog gl0 f args [] (.c (.bool true)) objs') (w:World) (vs:Array Value) (ha:∀ ρ,All2 (AVR (fun k=>k<w.heap.size) ρ w []) args vs.toList) (hn:glL=[]:=by rfl) :
  Calls Try.prog f vs w fun e w'=>e=.returned (.bool true)∧Below w.heap.size w w':=
 walk_gl h w vs (by unfold GlR gl0;rw [hn];exact fun g cells hg=>by cases hg) ha
end Go.Proofs.Ytccnmhdgghjgoaa.Av
