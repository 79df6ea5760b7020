/- From what a law answers to what its row asks. Conditions: none. -/
import Derived.Test.YtkmpkebaloejhaaGreatDoorAv17
import Derived.Below
namespace Go.Proofs.YtkmpkebaloejhaaGreatDoor.Av
open Go Go.RowKit
def glIn:List (Nat×List CV)→Nat→Option (List CV)
 | [],_=>none
 | p::r,g=>bif Nat.beq p.1 g then some p.2 else glIn r g
def gl0 (g:Nat):Option (List CV):=glIn glL g
theorem glr_of {fz:Nat→Prop} {w:World}:∀ {l:List (Nat×List CV)},(∀ p∈l,(∀ ρ objs,AVR fz ρ w objs (.eltv p.2) (.pointer (some ⟨p.1,0,none⟩)))∧Whole fz w p.1 p.2.length)→GlR fz w (glIn l)
 | [],_=>fun g cells hg=>by cases hg
 | p::l,h=>fun g cells hg=>by
   simp only [glIn] at hg
   cases hb:Nat.beq p.1 g with
   | true=>
     rw [hb] at hg
     cases hg
     have:=Nat.eq_of_beq_eq_true hb
     subst this
     exact h p (List.mem_cons_self ..)
   | false=>
     rw [hb] at hg
     exact glr_of (fun q hq=>h q (List.mem_cons_of_mem _ hq)) g cells hg
theorem walk_gl {f:Nat} {args:List AV} {objs':Objs} (h:Spec Tryz.prog gl0 f args [] (.c (.bool true)) objs') (w:World) (vs:Array Value) (hgl:GlR (fun k=>k<w.heap.size) w gl0) (ha:∀ ρ,All2 (AVR (fun k=>k<w.heap.size) ρ w []) args vs.toList) :
  Calls Tryz.prog f vs w fun e w'=>e=.returned (.bool true)∧Below w.heap.size w w':=by
 refine (h.2 (fun k=>k<w.heap.size) (fun k=>k<w.heap.size) (fun _=>undef) w vs hgl ?_ (ha _)).mono fun e w' he=>?_
 ·exact ⟨fun i o ho=>(by cases ho),fun i j g _ hi=>(by cases hi),fun _ h=>h,fun _ h=>h⟩
 ·obtain ⟨V,ρ',fz',rfl,hv,_,hf,_⟩:=he
  have hv:V=.bool true:=hv
  subst hv
  exact ⟨rfl,hf.os,hf.tape,hf.output,hf.size,fun k hk=>hf.oldw k hk⟩
end Go.Proofs.YtkmpkebaloejhaaGreatDoor.Av
