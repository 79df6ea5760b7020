/- A region's order with operations that only make objects: they may be done at any time. Conditions: none. -/
import Derived.Test.YtkmpkebaloejhaaGreatDoorAv28
namespace Go.Proofs.YtkmpkebaloejhaaGreatDoor.Av
open Go
theorem freshOf_put {τ:Nat→Option TI} {gl:Nat→Option (List CV)} {o:Oper} {ds:List Nat} (h:indepB o ds=true) {d:Nat} (hd:d∈ds) (u:Nat) (v:AV) (env:List AV):freshOf τ gl u o (eput (some d) v env)=freshOf τ gl u o env:=by
 unfold indepB at h
 unfold freshOf
 split
 ·rename_i t len parts hop
  rw [hop] at h
  have hm:(parts.toList.map fun p=>(p.1,rdop gl p.2 (eput (some d) v env)))=parts.toList.map fun p=>(p.1,rdop gl p.2 env):=List.map_congr_left fun p hp=>by
   have:=List.all_eq_true.1 h p hp
   cases hx:p.2 with
   | tmp t=>
     rw [hx] at this
     have hne:t≠d:=fun e=>by subst e;simp [hd] at this
     show (p.1,(eput (some d) v env).getD t (.c .bot))=(p.1,env.getD t (.c .bot))
     rw [qev hne]
   | const c=>rfl
   | global g=>rfl
   | func f=>rfl
  rw [hm]
 ·rfl
 ·rfl
theorem getD_tf {L:Array Bool} {x:Nat}:L.getD x true=false↔x<L.size∧L.getD x false=false:=by
 simp only [Array.getD_eq_getD_getElem?]
 by_cases h:x<L.size
 ·simp [h]
 ·simp [Array.getElem?_eq_none (show L.size≤x by omega),h]
section
variable {R:Type} {old fz0:Nat→Prop} {ρ0:Nat→Value} {w0:World} {objs0:Objs} {r:R} {P:Program} {τ:Nat→Option TI} {B:Ops} {gl:Nat→Option (List CV)}
 {G:Nat→List AV→Objs→(AV→Objs→Option R)→Option R} {owns:Nat→Nat→Bool}
structure MS (gl:Nat→Option (List CV)) (old fz0:Nat→Prop) (ρ0:Nat→Value) (w0:World) (objs0:Objs) (τ:Nat→Option TI) (ops:Array Oper) (base:Nat) (watch:List (Nat×Nat)) (T:Nat→Nat→Prop) (ds:List Nat) (D:List Fr) (Lc La:Array Bool) (env envC:List AV) (objs objsC:Objs) (a:Act) (w:World) (fz:Nat→Prop) (ρ:Nat→Value):Prop where
 st:St gl old fz0 ρ0 w0 objs0 fz ρ envC objsC a w
 hw:∀ p∈watch,∃ o,oget objsC p.2=some o
 sz:Lc.size=La.size
 li:∀ x,Lc.getD x false=(La.getD x false && !(D.map (·.1)).contains x)
 ndi:(D.map (·.1)).Nodup
 aft:∀ x,Lc.getD x false=true→∀ f∈D,afterOf ops x f.1=false
 rdy:∀ f∈D,f.1∈Region.ready .any ops Lc
 inn:∀ f∈D,La.getD f.1 false=true
 ndk:((rowsOf D).map (·.1)).Nodup
 ab:∀ p∈rowsOf D,oget objsC p.1=none
 ob:objs=addR (rowsOf D) objsC
 len:envC.length=env.length
 en:∀ d,envC.getD d (.c .bot)=env.getD d (.c .bot)∨(envC.getD d (.c .bot)=.c .bot∧∃ f∈D,f.2.1=d)
 ev:∀ f∈D,env.getD f.2.1 (.c .bot)=f.2.2.1
 ndd:(D.map (·.2.1)).Nodup
 fr:∀ f∈D,f.2.1∈ds∧∃ o,ops[f.1]?=some o∧o.guard=none∧o.dst=some f.2.1∧indepB o ds=true∧freshOf τ gl (100*(base+f.1)) o envC=some (f.2.2.1,f.2.2.2)∧(∀ p∈f.2.2.2,∀ e t xs,p.2≠.froz e t xs)∧∃ p∈f.2.2.2,f.2.2.1=.c (.own p.1)∨f.2.2.1=.c (.ptr p.1 0)
 hts:∀ f∈D,∀ g,T f.1 g→g<w.heap.size
 htp:∀ j g,Lc.getD j true=false→T j g→Prot old fz ρ watch j g
end
end Go.Proofs.YtkmpkebaloejhaaGreatDoor.Av
