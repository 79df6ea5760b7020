/- What a row says of its listed package-level arrays: what the evaluator's table says. Conditions: none. -/
import Derived.Test.YtkmpkebaloejhaaGreatDoorRead
import Derived.OpenShut
import Derived.ChangeBears2
import Derived.MakeChecks
namespace Go.Proofs.YtkmpkebaloejhaaGreatDoor.Av
open Go
theorem laid_mem {P:Program} {w:World} {n:String} {d:DataW Unit}:∀ {l:List (String×DataW Unit)} {ps:List MemPlace},DataW.LaidVars P w l ps→(n,d)∈l→
  ∃ g t cs fuel p,P.globalNamed n=some g∧(P.globals[g]?).map (·.type)=some t∧w.var? P n=some cs∧DataW.trod (fun _=>()) P w 0 (fun _=>true) false fuel t cs.toList=some (d,p)
 | [],_,_,h=>by cases h
 | (n',d')::l,ps,⟨g,t,cs,fuel,p,q,h1,h2,h3,h4,h5,_⟩,h=>by
   rcases List.mem_cons.1 h with h | h
   ·cases h
    exact ⟨g,t,cs,fuel,p,h1,h2,h3,h4⟩
   ·exact laid_mem h5 h
theorem gl_str {P:Program} {laid:List (String×DataW Unit)} {w:World} (hL:laidMet P laid w) {n:String} {d:DataW Unit} {ss:List (List UInt8)} {g t m e:Nat} (hm:(n,d)∈laid) (hd:d=.agg (ss.map fun s=>.lit (.string s)))
  (hg:P.globalNamed n=some g) (ht:(P.globals[g]?).map (·.type)=some t) (hu:P.underlying t=some (.array m e)) (he:P.underlying e=some .string) (hc:P.cellsOf e=1) (hct:P.cellsOf t=m) :
  (∀ ρ objs,AVR (fun k=>k<w.heap.size) ρ w objs (.eltv (ss.map .str)) (.pointer (some ⟨g,0,none⟩)))∧Whole (fun k=>k<w.heap.size) w g (ss.map CV.str).length:=by
 obtain ⟨ps,hl,_,_⟩:=hL
 obtain ⟨g',t',cs,fuel,p,hg',ht',hv,hx⟩:=laid_mem hl hm
 obtain rfl:=Option.some.inj (hg.symm.trans hg')
 obtain rfl:=Option.some.inj (ht.symm.trans ht')
 obtain ⟨xs,m',rfl,hx,hlen,hn,hel⟩:=DataW.trod_array hu hx
 simp only [Prod.mk.injEq] at hx
 have hx1:=hx.1
 rw [hd] at hx1
 simp only [DataW.agg.injEq] at hx1
 have hll:ss.length=xs.length:=by have:=congrArg List.length hx1;simpa using this
 rw [hct] at hlen
 have hget:∀ i s,ss[i]?=some s→cs.toList[i]?=some (strV s):=fun i s hi=>by
  have hil:i<ss.length:=(List.getElem?_eq_some_iff.1 hi).1
  have h1:=hel i (by omega)
  have h2:xs[i]?=some xs[i]:=List.getElem?_eq_getElem (by omega)
  rw [h2,hc] at h1
  obtain ⟨b,hb,hb2,_⟩:=DataW.trod_string he h1
  have h3:(ss.map fun s=>(DataW.lit (.string s):DataW Unit))[i]?=(xs.map (·.1))[i]?:=by rw [hx1]
  rw [List.getElem?_map,List.getElem?_map,hi,h2,hb2] at h3
  simp only [Option.map_some,Option.some.injEq,DataW.lit.injEq,Lit.string.injEq] at h3
  have h4:((cs.toList.drop (i*1)).take 1)[0]?=some (.string b):=by rw [hb];rfl
  rw [List.getElem?_take_of_lt (by omega),List.getElem?_drop] at h4
  simp only [Nat.mul_one,Nat.add_zero] at h4
  rw [h4,h3]
  simp [strV]
 have hcl:ss.length=cs.toList.length:=by omega
 have hgs:g<w.heap.size:=by
  have hv':=hv
  simp only [World.var?,hg,Option.bind_some] at hv'
  cases hh:w.heap[g]? with
  | none=>rw [hh] at hv';cases hv'
  | some b=>exact (Array.getElem?_eq_some_iff.1 hh).1
 have hwh:Whole (fun k=>k<w.heap.size) w g (ss.map CV.str).length:=by
  refine ⟨hgs,?_⟩
  have hv':=hv
  simp only [World.var?,hg,Option.bind_some] at hv'
  split at hv'
  ·rename_i cs' e' b' hh
   cases hv'
   exact ⟨_,_,_,hh,by simpa using hcl.symm⟩
  ·cases hv'
 refine ⟨fun ρ objs=>?_,hwh⟩
 refine ⟨⟨g,0,none⟩,cs.toList,rfl,fun i u hu=>?_,hgs,All2.map_left (All2.of_get hcl fun i a b h1 h2=>?_),fun u hu=>?_⟩
 ·have:=var?_cell hg hv i
  rw [show (⟨g,0,none⟩:Addr).add i=⟨g,i,none⟩ by simp [Addr.add];exact fun h=>h.symm,this]
  simpa using hu
 ·have:=hget i a h1
  rw [h2] at this
  cases this
  rfl
 ·obtain ⟨i,hi,rfl⟩:=List.getElem_of_mem hu
  have hj:i<ss.length:=by omega
  have e:cs.toList[i]=strV ss[i]:=Option.some.inj ((List.getElem?_eq_getElem hi).symm.trans (hget i ss[i] (List.getElem?_eq_getElem hj)))
  rw [e]
  simp [Value.oneCell',strV]
theorem gl_int {P:Program} {laid:List (String×DataW Unit)} {w:World} (hL:laidMet P laid w) {n:String} {d:DataW Unit} {ik:IntKind} {ss:List Int} {g t m e:Nat} (hm:(n,d)∈laid) (hd:d=.agg (ss.map fun s=>.lit (.int ik s)))
  (hg:P.globalNamed n=some g) (ht:(P.globals[g]?).map (·.type)=some t) (hu:P.underlying t=some (.array m e)) (he:P.underlying e=some (.int ik)) (hc:P.cellsOf e=1) (hct:P.cellsOf t=m) :
  (∀ ρ objs,AVR (fun k=>k<w.heap.size) ρ w objs (.eltv (ss.map (CV.int ik))) (.pointer (some ⟨g,0,none⟩)))∧Whole (fun k=>k<w.heap.size) w g (ss.map (CV.int ik)).length:=by
 obtain ⟨ps,hl,_,_⟩:=hL
 obtain ⟨g',t',cs,fuel,p,hg',ht',hv,hx⟩:=laid_mem hl hm
 obtain rfl:=Option.some.inj (hg.symm.trans hg')
 obtain rfl:=Option.some.inj (ht.symm.trans ht')
 obtain ⟨xs,m',rfl,hx,hlen,hn,hel⟩:=DataW.trod_array hu hx
 simp only [Prod.mk.injEq] at hx
 have hx1:=hx.1
 rw [hd] at hx1
 simp only [DataW.agg.injEq] at hx1
 have hll:ss.length=xs.length:=by have:=congrArg List.length hx1;simpa using this
 rw [hct] at hlen
 have hget:∀ i s,ss[i]?=some s→cs.toList[i]?=some (Value.int ik s):=fun i s hi=>by
  have hil:i<ss.length:=(List.getElem?_eq_some_iff.1 hi).1
  have h1:=hel i (by omega)
  have h2:xs[i]?=some xs[i]:=List.getElem?_eq_getElem (by omega)
  rw [h2,hc] at h1
  obtain ⟨b,hb,hb2,_⟩:=DataW.trod_int he h1
  have h3:(ss.map fun s=>(DataW.lit (.int ik s):DataW Unit))[i]?=(xs.map (·.1))[i]?:=by rw [hx1]
  rw [List.getElem?_map,List.getElem?_map,hi,h2,hb2] at h3
  simp only [Option.map_some,Option.some.injEq,DataW.lit.injEq,Lit.int.injEq] at h3
  have h4:((cs.toList.drop (i*1)).take 1)[0]?=some (Value.int ik b):=by rw [hb];rfl
  rw [List.getElem?_take_of_lt (by omega),List.getElem?_drop] at h4
  simp only [Nat.mul_one,Nat.add_zero] at h4
  rw [h4,h3.2]
 have hcl:ss.length=cs.toList.length:=by omega
 have hgs:g<w.heap.size:=by
  have hv':=hv
  simp only [World.var?,hg,Option.bind_some] at hv'
  cases hh:w.heap[g]? with
  | none=>rw [hh] at hv';cases hv'
  | some b=>exact (Array.getElem?_eq_some_iff.1 hh).1
 have hwh:Whole (fun k=>k<w.heap.size) w g (ss.map (CV.int ik)).length:=by
  refine ⟨hgs,?_⟩
  have hv':=hv
  simp only [World.var?,hg,Option.bind_some] at hv'
  split at hv'
  ·rename_i cs' e' b' hh
   cases hv'
   exact ⟨_,_,_,hh,by simpa using hcl.symm⟩
  ·cases hv'
 refine ⟨fun ρ objs=>?_,hwh⟩
 refine ⟨⟨g,0,none⟩,cs.toList,rfl,fun i u hu=>?_,hgs,All2.map_left (All2.of_get hcl fun i a b h1 h2=>?_),fun u hu=>?_⟩
 ·have:=var?_cell hg hv i
  rw [show (⟨g,0,none⟩:Addr).add i=⟨g,i,none⟩ by simp [Addr.add];exact fun h=>h.symm,this]
  simpa using hu
 ·have:=hget i a h1
  rw [h2] at this
  cases this
  rfl
 ·obtain ⟨i,hi,rfl⟩:=List.getElem_of_mem hu
  have hj:i<ss.length:=by omega
  have e:cs.toList[i]=Value.int ik ss[i]:=Option.some.inj ((List.getElem?_eq_getElem hi).symm.trans (hget i ss[i] (List.getElem?_eq_getElem hj)))
  rw [e]
  rfl
end Go.Proofs.YtkmpkebaloejhaaGreatDoor.Av
