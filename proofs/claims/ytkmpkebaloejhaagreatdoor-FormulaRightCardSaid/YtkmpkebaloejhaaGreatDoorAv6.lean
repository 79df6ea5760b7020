/- One operation of the machine does what the abstract one says: fields,arrays,conversions,structs built. Conditions: none. -/
import Derived.Test.YtkmpkebaloejhaaGreatDoorAv5
namespace Go.Proofs.YtkmpkebaloejhaaGreatDoor.Av
open Go
section
variable {R:Type} {old fz:Nat→Prop} {ρ:Nat→Value} {w:World} {objs:Objs} {r:R} {P:Program} {τ:Nat→Option TI} {B:Ops}
theorem FieldsOk.get {fields:Array Field} {fs:List (Nat×Nat)} (h:FieldsOk P fields fs) {f off t:Nat} (hf:fs[f]?=some (off,t)) :
  ∃ fd,fields[f]?=some fd∧fd.offset=off∧fd.type=t∧∃ i,P.info? t=some i∧0<i.size:=by
 obtain ⟨hlen,hget⟩:fields.toList.length=fs.length∧True:=⟨All2.length h,trivial⟩
 have hlt:f<fs.length:=(List.getElem?_eq_some_iff.1 hf).1
 have hfd:fields.toList[f]?=some (fields.toList[f]'(by omega)):=List.getElem?_eq_getElem _
 obtain ⟨p,hp,h1,h2,h3⟩:=All2.get h f _ hfd
 rw [hf] at hp
 cases hp
 refine ⟨_,by rw [←Array.getElem?_toList];exact hfd,h1,h2,?_⟩
 rw [h2] at h3
 exact h3
theorem isAddr_ok (h:OR fz old ρ w objs) {x:AV} {X:Value} (hx:AVR fz ρ w objs x X) (hi:isAddr objs x=true):∃ ad,X=.pointer (some ad):=by
 unfold isAddr at hi
 split at hi
 ·rename_i i off
  split at hi
  ·rename_i ty cs ho
   simp only [AVR,CVR,ho] at hx
   obtain ⟨g,_,rfl⟩:=hx
   exact ⟨_,rfl⟩
  ·cases hi
 ·rename_i i j off
  cases hr:rowOf objs i with
  | none=>simp [hr] at hi
  | some p=>
    obtain ⟨e,ty,xs⟩:=p
    obtain ⟨ho,A,c,hV,hl,hm,hrr⟩:=qar h hr
    have he:EltR ty xs.length (ρ i) j off X:=by
     rcases ho with ho | ho<;>simpa [AVR,ho] using hx
    obtain ⟨_,ad,_,_,_,rfl⟩:=he
    exact ⟨_,rfl⟩
 ·obtain ⟨ad,cs,rfl,_⟩:=hx
  exact ⟨_,rfl⟩
 ·cases hi
theorem afieldAddr_ok (hT:TOk P τ) (h:OR fz old ρ w objs) {s f:Nat} {x:AV} {X:Value} {k:AV→Option R} (hx:AVR fz ρ w objs x X) (hk:afieldAddr τ s x f objs k=some r) :
  Reads P fz ρ w objs (Instr.fieldAt s X f) k r:=by
 unfold afieldAddr at hk
 cases hia:isAddr objs x with
 | false=>simp [hia] at hk
 | true=>
 simp only [hia,cond_true] at hk
 split at hk
 ·rename_i fs a1 a2 a3 a4 a5 a6 a7 hs
  obtain ⟨fields,hu,hok⟩:=(hT s _ hs).kind
  split at hk
  ·rename_i off t hf
   obtain ⟨fd,hfd,ho,ht,i,hi,hsz⟩:=hok.get hf
   have hrun:∀ (ad:Addr) (w:World),(Instr.fieldAt s (.pointer (some ad)) f).run P w=.ok (.pointer (some (ad.add off))) w:=by
    intro ad w
    have hne:¬ i.size=0:=by omega
    simp [Instr.fieldAt,run_underlying hu,hfd,Instr.sureAddr,fieldPlace,sizeOf,typeInfo,ht,hi,hne,ho]
   split at hk
   ·rename_i j o
    unfold isAddr at hia
    simp only at hia
    split at hia
    ·rename_i ty cs hob
     simp only [AVR,CVR,hob] at hx
     obtain ⟨g,hg,rfl⟩:=hx
     refine ⟨_,_,hrun _,hk,?_⟩
     simp only [AVR,CVR,hob]
     exact ⟨g,hg,by rw [Addr.add_add]⟩
    ·cases hia
   ·rename_i j jj o
    simp only [isAddr] at hia
    cases hr:rowOf objs j with
    | none=>simp [hr] at hia
    | some p=>
      obtain ⟨e,ty,xs⟩:=p
      obtain ⟨ho',A,c,hV,hl,hm,hrr⟩:=qar h hr
      have he:EltR ty xs.length (ρ j) jj o X:=by
       rcases ho' with ho' | ho'<;>simpa [AVR,ho'] using hx
      obtain ⟨h1,ad,m,c',h2,rfl⟩:=he
      refine ⟨_,_,hrun _,hk,?_⟩
      have he':EltR ty xs.length (ρ j) jj (o+off) (.pointer (some ((ad.add (jj*ty.sz+o)).add off))):=⟨h1,ad,m,c',h2,by rw [Addr.add_add];simp [Nat.add_assoc]⟩
      rcases ho' with ho' | ho'<;>simpa [AVR,ho'] using he'
   ·rename_i cells
    obtain ⟨ad,cs,rfl,hat,hb,hall,h1⟩:=hx
    refine ⟨_,_,hrun _,hk,_,cs.drop off,rfl,?_,by rw [qa1];exact hb,All2.drop off hall,fun u hu=>h1 u (List.mem_of_mem_drop hu)⟩
    intro i u hu
    rw [Addr.add_add]
    exact hat (off+i) u (by simpa using hu)
   ·cases hk
  ·cases hk
 ·cases hk
theorem qfc {t:Nat} {ti:TI} (hti:TiOk P t ti) {cs:Array Value} {l:List CV} {v:AV} {off:Nat} (hl:All2 (CVR fz ρ w objs) l cs.toList) (h1:∀ u∈cs,u.oneCell'=true) (hv:ofCells ti ((l.drop off).take ti.size)=some v) :
  ∃ V,(∀ w',(part t cs off).run P w'=.ok V w')∧AVR fz ρ w objs v V:=by
 have hs:=All2.take ti.size (All2.drop off hl)
 unfold ofCells at hv
 cases ha:ti.agg with
 | true=>
   rw [ha] at hv
   simp only [if_true,Option.some.injEq] at hv
   subst hv
   refine ⟨.agg (cs.extract off (off+ti.size)),?_,_,rfl,?_,fun u hu=>h1 u (by
    have:=Array.mem_toList_iff.2 hu
    rw [Array.toList_extract,List.extract_eq_take_drop] at this
    exact Array.mem_toList_iff.1 (List.mem_of_mem_drop (List.mem_of_mem_take this)))⟩
   ·intro w';simp [part,hti.run_isAgg,ha,hti.run_size]
   ·have:(cs.extract off (off+ti.size)).toList=(cs.toList.drop off).take ti.size:=by
     simp [Array.toList_extract,List.extract_eq_take_drop]
    rw [this]
    exact hs
 | false=>
   rw [ha] at hv
   simp only [Bool.false_eq_true,if_false] at hv
   split at hv
   ·rename_i x hx
    cases hv
    rw [hx] at hs
    cases hd:(cs.toList.drop off).take ti.size with
    | nil=>rw [hd] at hs;exact hs.elim
    | cons u rest=>
      rw [hd] at hs
      refine ⟨u,?_,hs.1⟩
      have hu:cs[off]?=some u:=by
       have h0:((cs.toList.drop off).take ti.size)[0]?=some u:=by rw [hd];rfl
       rw [List.getElem?_take] at h0
       split at h0
       ·simpa using h0
       ·cases h0
      intro w';simp [part,hti.run_isAgg,ha,hu]
   ·cases hv
theorem afield_ok (hT:TOk P τ) {s f:Nat} {x:AV} {X:Value} {k:AV→Option R} (hx:AVR fz ρ w objs x X) (hk:afield τ s x f k=some r) :
  Reads P fz ρ w objs (Instr.field s X f) k r:=by
 unfold afield at hk
 split at hk
 ·rename_i fs a1 a2 a3 a4 a5 a6 a7 l hs
  obtain ⟨fields,hu,hok⟩:=(hT s _ hs).kind
  obtain ⟨cs,rfl,hl,h1⟩:=hx
  split at hk
  ·rename_i off t hf
   obtain ⟨fd,hfd,ho,ht,i,hi,hsz⟩:=hok.get hf
   split at hk
   ·rename_i ti hti
    split at hk
    ·rename_i v hv
     obtain ⟨V,hr,hV⟩:=qfc (hT t ti hti) hl h1 hv
     exact ⟨v,V,fun w'=>by simp [Instr.field,run_underlying hu,hfd,asAgg,ho,ht,hr],hk,hV⟩
    ·cases hk
   ·cases hk
  ·cases hk
 ·cases hk
theorem aextract_ok {x:AV} {X:Value} {j:Nat} {k:AV→Option R} (hx:AVR fz ρ w objs x X) (hk:aextract x j k=some r) :
  Reads P fz ρ w objs (Instr.extract X j) k r:=by
 unfold aextract at hk
 split at hk
 ·rename_i l
  obtain ⟨vs,rfl,hl⟩:=hx
  split at hk
  ·rename_i cs hj
   obtain ⟨u,hu,hR⟩:=hl.get j _ hj
   simp only [if_true] at hR
   exact ⟨_,u,fun w'=>by simp at hu;simp [Instr.extract,hu],hk,hR⟩
  ·rename_i c hj
   obtain ⟨u,hu,hR⟩:=hl.get j _ hj
   simp only [Bool.false_eq_true,if_false] at hR
   obtain ⟨c',hc,hR⟩:=hR
   simp only [List.cons.injEq,and_true] at hc
   subst hc
   exact ⟨_,u,fun w'=>by simp at hu;simp [Instr.extract,hu],hk,hR⟩
  ·cases hk
 ·cases hk
theorem aindex_ok (hB:B.ok) (hT:TOk P τ) {t:Nat} {x ix:AV} {X IX:Value} {k:AV→Option R} (hx:AVR fz ρ w objs x X) (hi:AVR fz ρ w objs ix IX) (hk:aindex τ B t x ix k=some r) :
  Reads P fz ρ w objs (Instr.index t X IX) k r:=by
 unfold aindex at hk
 split at hk
 ·rename_i s ik j
  have hX:X=strV s:=hx
  have hI:IX=.int ik j:=hi
  subst hX;subst hI
  cases hs:isStr τ t with
  | false=>simp [hs] at hk
  | true=>
    cases hb:B.inb j s.length with
    | false=>simp [hs,hb] at hk
    | true=>
      simp only [hs,hb,cond_true] at hk
      obtain ⟨h0,h1⟩:=qbi hB hb
      have hj:j.toNat<s.length:=by omega
      have hz:(⟨s.toArray⟩:ByteArray)[j.toNat]?=some (s.getD j.toNat 0):=by
       have hz:(⟨s.toArray⟩:ByteArray).size=s.length:=by simp [ByteArray.size]
       rw [getElem?_pos _ _ (by rw [hz];exact hj)]
       simp [ByteArray.getElem_eq_getElem_data,List.getD_eq_getElem?_getD,List.getElem?_eq_getElem hj]
      refine ⟨_,.int .u8 ((s.getD j.toNat 0).toNat:Int),?_,hk,rfl⟩
      intro w';simp [Instr.index,asIntOf,run_underlying (isStr_ok hT hs),strV,h0,hz]
 ·rename_i l ik j
  obtain ⟨cs,rfl,hl,_⟩:=hx
  have hI:IX=.int ik j:=hi
  subst hI
  split at hk
  ·rename_i n e a1 a2 a3 a4 a5 a6 a7 ht
   have hu:=(hT t _ ht).kind
   split at hk
   ·rename_i te hte
    cases hc:(Nat.beq te.size 1 && (!te.agg && Nat.beq n l.length)) with
    | false=>simp [hc] at hk
    | true=>
      simp only [hc,cond_true] at hk
      simp only [Bool.and_eq_true,Bool.not_eq_true'] at hc
      have hs1:te.size=1:=Nat.eq_of_beq_eq_true hc.1
      have hag:te.agg=false:=hc.2.1
      have hn:n=l.length:=Nat.eq_of_beq_eq_true hc.2.2
      have hlen:=hl.length
      have hrun:∀ (V:Value),0≤j→j<(n:Int)→cs[j.toNat]?=some V→∀ w,(Instr.index t (.agg cs) (.int ik j)).run P w=.ok V w:=by
       intro V h0 h1 hV w
       have h2:0≤j∧j<(n:Int):=⟨h0,h1⟩
       simp only [Instr.index,asIntOf,Sem.run_bind,Sem.run_pure,Result.andThen_ok,run_underlying hu,Sem.run_ite,if_pos h2,(hT e te hte).run_size,hs1,Nat.mul_one]
       simp [part,(hT e te hte).run_isAgg,hag,hV]
      split at hk
      ·rename_i ss hss
       cases hb:B.inb j n with
       | false=>simp [hb] at hk
       | true=>
         simp only [hb,cond_true] at hk
         obtain ⟨h0,h1⟩:=qbi hB hb
         have hss':=qbr hss hl
         have hl2:=hss'.length
         have hj:j.toNat<ss.length:=by simp at hl2;simp at hlen;omega
         obtain ⟨V,hV,hVe⟩:=hss'.get j.toNat (ss.getD j.toNat []) (by simp [List.getD_eq_getElem?_getD,List.getElem?_eq_getElem hj])
         exact ⟨_,V,hrun V h0 h1 (by simpa using hV),hk,hVe⟩
      ·split at hk
       ·rename_i ns hns
        cases hb:B.inb j n with
        | false=>simp [hb] at hk
        | true=>
          simp only [hb,cond_true] at hk
          obtain ⟨h0,h1⟩:=qbi hB hb
          have hss':=qbs hns hl
          have hl2:=hss'.length
          have hj:j.toNat<ns.length:=by simp at hl2;simp at hlen;omega
          obtain ⟨V,hV,hVe⟩:=hss'.get j.toNat (ns.getD j.toNat 0) (by simp [List.getD_eq_getElem?_getD,List.getElem?_eq_getElem hj])
          exact ⟨_,V,hrun V h0 h1 (by simpa using hV),hk,hVe⟩
       ·cases hk
   ·cases hk
  ·cases hk
 ·cases hk
theorem qem (hT:TOk P τ) {src dst:Nat} {x:AV} {X:Value} {k:AV→Option R} (hx:AVR fz ρ w objs x X) (hk:aconvert τ src dst x k=some r) :
  Reads P fz ρ w objs (convert src dst X) k r:=by
 unfold aconvert at hk
 split at hk
 ·rename_i hs hd
  have h1:=(hT src _ hs).kind
  have h2:=(hT dst _ hd).kind
  simp only at h1 h2
  have hX:X=.int _ _:=hx
  subst hX
  exact ⟨_,_,fun w'=>by simp [convert,run_underlying h1,run_underlying h2,Conv.intToInt],hk,rfl⟩
 ·rename_i hs hd
  have h1:=(hT src _ hs).kind
  have h2:=(hT dst _ hd).kind
  simp only at h1 h2
  have hX:X=strV _:=hx
  subst hX
  exact ⟨_,_,fun w'=>by simp [convert,run_underlying h1,run_underlying h2,strV],hk,rfl⟩
 ·cases hk
theorem amin_ok (hB:B.ok) {mx:Bool} {a:IntKind}:∀ {l:List AV} {n:Int} {vs:List Value} {k:AV→Option R},All2 (AVR fz ρ w objs) l vs→aminFrom B mx a n l k=some r→
  Reads P fz ρ w objs (vs.foldlM (if mx then Builtin.max2 else Builtin.min2) (.int a n)) k r
 | [],n,vs,k,ha,hk=>by
  cases vs with
  | nil=>exact ⟨_,.int a n,fun w'=>by simp,hk,rfl⟩
  | cons=>exact ha.elim
 | x::l,n,vs,k,ha,hk=>by
   cases vs with
   | nil=>exact ha.elim
   | cons v vs=>
     cases x with
     | c cv=>
       cases cv with
       | int ik m=>
         simp only [aminFrom] at hk
         have hv:v=.int ik m:=ha.1
         subst hv
         obtain ⟨v',V',h1,h2,h3⟩:=amin_ok hB ha.2 hk
         refine ⟨v',V',?_,h2,h3⟩
         intro w'
         have h1:=h1 w'
         rw [List.foldlM_cons,Sem.run_bind]
         cases mx
         ·simp only [Bool.false_eq_true,if_false,cond_false,hB.lt] at h1 ⊢
          simp only [Builtin.min2,Sem.run_pure,Result.andThen_ok]
          by_cases c:m<n
          ·simpa [c] using h1
          ·simpa [c] using h1
         ·simp only [if_true,cond_true,hB.lt] at h1 ⊢
          simp only [Builtin.max2,Sem.run_pure,Result.andThen_ok]
          by_cases c:n<m
          ·simpa [c] using h1
          ·simpa [c] using h1
       | _=>simp [aminFrom] at hk
     | _=>simp [aminFrom] at hk
end
end Go.Proofs.YtkmpkebaloejhaaGreatDoor.Av
