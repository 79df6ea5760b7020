/- Maps of words,numbers,truths: making,updates,look-ups. Conditions: none. -/
import Derived.Test.YtkmpkebaloejhaaGreatDoorAv8
import Derived.MapFrom
import Derived.Laws.RangeString
namespace Go.Proofs.YtkmpkebaloejhaaGreatDoor.Av
open Go Go.MapKept
def Ty.key:Ty→TypeDesc→Prop
 | .int k,d=>d=.int k
 | .bool,d=>d=.bool
 | .str,d=>d=.string
 | _,_=>False
section
variable {fz:Nat→Prop} {w:World}
theorem key_is {k:Ty} {d:TypeDesc} (h:k.key d) {x:k.den} {v:Value} (hx:k.K fz w x [v]):IsKey d v:=by
 cases k with
 | int j=>have hx:[v]=[Value.int j x]:=hx;have hd:d=.int j:=h;subst hd;cases hx;simp [IsKey]
 | bool=>have hx:[v]=[Value.bool x]:=hx;have hd:d=.bool:=h;subst hd;cases hx;simp [IsKey]
 | str=>have hx:[v]=[strV x]:=hx;have hd:d=.string:=h;subst hd;cases hx;simp [IsKey,strV]
 | list e t=>exact h.elim
 | pair a b=>exact h.elim
theorem key_same {k:Ty} {d:TypeDesc} (h:k.key d) {x y:k.den} {v u:Value} (hx:k.K fz w x [v]) (hy:k.K fz w y [u]):k.keq x y=true↔v=u:=by
 cases k with
 | int j=>
   have hx:[v]=[Value.int j x]:=hx;have hy:[u]=[Value.int j y]:=hy
   cases hx;cases hy;simp [Ty.keq]
 | bool=>
   have hx:[v]=[Value.bool x]:=hx;have hy:[u]=[Value.bool y]:=hy
   cases hx;cases hy;simp [Ty.keq]
 | str=>
   have hx:[v]=[strV x]:=hx;have hy:[u]=[strV y]:=hy
   cases hx;cases hy;simp only [Ty.keq,decide_eq_true_eq]
   exact ⟨fun e=>by rw [e],fun e=>by simpa [strV] using e⟩
 | list e t=>exact h.elim
 | pair a b=>exact h.elim
theorem find_ok {k v:Ty} {d:TypeDesc} (h:k.key d) {x:k.den} {key:Value} (hx:k.K fz w x [key]):∀ (l:List (k.den×v.den)) (es:List MapEntry) (i:Nat),MR fz w k v l es→
  (mget k l x=none∧Instr.findNow d key es i=some none∧∀ (y:v.den) (nv:Value) (born:Nat),v.K fz w y [nv]→MR fz w k v (mput k l x y) (es++[{ key:=key,val:=nv,born:=born }]))∨
  ∃ (j:Nat) (e:MapEntry) (y0:v.den),mget k l x=some y0∧v.K fz w y0 [e.val]∧Instr.findNow d key es i=some (some (i+j,e.val))∧es[j]?=some e∧e.key=key∧
    ∀ (y:v.den) (nv:Value),v.K fz w y [nv]→MR fz w k v (mput k l x y) (es.modify j fun e=>{ e with key:=key,val:=nv })
 | [],[],i,hm=>.inl ⟨rfl,rfl,fun y nv born hy=>⟨⟨hx,hy⟩,trivial⟩⟩
 | [],e::es,i,hm=>hm.elim
 | p::l,[],i,hm=>hm.elim
 | p::l,e::es,i,hm=>by
   obtain ⟨⟨h1,h2⟩,h3⟩:=hm
   have ik:=key_is h hx
   have ie:=key_is h h1
   obtain ⟨r,r1,r2⟩:=sameNow_of_keys ik ie
   have hs:=key_same h h1 hx
   cases r with
   | true=>
     have e1:e.key=key:=(r2.mp rfl).symm
     have e2:k.keq p.1 x=true:=hs.mpr e1
     refine .inr ⟨0,e,p.2,by simp [mget,e2],h2,by simp [Instr.findNow,r1],rfl,e1,fun y nv hy=>?_⟩
     simp only [mput,e2,cond_true,List.modify_zero_cons]
     exact ⟨⟨hx,hy⟩,h3⟩
   | false=>
     have e1:e.key≠key:=fun q=>by have:=r2.mpr q.symm;cases this
     have e2:k.keq p.1 x=false:=by
      cases hb:k.keq p.1 x
      ·rfl
      ·exact absurd (hs.mp hb) e1
     rcases find_ok h hx l es (i+1) h3 with ⟨g1,g2,g3⟩ | ⟨j,e',y0,g1,g2,g3,g4,g5,g6⟩
     ·refine .inl ⟨by simp [mget,e2,g1],by simp [Instr.findNow,r1,g2],fun y nv born hy=>?_⟩
      simp only [mput,e2,cond_false,List.cons_append]
      exact ⟨⟨h1,h2⟩,g3 y nv born hy⟩
     ·refine .inr ⟨j+1,e',y0,by simp [mget,e2,g1],g2,by simp [Instr.findNow,r1,g3];omega,by simpa using g4,g5,fun y nv hy=>?_⟩
      simp only [mput,e2,cond_false,List.modify_succ_cons]
      exact ⟨⟨h1,h2⟩,g6 y nv hy⟩
theorem mapUpdate_ok {P:Program} {mty kt et r clock:Nat} {k v:Ty} {d:TypeDesc} {es:Array MapEntry} {l:List (k.den×v.den)} (hm:P.underlying mty=some (.map kt et)) (hd:P.underlying kt=some d) (h:k.key d) (hb:w.heap[r]?=some (.map es clock)) (hr:MR fz w k v l es.toList)
  {x:k.den} {y:v.den} {key val:Value} (hx:k.K fz w x [key]) (hy:v.K fz w y [val]) :
  ∃ (es':Array MapEntry) (c':Nat),(Instr.mapUpdate mty (.map (some r)) key val).run P w=.ok () { w with heap:=w.heap.setIfInBounds r (.map es' c') }∧MR fz w k v (mput k l x y) es'.toList:=by
 have hk:=key_is h hx
 rcases find_ok h hx l es.toList 0 hr with ⟨g1,g2,g3⟩ | ⟨j,e,y0,g1,g2,g3,g4,g5,g6⟩
 ·refine ⟨es.push { key:=key,val:=val,born:=clock },clock+1,?_,by rw [Array.toList_push];exact g3 y val clock hy⟩
  simp [Instr.mapUpdate,run_underlying hm,MapKept.run_getObj_map hb,run_checkKey hd hk,run_findKey hd g2,run_setObj_map _ hb,Result.andThen]
 ·have hj:es[j]?=some e:=by simpa using g4
  refine ⟨es.modify j fun e=>{ e with key:=key,val:=val },clock,?_,by rw [Array.toList_modify];exact g6 y val hy⟩
  simp [Instr.mapUpdate,run_underlying hm,MapKept.run_getObj_map hb,run_checkKey hd hk,run_findKey hd g3,hj,g5,run_keyThatStays hk,run_setObj_map _ hb,Result.andThen]
theorem lookup_ok {P:Program} {mty kt et r clock:Nat} {k v:Ty} {d:TypeDesc} {es:Array MapEntry} {l:List (k.den×v.den)} (hm:P.underlying mty=some (.map kt et)) (hd:P.underlying kt=some d) (h:k.key d) (hb:w.heap[r]?=some (.map es clock)) (hr:MR fz w k v l es.toList)
  {x:k.den} {key:Value} (hx:k.K fz w x [key]) {z:Value} {z0:v.den} (hz:(zeroValue et).run P w=.ok z w) (hz0:v.K fz w z0 [z]) :
  ∃ val,(Instr.lookup mty (.map (some r)) key false).run P w=.ok val w∧v.K fz w ((mget k l x).getD z0) [val]:=by
 have hk:=key_is h hx
 rcases find_ok h hx l es.toList 0 hr with ⟨g1,g2,g3⟩ | ⟨j,e,y0,g1,g2,g3,g4,g5,g6⟩
 ·refine ⟨z,?_,by rw [g1];exact hz0⟩
  simp [Instr.lookup,run_underlying hm,MapKept.run_getObj_map hb,run_checkKey hd hk,run_findKey hd g2,hz,Result.andThen]
 ·refine ⟨e.val,?_,by rw [g1];exact g2⟩
  simp [Instr.lookup,run_underlying hm,MapKept.run_getObj_map hb,run_checkKey hd hk,run_findKey hd g3,Result.andThen]
end
section
variable {R:Type} {old fz:Nat→Prop} {ρ:Nat→Value} {w:World} {objs:Objs} {r:R} {P:Program} {τ:Nat→Option TI}
theorem scOf_ok (hT:TOk P τ) {t:Nat} {a:Ty} (h:scOf τ t=some a):∃ d,P.underlying t=some d∧a.key d∧∃ z,(∀ w,(zeroValue t).run P w=.ok z w)∧∀ fz w,a.K fz w a.dflt [z]:=by
 have zero:∀ (ti:TI) (c:CV) (v:Value),τ t=some ti→ti.agg=false→ti.zero=[c]→(∀ u,ZeroR c u→u=v)→∃ z,(∀ w,(zeroValue t).run P w=.ok z w)∧z=v:=fun ti c v hti hag hz hv=>by
  obtain ⟨i,z,hi,hs,_,hzz,hr,h1⟩:=(hT t ti hti).info
  have ho:z.oneCell'=true:=by
   rcases (hT t ti hti).one i z hi hzz with h | h
   ·rw [hag] at h;cases h
   ·exact h
  have hc:=qb3 ho
  rw [hz,hc] at hr
  exact ⟨z,fun w=>by simp [zeroValue,typeInfo,hi,hzz],hv z hr.1⟩
 unfold scOf at h
 split at h
 ·rename_i k n _ _ _ hti
  have hk:=(hT t _ hti).kind
  simp only at hk
  cases hn:decide (n=0) with
  | false=>rw [hn] at h;cases h
  | true=>
    rw [hn] at h
    have hn:=of_decide_eq_true hn
    cases h
    obtain ⟨z,z1,z2⟩:=zero _ _ (.int k 0) hti rfl rfl (fun u hu=>by rw [show u=.int k n from hu,hn])
    exact ⟨_,hk,rfl,z,z1,fun fz w=>by rw [z2];rfl⟩
 ·rename_i hti
  have hk:=(hT t _ hti).kind
  simp only at hk
  cases h
  obtain ⟨z,z1,z2⟩:=zero _ _ (.bool false) hti rfl rfl (fun u hu=>hu)
  exact ⟨_,hk,rfl,z,z1,fun fz w=>by rw [z2];rfl⟩
 ·rename_i hti
  have hk:=(hT t _ hti).kind
  simp only at hk
  cases h
  obtain ⟨z,z1,z2⟩:=zero _ _ (strV []) hti rfl rfl (fun u hu=>hu)
  exact ⟨_,hk,rfl,z,z1,fun fz w=>by rw [z2];rfl⟩
 ·cases h
theorem mapIs_ok (hT:TOk P τ) {t:Nat} {a b:Ty} (h:mapIs τ t a b=true):∃ kt et d,P.underlying t=some (.map kt et)∧P.underlying kt=some d∧a.key d∧(∃ z,(∀ w,(zeroValue et).run P w=.ok z w)∧∀ fz w,b.K fz w b.dflt [z]):=by
 unfold mapIs at h
 split at h
 ·rename_i a' b' hm
  simp only [Bool.and_eq_true] at h
  obtain ⟨h1,h2⟩:=h
  cases ha:Ty.same a a' with
  | none=>rw [ha] at h1;cases h1
  | some pa=>
    cases hb:Ty.same b b' with
    | none=>rw [hb] at h2;cases h2
    | some pb=>
      obtain ⟨ea⟩:=pa
      obtain ⟨eb⟩:=pb
      subst ea;subst eb
      unfold mapTy at hm
      split at hm
      ·rename_i hti
       have hk:=(hT t _ hti).kind
       simp only at hk
       split at hm
       ·rename_i hx hy
        cases hm
        obtain ⟨d,d1,d2,_⟩:=scOf_ok hT hx
        obtain ⟨d',_,_,z⟩:=scOf_ok hT hy
        exact ⟨_,_,d,hk,d1,d2,z⟩
       ·cases hm
      ·cases hm
 ·cases h
theorem amakeMap_ok (hT:TOk P τ) (h:OR fz old ρ w objs) {u t:Nat} {k:AV→Objs→Option R} (hk:amakeMap τ u t objs k=some r):∃ V w',(Instr.makeMap t none).run P w=.ok V w'∧Lands old fz ρ w objs k r V w':=by
 unfold amakeMap at hk
 split at hk
 ·rename_i a b hm
  obtain ⟨hu,hk⟩:=qav hk
  have hf:=qbf h (.map #[] 0)
  refine ⟨.map (some w.heap.size),w.alloc (.map #[] 0),by simp [Instr.makeMap],_,_,fz,upd ρ u (.map (some w.heap.size)),hk,?_,?_,Ext.new hu _ _,hf⟩
  ·simp only [AVR,CVR,qam]
   rw [qa9]
  ·refine h.new hu hf (qcf h _) (qd6 h _) (fun g _ hg i hi=>?_) ?_
   ·simp [blkV] at hg
    have:=(h.blk_lt hi).1
    omega
   ·exact ⟨w.heap.size,#[],0,rfl,heap_alloc_new w _,trivial,fun hk=>by have:=h.fzlt _ hk;omega,fun hk=>by have:=h.oldlt _ hk;omega⟩
 ·cases hk
theorem amapUpdate_ok (hT:TOk P τ) (h:OR fz old ρ w objs) {t:Nat} {m key x:AV} {M K X:Value} {k:Objs→Option R} (hm:AVR fz ρ w objs m M) (hkey:AVR fz ρ w objs key K) (hx:AVR fz ρ w objs x X) (hk:amapUpdate τ t m key x objs k=some r) :
  ∃ w',(Instr.mapUpdate t M K X).run P w=.ok () w'∧∃ objs' fz' ρ',k objs'=some r∧OR fz' old ρ' w' objs'∧Ext objs ρ objs' ρ'∧Frm fz old w fz' w':=by
 unfold amapUpdate at hk
 split at hk
 ·rename_i i ck cx
  split at hk
  ·rename_i t' a b l ho
   cases hi:mapIs τ t a b with
   | false=>rw [hi] at hk;cases hk
   | true=>
     rw [hi] at hk
     simp only [cond_true] at hk
     obtain ⟨kt,et,d,m1,m2,m3,_⟩:=mapIs_ok hT hi
     split at hk
     ·rename_i p q hp hq
      obtain ⟨c0,c1,e1,kp,e2⟩:=qa7 (fz:=fz) (ρ:=ρ) (w:=w) (objs:=objs) a [ck] p [] [K] hp ⟨hkey,trivial⟩
      obtain ⟨d0,d1,f1,kq,f2⟩:=qa7 (fz:=fz) (ρ:=ρ) (w:=w) (objs:=objs) b [cx] q [] [X] hq ⟨hx,trivial⟩
      have hc1:c1=[]:=by cases c1 with | nil=>rfl | cons=>exact e2.elim
      have hd1:d1=[]:=by cases d1 with | nil=>rfl | cons=>exact f2.elim
      rw [hc1,List.append_nil] at e1
      rw [hd1,List.append_nil] at f1
      rw [←e1] at kp
      rw [←f1] at kq
      obtain ⟨g,es,c,hV,hh,hr,n1,n2⟩:=h.obj i _ ho
      have hM:M=.map (some g):=by
       have:CVR fz ρ w objs (.own i) M:=hm
       simp only [CVR,ho] at this
       rw [this,hV]
      subst hM
      obtain ⟨es',c',u1,u2⟩:=mapUpdate_ok (P:=P) m1 m2 m3 hh hr kp kq
      have hb:blkO objs ρ i=some g:=by rw [qao ho,hV];rfl
      have hf:Frm fz old w fz { w with heap:=w.heap.setIfInBounds g (.map es' c') }:=
       ⟨fun _ h=>h,fun _ _ h=>h,fun k hk=>(heap_set hh).2 k (fun e=>n1 (e ▸ hk)),fun k hk=>(heap_set hh).2 k (fun e=>n2 (e ▸ hk)),by simp,rfl,rfl,rfl⟩
      refine ⟨_,u1,_,fz,ρ,hk,?_,Ext.turn ho (.inr ⟨_,rfl⟩),hf⟩
      refine h.turn ho (.inr ⟨_,rfl⟩) hf (fun j hj g' hg'=>⟨(heap_set hh).2 g' (fun e=>h.apart j i g' hj hg' (by rw [e];exact hb)),(h.blk_lt hg').2.1⟩) (fun k hk=>by simpa using h.fzlt k hk) ?_
      exact ⟨g,es',c',hV,(heap_set hh).1,MR_mono (fun _ h=>h) (fun k hk=>(heap_set hh).2 k (fun e=>n1 (e ▸ hk))) _ _ u2,n1,n2⟩
     ·cases hk
  ·cases hk
 ·cases hk
theorem alookup_ok (hT:TOk P τ) (h:OR fz old ρ w objs) {t:Nat} {m key:AV} {M K:Value} {k:AV→Option R} (hm:AVR fz ρ w objs m M) (hkey:AVR fz ρ w objs key K) (hk:alookup τ t m key objs k=some r) :
  ∃ v V,(Instr.lookup t M K false).run P w=.ok V w∧k v=some r∧AVR fz ρ w objs v V:=by
 unfold alookup at hk
 split at hk
 ·rename_i i ck
  split at hk
  ·rename_i t' a b l ho
   cases hi:mapIs τ t a b with
   | false=>rw [hi] at hk;cases hk
   | true=>
     rw [hi] at hk
     simp only [cond_true] at hk
     obtain ⟨kt,et,d,m1,m2,m3,z,z1,z2⟩:=mapIs_ok hT hi
     split at hk
     ·rename_i p hp
      obtain ⟨c0,c1,e1,kp,e2⟩:=qa7 (fz:=fz) (ρ:=ρ) (w:=w) (objs:=objs) a [ck] p [] [K] hp ⟨hkey,trivial⟩
      have hc1:c1=[]:=by cases c1 with | nil=>rfl | cons=>exact e2.elim
      rw [hc1,List.append_nil] at e1
      rw [←e1] at kp
      obtain ⟨g,es,c,hV,hh,hr,n1,n2⟩:=h.obj i _ ho
      have hM:M=.map (some g):=by
       have:CVR fz ρ w objs (.own i) M:=hm
       simp only [CVR,ho] at this
       rw [this,hV]
      subst hM
      obtain ⟨val,v1,v2⟩:=lookup_ok (P:=P) m1 m2 m3 hh hr kp (z1 w) (z2 fz w)
      have hx:=qbc (ρ:=ρ) (objs:=objs) b _ _ v2
      split at hk
      ·rename_i cv hcv
       rw [hcv] at hx
       exact ⟨_,val,v1,hk,hx.1⟩
      ·cases hk
     ·cases hk
  ·cases hk
 ·cases hk
theorem run_next_at {w:World} {g:Nat} {s:ByteArray} {pos:Nat} {ty:TypeId} (hh:w.heap[g]?=some (.stringIter s pos)) (h:pos<s.size) (ha:(s[pos]'h).toNat<128) :
  (Instr.next (.pointer (some ⟨g,0,none⟩)) true ty).run P w=.ok (.tuple #[.bool true,.int .i64 pos,.int .i32 (s[pos]'h).toNat]) { w with heap:=w.heap.setIfInBounds g (.stringIter s (pos+1)) }:=by
 simp only [Instr.next,getObj,setObj,Sem.run_bind,Sem.run,hh,Result.andThen,h,if_true,decode_ascii s pos h ha]
 simp [goInt,Sem.run,hh]
theorem run_next_over {w:World} {g:Nat} {s:ByteArray} {pos:Nat} {ty:TypeId} (hh:w.heap[g]?=some (.stringIter s pos)) (h:¬ pos<s.size) :
  (Instr.next (.pointer (some ⟨g,0,none⟩)) true ty).run P w=.ok (.tuple #[.bool false]) w:=by
 simp [Instr.next,getObj,Sem.run,hh,h]
theorem arange_ok (hT:TOk P τ) (h:OR fz old ρ w objs) {u t:Nat} {x:AV} {X:Value} {k:AV→Objs→Option R} (hx:AVR fz ρ w objs x X) (hk:arange τ u t x objs k=some r):∃ V w',(Instr.range t X).run P w=.ok V w'∧Lands old fz ρ w objs k r V w':=by
 unfold arange at hk
 split at hk
 ·rename_i s hs
  obtain ⟨d,d1,d2,_⟩:=scOf_ok hT hs
  have d2:d=.string:=d2
  subst d2
  obtain ⟨hu,hk⟩:=qav hk
  have hX:X=strV s:=hx
  subst hX
  have hf:=qbf h (.stringIter ⟨s.toArray⟩ 0)
  refine ⟨.pointer (some ⟨w.heap.size,0,none⟩),w.alloc (.stringIter ⟨s.toArray⟩ 0),run_range_string w t ⟨s.toArray⟩ d1,_,_,fz,upd ρ u (.pointer (some ⟨w.heap.size,0,none⟩)),hk,?_,?_,Ext.new hu _ _,hf⟩
  ·simp only [AVR,CVR,qam]
   rw [qa9]
  ·refine h.new hu hf (qcf h _) (qd6 h _) (fun g _ hg i hi=>?_) ?_
   ·simp [blkV] at hg
    have:=(h.blk_lt hi).1
    omega
   ·exact ⟨w.heap.size,rfl,heap_alloc_new w _,fun hk=>by have:=h.fzlt _ hk;omega,fun hk=>by have:=h.oldlt _ hk;omega⟩
 ·cases hk
theorem anext_ok {B:Ops} (hB:B.ok) (h:OR fz old ρ w objs) {x:AV} {X:Value} {ty:TypeId} {k:AV→Objs→Option R} (hx:AVR fz ρ w objs x X) (hk:anext B x objs k=some r):∃ V w',(Instr.next X true ty).run P w=.ok V w'∧Lands old fz ρ w objs k r V w':=by
 unfold anext at hk
 split at hk
 ·rename_i i
  split at hk
  ·rename_i s p ho
   obtain ⟨g,hV,hh,n1,n2⟩:=h.obj i _ ho
   have hX:X=.pointer (some ⟨g,0,none⟩):=by
    have:CVR fz ρ w objs (.own i) X:=hx
    simp only [CVR,ho] at this
    rw [this,hV]
   subst hX
   have hsz:(⟨s.toArray⟩:ByteArray).size=s.length:=by simp [ByteArray.size]
   cases hp:B.lt (p:Int) (s.length:Int) with
   | false=>
     rw [hp] at hk
     have hlt:¬ p<(⟨s.toArray⟩:ByteArray).size:=by
      rw [hsz]
      intro hlt
      have:=(hB.lt (p:Int) (s.length:Int)).symm.trans hp
      simp at this
      omega
     exact ⟨_,w,run_next_over hh hlt,Lands.same h hk ⟨_,rfl,⟨⟨_,rfl,rfl⟩,trivial⟩⟩⟩
   | true=>
     rw [hp] at hk
     simp only [cond_true] at hk
     have hlt:p<s.length:=by
      have:=(hB.lt (p:Int) (s.length:Int)).symm.trans hp
      simp at this
      omega
     have hlt':p<(⟨s.toArray⟩:ByteArray).size:=by rw [hsz];exact hlt
     have hg:s.getD p 0=(⟨s.toArray⟩:ByteArray)[p]'hlt':=by
      rw [List.getD_eq_getElem?_getD,List.getElem?_eq_getElem hlt]
      rfl
     cases hc:B.lt ((s.getD p 0).toNat:Int) 128 with
     | false=>rw [hc] at hk;cases hk
     | true=>
       rw [hc] at hk
       simp only [cond_true] at hk
       have ha:(s.getD p 0).toNat<128:=by
        have:=(hB.lt ((s.getD p 0).toNat:Int) 128).symm.trans hc
        simp only [decide_eq_true_eq] at this
        omega
       rw [hg] at ha hk
       have hb:blkO objs ρ i=some g:=by rw [qao ho,hV];rfl
       have hf:Frm fz old w fz { w with heap:=w.heap.setIfInBounds g (.stringIter ⟨s.toArray⟩ (p+1)) }:=
        ⟨fun _ h=>h,fun _ _ h=>h,fun k hk=>(heap_set hh).2 k (fun e=>n1 (e ▸ hk)),fun k hk=>(heap_set hh).2 k (fun e=>n2 (e ▸ hk)),by simp,rfl,rfl,rfl⟩
       refine ⟨_,_,run_next_at hh hlt' ha,_,_,fz,ρ,hk,?_,?_,Ext.turn ho (.inr ⟨_,rfl⟩),hf⟩
       ·exact ⟨_,rfl,⟨⟨_,rfl,rfl⟩,⟨_,rfl,rfl⟩,⟨_,rfl,rfl⟩,trivial⟩⟩
       ·refine h.turn ho (.inr ⟨_,rfl⟩) hf (fun j hj g' hg'=>⟨(heap_set hh).2 g' (fun e=>h.apart j i g' hj hg' (by rw [e];exact hb)),(h.blk_lt hg').2.1⟩) (fun k hk=>by simpa using h.fzlt k hk) ?_
        exact ⟨g,hV,(heap_set hh).1,n1,n2⟩
  ·cases hk
 ·cases hk
end
end Go.Proofs.YtkmpkebaloejhaaGreatDoor.Av
