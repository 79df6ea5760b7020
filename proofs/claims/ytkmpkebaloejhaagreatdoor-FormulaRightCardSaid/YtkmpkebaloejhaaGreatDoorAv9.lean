/- What is written: stores,literals,append. Conditions: none. -/
import Derived.Test.YtkmpkebaloejhaaGreatDoorAv8
namespace Go.Proofs.YtkmpkebaloejhaaGreatDoor.Av
open Go
section
variable {R:Type} {old fz:Nat→Prop} {ρ:Nat→Value} {w:World} {objs:Objs} {r:R} {P:Program} {τ:Nat→Option TI} {B:Ops}
theorem qcm (w:World) (g:Nat) (cs:Array Value):(w.setRow g cs).heap.size=w.heap.size:=by simp [World.setRow]
theorem qfg {g:Nat} (hg:¬ fz g) (hg':¬ old g) (cs:Array Value):Frm fz old w fz (w.setRow g cs):=
 ⟨fun _ h=>h,fun _ _ h=>h,fun k hk=>setRow_other w g k cs (by rintro rfl;exact hg hk),fun k hk=>setRow_other w g k cs (by rintro rfl;exact hg' hk),by rw [qcm];exact Nat.le_refl _,rfl,rfl,rfl⟩
theorem astore_box (h:OR fz old ρ w objs) {i ty g off:Nat} {cs l:List CV} {vs:Array Value} {ls:List Value} (ho:oget objs i=some (.box ty cs)) (hV:ρ i=.pointer (some ⟨g,0,none⟩)) (hh:w.heap[g]?=some (.cells vs ty (0,0))) (hall:All2 (CVR fz ρ w objs) cs vs.toList)
  (h1:∀ u∈vs,u.oneCell'=true) (hfit:off+l.length≤cs.length) (hl:All2 (CVR fz ρ w objs) l ls) (hl1:∀ u∈ls,u.oneCell'=true) :
  (storeCells ((⟨g,0,none⟩:Addr).add off) ls).run P w=.ok () (w.setRow g (vs.toList.take off++ls++vs.toList.drop (off+ls.length)).toArray)∧
  OR fz old ρ (w.setRow g (vs.toList.take off++ls++vs.toList.drop (off+ls.length)).toArray) (oset i (.box ty (replaceAt off l cs)) objs)∧
  Frm fz old w fz (w.setRow g (vs.toList.take off++ls++vs.toList.drop (off+ls.length)).toArray):=by
 have e1:=hall.length
 have e2:=hl.length
 have hb:blkO objs ρ i=some g:=by rw [qao ho,hV];rfl
 obtain ⟨b1,b2,b3⟩:=h.blk_lt hb
 have hf:=qfg (w:=w) b2 b3 (vs.toList.take off++ls++vs.toList.drop (off+ls.length)).toArray
 refine ⟨?_,?_,hf⟩
 ·have:=run_storeCells_at (P:=P) g off ty ls 0 vs w hh (by simp at e1;omega) hl1
  rw [Addr.add_lit]
  simpa using this
 ·have he:Ext objs ρ (oset i (.box ty (replaceAt off l cs)) objs) ρ:=Ext.turn ho ⟨_,rfl⟩
  refine h.turn ho ⟨_,rfl⟩ hf (fun j hj g' hg'=>?_) (fun k hk=>by rw [qcm];exact h.fzlt k hk) ?_
  ·have hne:g'≠g:=by
    rintro rfl
    exact h.apart i j g' (Ne.symm hj) hb hg'
   exact ⟨setRow_other w g g' _ hne,(h.blk_lt hg').2.1⟩
  ·refine ⟨g,_,hV,setRow_heap w g vs _ ty (0,0) hh,?_,b2,b3,?_⟩
   ·have hmono:∀ {c:CV} {v:Value},CVR fz ρ w objs c v→CVR fz ρ (w.setRow g (vs.toList.take off++ls++vs.toList.drop (off+ls.length)).toArray) (oset i (.box ty (replaceAt off l cs)) objs) c v:=
     fun hc=>CVR.mono he hf.up hf.fzw hc
    have hd:=(All2.drop (off+l.length) hall).imp fun _ _ hc=>hmono hc
    have hx:=All2.append (All2.append ((All2.take off hall).imp fun _ _ hc=>hmono hc) (hl.imp fun _ _ hc=>hmono hc)) hd
    have e3:vs.toList.drop (off+l.length)=vs.toList.drop (off+ls.length):=by rw [e2]
    rw [e3] at hx
    exact hx
   ·intro u hu
    rw [←Array.mem_toList_iff] at hu
    rcases List.mem_append.1 hu with hu | hu
    ·rcases List.mem_append.1 hu with hu | hu
     ·exact h1 u (Array.mem_toList_iff.1 (List.mem_of_mem_take hu))
     ·exact hl1 u hu
    ·exact h1 u (Array.mem_toList_iff.1 (List.mem_of_mem_drop hu))
theorem qdx {n off:Nat} {vs c:List Value}:∀ {css:List (List Value)} (j:Nat),(∀ d∈css,d.length=n)→css[j]?=some c→off+vs.length≤n→
  css.flatten.take (j*n+off)++vs++css.flatten.drop (j*n+off+vs.length)=(css.set j (c.take off++vs++c.drop (off+vs.length))).flatten
 | [],j,_,hj,_=>by simp at hj
 | d::css,0,h,hj,hf=>by
   simp at hj
   subst hj
   have hd:=h d List.mem_cons_self
   simp only [List.flatten_cons,List.set_cons_zero,Nat.zero_mul,Nat.zero_add]
   rw [List.take_append_of_le_length (by omega),List.drop_append_of_le_length (by omega)]
   simp
 | d::css,j+1,h,hj,hf=>by
   have hd:=h d List.mem_cons_self
   have ih:=qdx (css:=css) j (fun x hx=>h x (List.mem_cons_of_mem _ hx)) (by simpa using hj) hf
   simp only [List.flatten_cons,List.set_cons_succ]
   rw [←ih]
   have e1:(j+1)*n+off=d.length+(j*n+off):=by rw [hd,Nat.add_mul];omega
   rw [e1,List.take_length_add_append,show d.length+(j*n+off)+vs.length=d.length+(j*n+off+vs.length) by omega,List.drop_length_add_append]
   simp
theorem qdy {i j:Nat} (h:j≠i):oget (freeze1 j objs) i=oget objs i:=by
 unfold freeze1
 split
 ·rw [qap _ _ h]
 ·rfl
theorem qbb {i:Nat}:∀ (l:List Nat) {objs:Objs},i ∉ l→oget (freezeAll l objs) i=oget objs i
 | [],_,_=>rfl
 | j::l,objs,h=>by
   have h1:j≠i:=fun e=>h (by rw [e];exact List.mem_cons_self)
   have h2:i ∉ l:=fun e=>h (List.mem_cons_of_mem _ e)
   show oget (freezeAll l (freeze1 j objs)) i=_
   rw [qbb l h2,qdy h1]
theorem cellsVal_ok (h:OR fz old ρ w objs) {v:AV} {V:Value} {l:List CV} (hv:AVR fz ρ w objs v V) (hl:cellsOf objs v=some l) :
  ∃ fz',OR fz' old ρ w (freezeAll (keyOf v) objs)∧Ext objs ρ (freezeAll (keyOf v) objs) ρ∧Frm fz old w fz' w∧
    All2 (CVR fz' ρ w (freezeAll (keyOf v) objs)) (l.map (cellVal objs)) V.cells.toList:=by
 obtain ⟨fz',h1,h2,h3,h4⟩:=qa6 (keyOf v) h
 refine ⟨fz',h1,h2,h3,?_⟩
 obtain ⟨ha,_⟩:=qce h hv hl
 refine All2.map_left (All2.imp_mem (fun c u hc hcu=>qbn h h2 h3 hcu fun i hci e ty xs hr=>h4 i ?_ e ty xs hr) ha)
 subst hci
 cases v with
 | agg la=>
   simp only [cellsOf,Option.some.injEq] at hl
   subst hl
   simp only [keyOf,List.mem_filterMap]
   exact ⟨_,hc,rfl⟩
 | c x=>
   simp only [cellsOf] at hl
   cases hg:goodC objs x with
   | false=>simp [hg] at hl
   | true=>
     simp [hg] at hl
     subst hl
     simp at hc
     subst hc
     simp [keyOf]
 | _=>simp [cellsOf] at hl
theorem take_replace {L ls:List Value} {p N:Nat} (h:p+ls.length≤N) (hN:N≤L.length):(L.take p++ls++L.drop (p+ls.length)).take N=(L.take N).take p++ls++(L.take N).drop (p+ls.length):=by
 apply List.ext_getElem?
 intro i
 simp only [List.getElem?_take,List.getElem?_append,List.length_append,List.length_take,List.getElem?_drop,Nat.min_eq_left hN]
 have e1:min p L.length=p:=by omega
 have e2:min p N=p:=by omega
 simp only [e1,e2]
 by_cases c1:i<p
 ·have:i<N:=by omega
  have c2:i<p+ls.length:=by omega
  simp [c1,c2,this]
 ·by_cases c2:i<p+ls.length
  ·have:i<N:=by omega
   simp [c1,c2,this]
  ·have e3:p+ls.length+(i-(p+ls.length))=i:=by omega
   simp [c1,c2,e3]
theorem astore_row (h:OR fz old ρ w objs) {i e j off:Nat} {ty:Ty} {xs:List ty.den} {x:ty.den} {lv:List CV} {ls:List Value} {A:Value} (ho:oget objs i=some (.row e ty xs)) (ha:EltR ty xs.length (ρ i) j off A)
  (hl:All2 (CVR fz ρ w objs) lv ls) (hl1:∀ u∈ls,u.oneCell'=true) (hfit:off+lv.length≤ty.sz) (him:implode ty (replaceAt off lv (explode ty (xs.getD j ty.dflt)))=some (x,[])) :
  ∃ ad w',A=.pointer (some ad)∧(storeCells ad ls).run P w=.ok () w'∧OR fz old ρ w' (oset i (.row e ty (xs.set j x)) objs)∧Frm fz old w fz w':=by
 obtain ⟨hj,ad0,m,c,hV,rfl⟩:=ha
 obtain ⟨css,hk,hown,hn⟩:=h.obj i _ ho
 rcases hown.2 with ⟨h1,_⟩ | ⟨g,cap,cur,h1,_,hh,hnc,hcm,hcs,htake⟩
 ·rw [hV] at h1;cases h1
 ·rw [hV] at h1
  cases h1
  have hget:xs[j]?=some (xs.getD j ty.dflt):=by simp [List.getD_eq_getElem?_getD,List.getElem?_eq_getElem hj]
  obtain ⟨cj,hcj,hKj⟩:=hk.get j _ hget
  have hlj:=Ty.K_len fz w ty _ cj hKj
  have e2:=hl.length
  have hlens:=qba hk
  have hex:All2 (CVR fz ρ w objs) (replaceAt off lv (explode ty (xs.getD j ty.dflt))) (cj.take off++ls++cj.drop (off+ls.length)):=by
   have hex:=qbc (fz:=fz) (ρ:=ρ) (w:=w) (objs:=objs) ty _ cj hKj
   have:=All2.append (All2.append (All2.take off hex) hl) (All2.drop (off+lv.length) hex)
   rw [show cj.drop (off+lv.length)=cj.drop (off+ls.length) by rw [e2]] at this
   exact this
  obtain ⟨c0,c1,hc,hKx,hr⟩:=qa7 ty _ _ _ _ him hex
  have hc1:c1=[]:=by
   cases c1 with
   | nil=>rfl
   | cons=>exact hr.elim
  subst hc1
  rw [List.append_nil] at hc
  rw [←hc] at hKx
  have hflen:css.flatten.length=xs.length*ty.sz:=hown.1
  have hjs:j*ty.sz+ty.sz≤xs.length*ty.sz:=by
   rw [←Nat.succ_mul];exact Nat.mul_le_mul_right _ hj
  have hcap:xs.length*ty.sz≤c*ty.sz:=Nat.mul_le_mul_right _ hnc
  have hb:blkO objs ρ i=some g:=by rw [qao ho,hV];rfl
  obtain ⟨b1,b2,b3⟩:=h.blk_lt hb
  let cur':Array Value:=(cur.toList.take (j*ty.sz+off)++ls++cur.toList.drop (j*ty.sz+off+ls.length)).toArray
  have hf:Frm fz old w fz (w.setRow g cur'):=qfg b2 b3 cur'
  refine ⟨_,w.setRow g cur',rfl,?_,?_,hf⟩
  ·have:=run_storeCells_at (P:=P) g (j*ty.sz+off) e ls 0 cur w hh (by rw [hcs];omega) hl1
   rw [Addr.add_lit,Nat.zero_add]
   simpa [cur'] using this
  ·refine h.turn ho (.inr ⟨_,by simp,.inl rfl⟩) hf (fun j' hj' g' hg'=>?_) (fun k hk=>by rw [qcm];exact h.fzlt k hk) ?_
   ·have hne:g'≠g:=by
     rintro rfl
     exact h.apart i j' g' (Ne.symm hj') hb hg'
    exact ⟨setRow_other w g g' _ hne,(h.blk_lt hg').2.1⟩
   ·refine ⟨css.set j (cj.take off++ls++cj.drop (off+ls.length)),?_,?_,hn⟩
    ·refine All2.set j (hk.imp fun _ _ hx=>Ty.K_mono hf.up hf.fzw _ _ _ hx) (Ty.K_mono hf.up hf.fzw _ _ _ hKx)
    ·have hfl:=qdx j hlens hcj (vs:=ls) (off:=off) (by omega)
     refine ⟨?_,.inr ⟨g,c,cur',?_,Nat.zero_le _,setRow_heap w g cur _ e _ hh,by simp;exact hnc,hcm,?_,?_⟩⟩
     ·rw [←hfl]
      simp only [List.length_append,List.length_take,List.length_drop,List.length_set]
      omega
     ·rw [hV];simp
     ·simp only [cur',List.size_toArray,List.length_append,List.length_take,List.length_drop,Array.length_toList]
      omega
     ·have hls:(xs.set j x).length=xs.length:=List.length_set
      have hcl:cur.toList.length=cur.size:=Array.length_toList
      have hN:xs.length*ty.sz≤cur.toList.length:=by omega
      have htr:=take_replace (L:=cur.toList) (ls:=ls) (p:=j*ty.sz+off) (N:=xs.length*ty.sz) (by omega) hN
      rw [htake,hfl] at htr
      rw [hls]
      exact htr
theorem astore_ok (hT:TOk P τ) (h:OR fz old ρ w objs) {u t:Nat} {a v:AV} {A V:Value} {k:Objs→Option R} (ha:AVR fz ρ w objs a A) (hv:AVR fz ρ w objs v V) (hk:astore τ u t a v objs k=some r) :
  ∃ w',(Instr.storeAt t A V).run P w=.ok () w'∧∃ objs' fz' ρ',k objs'=some r∧OR fz' old ρ' w' objs'∧Ext objs ρ objs' ρ'∧Frm fz old w fz' w':=by
 unfold astore at hk
 split at hk
 ·rename_i ti l hti hl
  obtain ⟨hl1,hl2⟩:=qce h hv hl
  cases hc:Nat.beq l.length ti.size with
  | false=>simp [hc] at hk
  | true=>
    simp only [hc,cond_true] at hk
    have hsz:V.cells.size=ti.size:=by
     have:=hl1.length
     have h2:=Nat.eq_of_beq_eq_true hc
     simp at this
     omega
    have hrun:∀ (ad:Addr) w',(storeCells ad V.cells.toList).run P w=.ok () w'→(Instr.storeAt t (.pointer (some ad)) V).run P w=.ok () w':=by
     intro ad w' hs
     simp [Instr.storeAt,Instr.sureAddr,storeVar,(hT t ti hti).run_size,hsz,hs]
    split at hk
    ·rename_i i off
     split at hk
     ·rename_i ty cs ho
      cases hb:Nat.ble (off+l.length) cs.length with
      | false=>simp [hb] at hk
      | true=>
        simp only [hb,cond_true] at hk
        have hfit:=Nat.le_of_ble_eq_true hb
        cases hn:(List.range l.length).all fun j=>(oget objs (u+j)).isNone with
        | false=>simp [hn] at hk
        | true=>
          simp only [hn,cond_true] at hk
          have hn':∀ j,j<l.length→oget objs (u+j)=none:=by
           intro j hj
           rw [List.all_eq_true] at hn
           simpa using hn j (List.mem_range.2 hj)
          obtain ⟨ρ',g1,g2,g3,g4⟩:=qbt u l 0 ti.cty h hl1 (fun j _ hj=>hn' j (by omega))
          have hne:∀ m,0≤m→m<0+l.length→i≠u+m:=by
           intro m _ hm he
           have:=hn' m (by omega)
           rw [←he,ho] at this
           cases this
          have ho':oget (boxCells u 0 l ti.cty objs).2 i=some (.box ty cs):=by rw [g4 i hne,ho]
          obtain ⟨g,vs,hV,hh,hall,_,_,hone⟩:=g1.obj i _ ho'
          simp only [AVR,CVR,ho] at ha
          obtain ⟨g',hg',rfl⟩:=ha
          have hri:ρ' i=ρ i:=(g2.at_ i _ ho).1
          rw [←hri,hV] at hg'
          cases hg'
          have hlen:(boxCells u 0 l ti.cty objs).1.length=l.length:=by rw [g3.length,hl1.length]
          obtain ⟨s1,s2,s3⟩:=astore_box (P:=P) g1 ho' hV hh hall hone (off:=off) (by rw [hlen];exact hfit) g3 (fun x hx=>hl2 x (Array.mem_toList_iff.1 hx))
          exact ⟨_,hrun _ _ s1,_,fz,ρ',hk,s2,g2.trans (Ext.turn ho' ⟨_,rfl⟩),s3⟩
     ·cases hk
    ·rename_i i j off
     split at hk
     ·rename_i e ty xs ho
      cases hb:((keyOf v).contains i || (!Nat.ble (off+l.length) ty.sz || !(asVal objs v).isSome)) with
      | true=>rw [hb] at hk;cases hk
      | false=>
        rw [hb] at hk
        simp only [cond_false] at hk
        split at hk
        ·rename_i x him
         simp only [Bool.or_eq_false_iff,Bool.not_eq_false'] at hb
         obtain ⟨hni,hble,hsome⟩:=hb
         have hfit:off+l.length≤ty.sz:=Nat.le_of_ble_eq_true hble
         obtain ⟨fz',h1,h2,h3,h4⟩:=cellsVal_ok h hv hl
         have ho':oget (freezeAll (keyOf v) objs) i=some (.row e ty xs):=by
          rw [qbb _ (by simpa using hni),ho]
         have ha':EltR ty xs.length (ρ i) j off A:=by simpa [AVR,ho] using ha
         obtain ⟨ad,w',rfl,s1,s2,s3⟩:=astore_row (P:=P) h1 ho' ha' h4 (fun x hx=>hl2 x (Array.mem_toList_iff.1 hx)) (by simpa using hfit) him
         exact ⟨w',hrun _ _ s1,_,fz',ρ,hk,s2,h2.trans (Ext.turn ho' (.inr ⟨_,by simp,.inl rfl⟩)),h3.trans s3⟩
        ·cases hk
     ·cases hk
    ·cases hk
 ·cases hk
end
end Go.Proofs.YtkmpkebaloejhaaGreatDoor.Av
