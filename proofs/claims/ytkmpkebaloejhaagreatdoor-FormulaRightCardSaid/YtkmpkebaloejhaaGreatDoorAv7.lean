/- Freezing rows;structs built;new variables and rows. Conditions: none. -/
import Derived.Test.YtkmpkebaloejhaaGreatDoorAv6
import Derived.Laws.Tables
namespace Go.Proofs.YtkmpkebaloejhaaGreatDoor.Av
open Go
section
variable {R:Type} {old fz:Nat→Prop} {ρ:Nat→Value} {w:World} {objs:Objs} {r:R} {P:Program} {τ:Nat→Option TI} {B:Ops}
theorem freeze1_ok (h:OR fz old ρ w objs) (i:Nat):∃ fz',OR fz' old ρ w (freeze1 i objs)∧Ext objs ρ (freeze1 i objs) ρ∧Frm fz old w fz' w∧
  ∀ e t xs,rowOf objs i=some (e,⟨t,xs⟩)→Ty.K fz' w (.list e t) xs [ρ i]:=by
 unfold freeze1
 cases ho:oget objs i with
 | none=>exact ⟨fz,h,Ext.refl _ _,Frm.refl _ _ _,fun e t xs hr=>by simp [rowOf,ho] at hr⟩
 | some o=>
   cases o with
   | dead=>exact ⟨fz,h,Ext.refl _ _,Frm.refl _ _ _,fun e t xs hr=>by simp [rowOf,ho] at hr⟩
   | box ty cs=>exact ⟨fz,h,Ext.refl _ _,Frm.refl _ _ _,fun e t xs hr=>by simp [rowOf,ho] at hr⟩
   | mp ty a b l=>exact ⟨fz,h,Ext.refl _ _,Frm.refl _ _ _,fun e t xs hr=>by simp [rowOf,ho] at hr⟩
   | it s0 p0=>exact ⟨fz,h,Ext.refl _ _,Frm.refl _ _ _,fun e t xs hr=>by simp [rowOf,ho] at hr⟩
   | froz e t xs=>
     refine ⟨fz,h,Ext.refl _ _,Frm.refl _ _ _,fun e' t' xs' hr=>?_⟩
     simp only [rowOf,ho,Option.some.injEq,Prod.mk.injEq,Sigma.mk.injEq] at hr
     obtain ⟨rfl,rfl,hr⟩:=hr
     cases hr
     exact h.obj i _ ho
   | row e t xs=>
     let fz':Nat→Prop:=fun k=>fz k∨blkV (ρ i)=some k
     have hb:blkO objs ρ i=blkV (ρ i):=by rw [qao ho];rfl
     have hf:Frm fz old w fz' w:=⟨fun _ hk=>.inl hk,fun k hk hk'=>by
      rcases hk' with hk' | hk'
      ·exact hk'
      ·exact absurd hk (h.blk_lt (hb.trans hk')).2.2,fun _ _=>rfl,fun _ _=>rfl,Nat.le_refl _,rfl,rfl,rfl⟩
     have hK:Ty.K fz' w (.list e t) xs [ρ i]:=by
      obtain ⟨_,A,c,hV,hl,hm,hr⟩:=qar h (i:=i) (e:=e) (t:=t) (xs:=xs) (by simp [rowOf,ho])
      refine ⟨A,c,by rw [hV],hl,hm,?_⟩
      rcases hr with hr | ⟨ad,rfl,hx⟩
      ·exact .inl hr
      ·refine .inr ⟨ad,rfl,.inr (by rw [hV];rfl),fun j x hj=>?_⟩
       obtain ⟨cs,h1,h2⟩:=hx j x hj
       exact ⟨cs,Ty.K_mono (fun _ hk=>.inl hk) (fun _ _=>rfl) t x cs h1,h2⟩
     refine ⟨fz',?_,Ext.turn ho (.inr ⟨xs,rfl,.inr rfl⟩),hf,fun e' t' xs' hr=>?_⟩
     ·refine h.turn ho (.inr ⟨xs,rfl,.inr rfl⟩) hf (fun j hj g hg=>⟨rfl,fun hk=>?_⟩) (fun k hk=>?_) hK
      ·rcases hk with hk | hk
       ·exact (h.blk_lt hg).2.1 hk
       ·exact h.apart i j g (Ne.symm hj) (hb.trans hk) hg
      ·rcases hk with hk | hk
       ·exact h.fzlt k hk
       ·exact (h.blk_lt (hb.trans hk)).1
     ·simp only [rowOf,ho,Option.some.injEq,Prod.mk.injEq,Sigma.mk.injEq] at hr
      obtain ⟨rfl,rfl,hr⟩:=hr
      cases hr
      exact hK
theorem rowOf_freeze1 (i j:Nat):rowOf (freeze1 j objs) i=rowOf objs i:=by
 unfold freeze1
 cases ho:oget objs j with
 | none=>rfl
 | some o=>
   cases o with
   | row e t xs=>
     simp only [rowOf]
     by_cases h:j=i
     ·subst h;rw [qam,ho]
     ·rw [qap _ _ h]
   | _=>rfl
theorem qa6:∀ (l:List Nat) {fz:Nat→Prop} {objs:Objs},OR fz old ρ w objs→∃ fz',OR fz' old ρ w (freezeAll l objs)∧Ext objs ρ (freezeAll l objs) ρ∧Frm fz old w fz' w∧
  ∀ i∈l,∀ e t xs,rowOf objs i=some (e,⟨t,xs⟩)→Ty.K fz' w (.list e t) xs [ρ i]
 | [],fz,objs,h=>⟨fz,h,Ext.refl _ _,Frm.refl _ _ _,fun i hi=>by simp at hi⟩
 | j::l,fz,objs,h=>by
   obtain ⟨fz1,h1,e1,f1,k1⟩:=freeze1_ok h j
   obtain ⟨fz2,h2,e2,f2,k2⟩:=qa6 l h1
   refine ⟨fz2,h2,e1.trans e2,f1.trans f2,fun i hi e t xs hr=>?_⟩
   rcases List.mem_cons.1 hi with rfl | hi
   ·exact Ty.K_mono f2.up f2.fzw _ _ _ (k1 e t xs hr)
   ·exact k2 i hi e t xs (by rw [rowOf_freeze1];exact hr)
theorem view_K {t:Ty} {e:Nat} {xs:List t.den} {V v:Value} {lo hi:Nat} {tight:Bool} (hK:Ty.K fz w (.list e t) xs [V]) (hv:ViewR t xs.length V lo hi tight v):Ty.K fz w (.list e t) ((xs.take hi).drop lo) [v]:=by
 obtain ⟨A,c,hV,hl,hm,hr⟩:=hK
 simp only [List.cons.injEq,and_true] at hV
 obtain ⟨v1,v2,A',m',c1,c2,hV',hc2,v3,rfl⟩:=hv
 rw [hV] at hV'
 cases hV'
 have hlen:((xs.take hi).drop lo).length=hi-lo:=by simp [List.length_drop,List.length_take,Nat.min_eq_left v1]
 refine ⟨_,c2,by rw [hlen],by rw [hlen,hc2];split<;>omega,by rw [hc2];split<;>omega,?_⟩
 by_cases ht:tight=true
 ·rw [if_pos ht]
  by_cases he:(xs.take hi).drop lo=[]
  ·exact .inl he
  ·have:=rowK_sub (t:=t) (A:=A) (l:=lo) (h:=hi) (cap:=hi+xs.length+1) hr v2 v1 (by omega)
   rcases this with h1 | ⟨ad,h1,h2,h3⟩
   ·exact .inl h1
   ·refine .inr ⟨ad,?_,h2,h3⟩
    have hlt:lo<hi:=by
     rcases Nat.lt_or_ge lo hi with h4 | h4
     ·exact h4
     ·exfalso;apply he;apply List.drop_eq_nil_of_le;simp;omega
    rw [if_neg (by omega)] at h1
    rw [if_neg (by omega)]
    exact h1
 ·rw [if_neg ht]
  exact rowK_sub hr v2 v1 hl
theorem asVal_ok (h:OR fz old ρ w objs) {v v':AV} {V:Value} (hv:AVR fz ρ w objs v V) (ha:asVal objs v=some v') :
  ∃ fz',OR fz' old ρ w (freezeAll (keyOf v) objs)∧Ext objs ρ (freezeAll (keyOf v) objs) ρ∧Frm fz old w fz' w∧AVR fz' ρ w (freezeAll (keyOf v) objs) v' V∧
    ∀ i∈keyOf v,∀ e t xs,rowOf objs i=some (e,⟨t,xs⟩)→Ty.K fz' w (.list e t) xs [ρ i]:=by
 obtain ⟨fz',h1,h2,h3,h4⟩:=qa6 (keyOf v) h
 refine ⟨fz',h1,h2,h3,?_,h4⟩
 unfold asVal at ha
 split at ha
 ·rename_i i
  split at ha
  ·rename_i e t xs hr
   cases ha
   obtain ⟨ho,A,c,hV,hl,hm,hrr⟩:=qar h hr
   have hX:V=ρ i:=by
    rcases ho with ho | ho<;>simpa [AVR,CVR,ho] using hv
   rw [hX]
   exact h4 i (by simp [keyOf]) e t xs hr
  ·cases ha
 ·rename_i i lo hi tight
  split at ha
  ·rename_i e t xs hr
   cases ha
   obtain ⟨ho,A,c,hV,hl,hm,hrr⟩:=qar h hr
   have hX:ViewR t xs.length (ρ i) lo hi tight V:=by
    rcases ho with ho | ho<;>simpa [AVR,ho] using hv
   exact view_K (h4 i (by simp [keyOf]) e t xs hr) hX
  ·cases ha
 ·cases ha
  obtain ⟨A,c,hV,hc,_⟩:=hv
  exact ⟨A,c,by rw [hV];rfl,Nat.zero_le _,hc,.inl rfl⟩
 ·cases ha
  obtain ⟨A,hV⟩:=hv
  exact ⟨A,0,by rw [hV];rfl,Nat.zero_le _,Nat.zero_le _,.inl rfl⟩
 ·cases ha
  exact AVR.mono h2 h3.up h3.fzw hv
theorem qbn (h:OR fz old ρ w objs) {fz':Nat→Prop} {objs':Objs} (he:Ext objs ρ objs' ρ) (hf:Frm fz old w fz' w) {c:CV} {V:Value} (hc:CVR fz ρ w objs c V)
  (hk:∀ i,c=.own i→∀ e t xs,rowOf objs i=some (e,⟨t,xs⟩)→Ty.K fz' w (.list e t) xs [ρ i]):CVR fz' ρ w objs' (cellVal objs c) V:=by
 unfold cellVal
 split
 ·rename_i i
  split
  ·rename_i e t xs hr
   obtain ⟨ho,A,c,hV,hl,hm,hrr⟩:=qar h hr
   have hX:V=ρ i:=by
    rcases ho with ho | ho<;>simpa [CVR,ho] using hc
   rw [hX]
   exact hk i rfl e t xs hr
  ·trivial
 ·exact CVR.mono he hf.up hf.fzw hc
theorem intoElem_ok (h:OR fz old ρ w objs) {t:Ty} {v:AV} {V:Value} {x:t.den} {objs':Objs} (hv:AVR fz ρ w objs v V) (hi:intoElem t v objs=some (x,objs')) :
  ∃ fz',OR fz' old ρ w objs'∧Ext objs ρ objs' ρ∧Frm fz old w fz' w∧t.K fz' w x V.cells.toList∧∀ u∈V.cells,u.oneCell'=true:=by
 unfold intoElem at hi
 split at hi
 ·rename_i v' hv'
  split at hi
  ·rename_i l hl
   split at hi
   ·rename_i x' him
    cases hi
    obtain ⟨fz',h1,h2,h3,h4,h5⟩:=asVal_ok h hv hv'
    refine ⟨fz',h1,h2,h3,?_⟩
    have hall:All2 (CVR fz' ρ w (freezeAll (keyOf v) objs)) (l.map (cellVal objs)) V.cells.toList∧∀ u∈V.cells,u.oneCell'=true:=by
     have one:∀ x:CV,(∀ i,x≠.own i)→v'=.c x→All2 (CVR fz' ρ w (freezeAll (keyOf v) objs)) (l.map (cellVal objs)) V.cells.toList∧∀ u∈V.cells,u.oneCell'=true:=by
      intro x hx hv2
      subst hv2
      simp only [cellsOf] at hl
      cases hg:goodC objs x with
      | false=>simp [hg] at hl
      | true=>
        simp [hg] at hl
        subst hl
        have hcx:cellVal objs x=x:=by cases x<;>first | rfl | exact absurd rfl (hx _)
        have hg':goodC (freezeAll (keyOf v) objs) x=true:=by
         cases x with
         | own i=>exact absurd rfl (hx i)
         | ptr i off=>
           simp only [goodC] at hg ⊢
           split at hg
           ·rename_i ty cs ho
            obtain ⟨_,o',ho',hc⟩:=h2.at_ i _ ho
            obtain ⟨cs',rfl⟩:=hc
            rw [ho']
           ·cases hg
         | _=>first | rfl | simp [goodC] at hg
        have h6:=CVR.one h1 hg' h4
        rw [qb3 h6]
        simp only [List.map_cons,List.map_nil,hcx]
        exact ⟨⟨h4,trivial⟩,by simpa using h6⟩
     cases v with
     | agg la=>
       simp only [asVal,Option.some.injEq] at hv'
       subst hv'
       simp only [cellsOf,Option.some.injEq] at hl
       subst hl
       obtain ⟨cs,rfl,ha,hone⟩:=hv
       refine ⟨All2.map_left (All2.imp_mem (fun c u hc hcu=>qbn h h2 h3 hcu fun i hci e ty xs hr=>?_) ha),hone⟩
       refine h5 i ?_ e ty xs hr
       simp only [keyOf,List.mem_filterMap]
       exact ⟨c,hc,by rw [hci]⟩
     | c x=>
       cases x with
       | own i=>
         simp only [asVal] at hv'
         split at hv'
         ·cases hv'
          exact one _ (fun _=>by simp) rfl
         ·cases hv'
       | _=>
         simp only [asVal,Option.some.injEq] at hv'
         exact one _ (fun _=>by simp) hv'.symm
     | view i lo hi b=>
       simp only [asVal] at hv'
       split at hv'
       ·cases hv'
        exact one _ (fun _=>by simp) rfl
       ·cases hv'
     | nz e t b=>
       simp only [asVal,Option.some.injEq] at hv'
       exact one _ (fun _=>by simp) hv'.symm
     | t0 e t=>
       simp only [asVal,Option.some.injEq] at hv'
       exact one _ (fun _=>by simp) hv'.symm
     | _=>
       simp only [asVal,Option.some.injEq] at hv'
       subst hv'
       simp [cellsOf] at hl
    obtain ⟨c0,c1,hc,hK,hr⟩:=qa7 t _ _ _ _ him hall.1
    cases c1 with
    | nil=>rw [hc,List.append_nil];exact ⟨hK,hall.2⟩
    | cons=>exact hr.elim
   ·cases hi
  ·cases hi
 ·cases hi
theorem fold_set (l:List Value):∀ (k off:Nat) (cells:Array Value),off+k+l.length≤cells.size→
  ((l.zipIdx k).foldl (fun cs (x:Value×Nat)=>cs.setIfInBounds (off+x.2) x.1) cells).toList=cells.toList.take (off+k)++l++cells.toList.drop (off+k+l.length):=by
 induction l with
 | nil=>intro k off cells h;simp
 | cons v l ih=>
   intro k off cells h
   simp only [List.zipIdx_cons,List.foldl_cons]
   rw [ih (k+1) off _ (by simp at h ⊢;omega)]
   simp only [Array.toList_setIfInBounds,List.length_cons] at h ⊢
   have hlt:off+k<cells.toList.length:=by simp;omega
   rw [show off+(k+1)=off+k+1 by omega]
   have h1:(cells.toList.set (off+k) v).take (off+k+1)=cells.toList.take (off+k)++[v]:=by
    rw [List.take_set,List.take_succ_eq_append_getElem hlt,List.set_append_right _ _ (by simp;omega)]
    have hm:min (off+k) cells.size=off+k:=by simp at hlt;omega
    simp [hm]
   have h2:(cells.toList.set (off+k) v).drop (off+k+1+l.length)=cells.toList.drop (off+k+(l.length+1)):=by
    rw [List.drop_set_of_lt (by omega)]
    congr 1
    omega
   rw [h1,h2]
   simp
theorem fill_one {cells:Array Value} {v:Value} {off:Nat} (h:off+v.cells.size≤cells.size) :
  (v.cells.zipIdx.foldl (fun cs (x:Value×Nat)=>cs.setIfInBounds (off+x.2) x.1) cells).toList=cells.toList.take off++v.cells.toList++cells.toList.drop (off+v.cells.size):=by
 have:=fold_set v.cells.toList 0 off cells (by simpa using h)
 rw [←Array.foldl_toList,Array.toList_zipIdx]
 simpa using this
theorem qen (h:OR fz old ρ w objs) {fs:List (Nat×Nat)} {place:Nat→Option (Nat×Nat)} (hp:∀ i p,fs[i]?=some p→place i=some p) :
  ∀ {ps:List (Nat×AV)} {qs:List (Nat×Value)} {cs cs':List CV} {CS:Array Value},All2 (fun p q=>p.1=q.1∧AVR fz ρ w objs p.2 q.2) ps qs→fillAt objs fs ps cs=some cs'→All2 (CVR fz ρ w objs) cs CS.toList→(∀ u∈CS,u.oneCell'=true)→
   ∃ CS',Instr.fill place CS qs=some CS'∧All2 (CVR fz ρ w objs) cs' CS'.toList∧(∀ u∈CS',u.oneCell'=true)
 | [],qs,cs,cs',CS,hq,hf,ha,h1=>by
  cases qs with
  | cons=>exact hq.elim
  | nil=>
    simp only [fillAt,Option.some.injEq] at hf
    subst hf
    exact ⟨CS,rfl,ha,h1⟩
 | (i,v)::ps,qs,cs,cs',CS,hq,hf,ha,h1=>by
   cases qs with
   | nil=>exact hq.elim
   | cons q qs=>
     obtain ⟨⟨hi,hv⟩,hq⟩:=hq
     obtain ⟨i',V⟩:=q
     simp only at hi hv
     subst hi
     simp only [fillAt] at hf
     split at hf
     ·rename_i off n l hfs hl
      cases hc:(Nat.beq l.length n && Nat.ble (off+n) cs.length) with
      | false=>simp [hc] at hf
      | true=>
        simp only [hc,cond_true] at hf
        simp only [Bool.and_eq_true] at hc
        have e1:l.length=n:=Nat.eq_of_beq_eq_true hc.1
        have e2:off+n≤cs.length:=Nat.le_of_ble_eq_true hc.2
        obtain ⟨hlv,h1v⟩:=qce h hv hl
        have e3:=hlv.length
        have e4:=ha.length
        have e5:V.cells.size=n:=by simp at e3;omega
        have hfit:off+V.cells.size≤CS.size:=by simp at e4;omega
        have hone:=fill_one hfit
        have hall:All2 (CVR fz ρ w objs) (replaceAt off l cs) (V.cells.zipIdx.foldl (fun cs (x:Value×Nat)=>cs.setIfInBounds (off+x.2) x.1) CS).toList:=by
         rw [hone]
         unfold replaceAt
         refine All2.append (All2.append (All2.take off ha) hlv) ?_
         rw [e5,e1]
         exact All2.drop _ ha
        have hone1:∀ u∈(V.cells.zipIdx.foldl (fun cs (x:Value×Nat)=>cs.setIfInBounds (off+x.2) x.1) CS),u.oneCell'=true:=by
         intro u hu
         rw [←Array.mem_toList_iff,hone] at hu
         rcases List.mem_append.1 hu with hu | hu
         ·rcases List.mem_append.1 hu with hu | hu
          ·exact h1 u (Array.mem_toList_iff.1 (List.mem_of_mem_take hu))
          ·exact h1v u (Array.mem_toList_iff.1 hu)
         ·exact h1 u (Array.mem_toList_iff.1 (List.mem_of_mem_drop hu))
        obtain ⟨CS',g1,g2,g3⟩:=qen h hp hq hf hall hone1
        refine ⟨CS',?_,g2,g3⟩
        simp only [Instr.fill,hp i _ hfs,e5]
        have hno:¬ (n≠n || decide (off+n > CS.size))=true:=by simp;omega
        rw [if_neg hno]
        exact g1
     ·cases hf
theorem abuild_ok (hT:TOk P τ) (h:OR fz old ρ w objs) {t:Nat} {ps:List (Nat×AV)} {qs:Array (Nat×Value)} {k:AV→Option R} (hq:All2 (fun p q=>p.1=q.1∧AVR fz ρ w objs p.2 q.2) ps qs.toList) (hk:abuild τ t ps objs k=some r) :
  Reads P fz ρ w objs (Instr.build t qs) k r:=by
 unfold abuild at hk
 split at hk
 ·rename_i ti hti
  obtain ⟨z,hz,hz2,hz3⟩:=(hT t ti hti).run_zero
  have ha:All2 (CVR fz ρ w objs) ti.zero z.cells.toList:=hz2.imp fun _ _ hc=>CVR.of_zero hc
  have hkind:=(hT t ti hti).kind
  split at hk
  ·rename_i fs hfs
   rw [hfs] at hkind
   obtain ⟨fields,hu,hok⟩:=hkind
   split at hk
   ·rename_i pl hpl
    split at hk
    ·rename_i l hl
     have hplaces:∀ (fds:List Field) (fs':List (Nat×Nat)) (pl':List (Nat×Nat)),All2 (fun (f:Field) (p:Nat×Nat)=>f.offset=p.1∧f.type=p.2∧∃ i,P.info? f.type=some i∧0<i.size) fds fs'→placesOf τ fs'=some pl'→
       fds.mapM (fun f=>(P.info? f.type).map fun i=>(f.offset,i.size))=some pl':=by
      intro fds
      induction fds with
      | nil=>
        intro fs' pl' ha hp
        cases fs' with
        | nil=>simp [placesOf] at hp;subst hp;rfl
        | cons=>exact ha.elim
      | cons fd fds ih=>
        intro fs' pl' ha hp
        cases fs' with
        | nil=>exact ha.elim
        | cons p fs'=>
          obtain ⟨off,ft⟩:=p
          simp only [placesOf] at hp
          split at hp
          ·rename_i tf ps' htf hps
           cases hp
           obtain ⟨⟨e1,e2,i,e3,_⟩,ha⟩:=ha
           simp only at e1 e2
           have h4:=ih fs' ps' ha hps
           obtain ⟨i',_,h5,h6,_⟩:=(hT ft tf htf).info
           rw [e2] at e3
           rw [h5] at e3
           cases e3
           simp [List.mapM_cons,e1,e2,h5,h4,h6]
          ·cases hp
     have hpp:=hplaces _ _ _ hok hpl
     obtain ⟨it,z',hit,_,_,hz',_⟩:=(hT t ti hti).info
     have hzz:z'=z:=by
      have hz:=hz w
      simp [zeroValue,typeInfo,hit,hz'] at hz
      exact hz
     subst hzz
     obtain ⟨CS',g1,g2,g3⟩:=qen h (place:=(pl.toArray[·]?)) (fun i p hp=>by simpa using hp) hq hl ha hz3
     refine ⟨_,.agg CS',fun w'=>run_build w' t qs CS' ?_,hk,CS',rfl,g2,g3⟩
     simp only [Program.built,hit,hu,hz',hpp]
     exact g1
    ·cases hk
   ·cases hk
  ·rename_i n e hne
   rw [hne] at hkind
   split at hk
   ·rename_i te hte
    split at hk
    ·rename_i l hl
     obtain ⟨CS',g1,g2,g3⟩:=qen h (place:=fun i=>some (i*te.size,te.size)) (fun i p hp=>by
      simp only [List.getElem?_map] at hp
      cases hr:(List.range n)[i]? with
      | none=>rw [hr] at hp;cases hp
      | some j=>
        rw [hr] at hp
        have:i=j:=by
         have h1:=(List.getElem?_eq_some_iff.1 hr).2
         simpa using h1
        subst this
        simpa using hp) hq hl ha hz3
     exact ⟨_,.agg CS',fun w'=>by simp [Instr.build,hz,run_underlying hkind,(hT e te hte).run_size,g1],hk,CS',rfl,g2,g3⟩
    ·cases hk
   ·cases hk
  ·cases hk
 ·cases hk
end
end Go.Proofs.YtkmpkebaloejhaaGreatDoor.Av
