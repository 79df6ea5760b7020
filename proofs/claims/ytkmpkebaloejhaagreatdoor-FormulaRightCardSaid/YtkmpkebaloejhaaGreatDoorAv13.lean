/- Calls: what the caller learns. Conditions: none. -/
import Derived.Test.YtkmpkebaloejhaaGreatDoorAv12
namespace Go.Proofs.YtkmpkebaloejhaaGreatDoor.Av
open Go
section
variable {R:Type} {old fz fz':Nat→Prop} {ρ ρ':Nat→Value} {w w':World} {objs objs':Objs} {m b:Ren} {r:R} {P:Program} {τ:Nat→Option TI} {B:Ops} {gl:Nat→Option (List CV)}
theorem All2.zipIdx {α β γ:Type} {Q:α→β→Prop} {Q':γ→β→Prop} {f:α×Nat→γ}:∀ {l:List α} {vs:List β} (j:Nat),All2 Q l vs→(∀ a v i,(a,i)∈l.zipIdx j→Q a v→Q' (f (a,i)) v)→All2 Q' ((l.zipIdx j).map f) vs
 | [],[],_,_,_=>trivial
 | a::l,v::vs,j,h,hf=>by
   simp only [List.zipIdx_cons,List.map_cons]
   exact ⟨hf a v j (by simp) h.1,All2.zipIdx (j+1) h.2 fun a v i hi hq=>hf a v i (by rw [List.zipIdx_cons];exact List.mem_cons_of_mem _ hi) hq⟩
 | [],_::_,_,h,_=>h.elim
 | _::_,[],_,h,_=>h.elim
theorem qer {fz:Nat→Prop} {ρ:Nat→Value} {w:World} {objs:Objs}:∀ (q:List (Option (Nat×Ty))) (l:List CV) (cs:List Value),All2 (CVR fz ρ w objs) l cs→All2 (CVR fz ρ w objs) (nilCells q l) cs
 | [],l,cs,h=>by cases l<;>exact h
 | o::_,[],[],_=>by cases o<;>trivial
 | _::_,[],_::_,h=>h.elim
 | o::q,c::l,[],h=>h.elim
 | o::q,c::l,v::cs,h=>by
   have ih:=qer q l cs h.2
   cases o with
   | none=>exact ⟨h.1,ih⟩
   | some p=>
     obtain ⟨e,t⟩:=p
     cases c with
     | nil=>
       have hV:v=.slice none 0 0:=h.1
       exact ⟨⟨none,0,by rw [hV];rfl,Nat.le_refl _,Nat.zero_le _,.inl rfl⟩,ih⟩
     | _=>exact ⟨h.1,ih⟩
theorem argVal_ok (h:OR fz old ρ w objs) (hup:∀ k,fz k→fz' k) {o:Bool} {ti:Option TI} {a:AV} {V:Value} (ha:AVR fz ρ w objs a V)
  (hl:∀ i∈lentOf o a,∀ e t xs,rowOf objs i=some (e,⟨t,xs⟩)→Ty.K fz' w (.list e t) xs [ρ i]):AVR fz' ρ w objs (argVal o objs ti τ a) V:=by
 have hm:AVR fz' ρ w objs a V:=AVR.mono (Ext.refl _ _) hup (fun _ _=>rfl) ha
 unfold argVal
 split
 ·split
  ·split
   ·have hV:V=.slice none 0 0:=ha
    exact ⟨none,0,by rw [hV];rfl,Nat.le_refl _,Nat.zero_le _,.inl rfl⟩
   ·exact hm
  ·exact hm
 ·rename_i i
  cases o with
  | true=>exact hm
  | false=>
    simp only [cond_false,asVal]
    cases hr:rowOf objs i with
    | none=>exact trivial
    | some q=>
      obtain ⟨e,t,xs⟩:=q
      obtain ⟨ho,_⟩:=qar h hr
      have hX:V=ρ i:=by rcases ho with ho | ho<;>simpa [AVR,CVR,ho] using ha
      rw [hX]
      exact hl i (by simp [lentOf,keyOf]) e t xs hr
 ·rename_i i lo hi b
  simp only [asVal]
  cases hr:rowOf objs i with
  | none=>exact trivial
  | some q=>
    obtain ⟨e,t,xs⟩:=q
    obtain ⟨ho,_⟩:=qar h hr
    have hX:ViewR t xs.length (ρ i) lo hi b V:=by rcases ho with ho | ho<;>simpa [AVR,ho] using ha
    exact view_K (hl i (by simp [lentOf]) e t xs hr) hX
 ·rename_i l
  cases o with
  | true=>exact hm
  | false=>
    simp only [cond_false]
    obtain ⟨cs,rfl,hc,h1⟩:=ha
    refine ⟨cs,rfl,qer _ _ _ (All2.map_l (All2.imp_mem (fun c v hcm hcv=>?_) hc)),h1⟩
    unfold cellVal
    split
    ·rename_i i
     cases hr:rowOf objs i with
     | none=>exact trivial
     | some q=>
       obtain ⟨e,t,xs⟩:=q
       obtain ⟨ho,_⟩:=qar h hr
       have hX:v=ρ i:=by rcases ho with ho | ho<;>simpa [CVR,ho] using hcv
       rw [hX]
       refine hl i ?_ e t xs hr
       simp only [lentOf,cond_false,keyOf,List.mem_filterMap]
       exact ⟨_,hcm,rfl⟩
    ·exact CVR.mono (Ext.refl _ _) hup (fun _ _=>rfl) hcv
 ·exact hm
theorem qd9:∀ {objs:Objs} {i:Nat} {o:Obj},oget objs i=some o→(i,o)∈objs
 | [],_,_,h=>by simp [oget] at h
 | (j,p)::l,i,o,h=>by
   simp only [oget] at h
   cases hb:Nat.beq j i with
   | true=>
     rw [hb] at h
     simp only [cond_true,Option.some.injEq] at h
     rw [Nat.eq_of_beq_eq_true hb,h]
     exact List.mem_cons_self
   | false=>
     rw [hb] at h
     exact List.mem_cons_of_mem _ (qd9 h)
theorem CVR.plain {fz2:Nat→Prop} {ρ2:Nat→Value} {objs2:Objs} (ht:RenTo b objs' ρ' objs2 ρ2) {c:CV} {v:Value} (hp:plainC objs' c=true) (h:CVR fz' ρ' w' objs' c v):CVR fz2 ρ2 w' objs2 (renC b objs' c) v:=by
 cases c with
 | int k n=>exact h
 | bool b=>exact h
 | str s=>exact h
 | bot=>trivial
 | nil=>simp [plainC,scalarC] at hp
 | list e t xs=>simp [plainC,scalarC] at hp
 | ptr i off=>simp [plainC,scalarC] at hp
 | own i=>
   simp only [plainC] at hp
   cases ho:oget objs' i with
   | none=>rw [ho] at hp;simp at hp
   | some o=>
     rw [ho] at hp
     cases o with
     | row e t xs=>
       simp only [renC]
       cases hn:b.new i with
       | none=>simp only [frozC,ho];trivial
       | some n=>
         obtain ⟨h1,h2⟩:=ht.to n i _ (Ren.new_some hn) ho
         simp only [CVR,h1,renO,h2]
         simpa [CVR,ho] using h
     | dead=>simp at hp
     | froz e t xs=>simp at hp
     | box ty cs=>simp at hp
     | mp ty a b' l=>simp at hp
     | it s0 p0=>simp at hp
theorem CVR.plain_all {fz2:Nat→Prop} {ρ2:Nat→Value} {objs2:Objs} (ht:RenTo b objs' ρ' objs2 ρ2) {l:List CV} {vs:List Value} (hp:l.all (plainC objs')=true) (h:All2 (CVR fz' ρ' w' objs') l vs):All2 (CVR fz2 ρ2 w' objs2) (l.map (renC b objs')) vs:=
 All2.map_l (All2.imp_mem (fun c v hm hc=>CVR.plain ht (List.all_eq_true.1 hp c hm) hc) h)
theorem AVR.plain {fz2:Nat→Prop} {ρ2:Nat→Value} {objs2:Objs} (ht:RenTo b objs' ρ' objs2 ρ2) {a:AV} {v:Value} (hp:plainA objs' a=true) (h:AVR fz' ρ' w' objs' a v):AVR fz2 ρ2 w' objs2 (renA b objs' a) v:=by
 cases a with
 | c x=>exact CVR.plain ht hp h
 | agg l=>
   obtain ⟨cs,rfl,h,h1⟩:=h
   exact ⟨cs,rfl,CVR.plain_all ht hp h,h1⟩
 | tup l=>
   obtain ⟨vs,rfl,h⟩:=h
   refine ⟨vs,rfl,All2.map_l (All2.imp_mem (fun x u hm h=>?_) h)⟩
   have hpx:=List.all_eq_true.1 hp x hm
   split at h
   ·rename_i hx
    obtain ⟨cs,rfl,h,h1⟩:=h
    rw [if_pos hx]
    exact ⟨cs,rfl,CVR.plain_all ht hpx h,h1⟩
   ·rename_i hx
    obtain ⟨c,hc,h⟩:=h
    rw [if_neg hx]
    rw [hc] at hpx
    simp at hpx
    exact ⟨renC b objs' c,by simp [hc],CVR.plain ht hpx h⟩
 | view i lo hi b=>simp [plainA] at hp
 | elt i j off=>simp [plainA] at hp
 | eltv l=>simp [plainA] at hp
 | aelt i off n j=>simp [plainA] at hp
 | fn f caps=>simp [plainA] at hp
 | bm f caps=>simp [plainA] at hp
 | t0 e t=>exact h
 | und=>simp [plainA] at hp
 | nz e t b=>exact h
theorem acall_ok {G:Nat→List AV→Objs→(AV→Objs→Option R)→Option R} {owns:Nat→Nat→Bool} {u f:Nat} {tys:List Nat} (hG:GOk P gl G) (hgl:GlR fz w gl) (h:OR fz old ρ w objs) {args:List AV} {vs:Array Value} (ha:All2 (AVR fz ρ w objs) args vs.toList) {k:AV→Objs→Option R}
  (hk:acall τ G owns u f tys args objs k=some r):(∃ fn,P.funcs[f]?=some fn∧(fn.name == "runtime.NumGoroutine")=false∧fn.body.isNone=false)∧Calls P f vs w fun e w'=>∃ V,e=.returned V∧Lands old fz ρ w objs k r V w':=by
 unfold acall at hk
 simp only [] at hk
 generalize hm:args.zipIdx.foldl (fun m aj=>reach objs (owns f aj.2) aj.2 aj.1 m) []=m at hk
 generalize hlent:args.zipIdx.flatMap (fun aj=>lentOf (owns f aj.2) aj.1)=lent at hk
 cases hfine:((m.fine && nomp objs m) && lent.all fun i=>!m.has i) with
 | false=>rw [hfine] at hk;simp at hk
 | true=>
 rw [hfine] at hk
 simp only [cond_true] at hk
 simp only [Bool.and_eq_true,List.all_eq_true,Bool.not_eq_true'] at hfine
 obtain ⟨⟨hmf,hnm⟩,hdis⟩:=hfine
 obtain ⟨v,objs',hk,hspec⟩:=hG _ _ _ _ _ hk
 obtain ⟨fz1,h1,e1,f1,k1⟩:=qa6 lent h
 have hsame:∀ n i,(n,i)∈m→oget (freezeAll lent objs) i=oget objs i:=fun n i hi=>qbb lent fun hl=>by
  have:=hdis i hl
  rw [Ren.has_iff.2 ⟨n,hi⟩] at this;cases this
 have hblk:∀ n i g,(n,i)∈m→blkO objs ρ i=some g→¬ oldC m objs ρ w g∧¬ fz1 g:=fun n i g hi hg=>by
  refine ⟨fun ho=>ho.2 n i hi hg,?_⟩
  refine (h1.blk_lt (i:=i) ?_).2.1
  unfold blkO at hg ⊢
  rw [hsame n i hi];exact hg
 have hor:OR fz1 (oldC m objs ρ w) (renρ m ρ) w (renObjs m objs):=h.ren hmf f1.up h1.fzlt (fun k hk=>hk.1) hblk
 have hargs:All2 (AVR fz1 (renρ m ρ) w (renObjs m objs)) (args.zipIdx.map fun aj=>renA m objs (argVal (owns f aj.2) objs (bif owns f (1000+aj.2) then none else (tys[aj.2]?).bind τ) τ aj.1)) vs.toList:=by
  refine All2.zipIdx 0 ha fun a v i hi hav=>?_
  refine AVR.ren (fun i e t xs hx=>Ty.K_mono f1.up (fun _ _=>rfl) _ _ _ (h.froz i e t xs hx)) (qb5 (Ren.fine_ok hmf).1) (argVal_ok h f1.up hav fun j hj=>?_)
  exact k1 j (by rw [←hlent];exact List.mem_flatMap.2 ⟨_,hi,hj⟩)
 refine ⟨hspec.1,(hspec.2 (oldC m objs ρ w) fz1 (renρ m ρ) w vs (hgl.mono f1.up fun _ _=>rfl) hor hargs).mono fun e w' hr=>?_⟩
 obtain ⟨V,ρ',fz',rfl,hv,hor',hfrm,hbk⟩:=hr
 refine ⟨V,rfl,?_⟩
 have hold:∀ k,old k→oldC m objs ρ w k:=fun k hk=>⟨h.oldlt k hk,fun n i hi hb=>(h.blk_lt hb).2.2 hk⟩
 generalize hb:backKeys u 0 objs' (boxBack objs m)=b at hk
 have b2:∀ k n,(n,k)∈m→(∃ ty cs,oget objs k=some (.box ty cs))→(k,n)∈b:=fun k n h1 h2=>by
  rw [←hb];exact qax u objs' 0 _ (qbu.2 ⟨h1,h2⟩)
 cases hfresh:(b.fine && ((List.range objs'.length).all fun j=>(oget objs (u+j)).isNone)) with
 | false=>rw [hfresh] at hk;simp at hk
 | true=>
 rw [hfresh] at hk
 simp only [cond_true] at hk
 simp only [Bool.and_eq_true,List.all_eq_true,List.mem_range,Option.isNone_iff_eq_none] at hfresh
 obtain ⟨hbf,hfr⟩:=hfresh
 have b1:∀ k n,(k,n)∈b→(n,k)∈m∧(∃ ty cs,oget objs k=some (.box ty cs))∨oget objs k=none:=fun k n hkn=>by
  rw [←hb] at hkn
  rcases qbk u objs' 0 _ hkn with h1 | ⟨j',_,h2,h3⟩
  ·exact .inl (qbu.1 h1)
  ·right
   simp only at h3
   rw [h3]
   exact hfr j' (by omega)
 cases hpl:(plainA objs' v && (m.isEmpty && plainO objs')) with
 | false=>
   rw [hpl] at hk
   simp only [cond_false] at hk
   have hB:Back m b objs (freezeAll lent objs) objs' ρ ρ' old fz1 fz' fz' w w':=
    { mf:=hmf,bf:=hbf,baseR:=h1,same:=hsame,empty:=fun i hi=>qaz lent hi,calleeR:=hor',boxes:=hbk,b1:=b1,b2:=b2
      frm:=⟨hfrm.up,fun k hk=>hfrm.back k (hold k hk),hfrm.fzw,fun k hk=>hfrm.oldw k (hold k hk),hfrm.size,hfrm.os,hfrm.tape,hfrm.output⟩
      still:=fun k hk=>⟨hfrm.oldw k hk,hfrm.back k hk⟩,lt2:=hor'.fzlt,nomp:=hnm }
   refine ⟨_,_,fz',backρ b ρ' ρ,hk,AVR.ren hor'.froz hB.renTo hv,hB.or fun k n o hkn ho=>?_,e1.trans hB.ext,f1.trans hB.frm⟩
   refine ObjR.ren hor'.froz hB.renTo (fun g hl hg hog=>?_) (hor'.obj n o ho)
   refine (hor'.blk_lt (i:=n) ?_).2.2 (hold g hog)
   rw [qao ho,hl];exact blkV_of hg
 | true=>
   rw [hpl] at hk
   simp only [cond_true] at hk
   simp only [Bool.and_eq_true] at hpl
   obtain ⟨hp1,hp2,hp3⟩:=hpl
   have hB:Back m b objs objs objs' ρ ρ' old fz fz fz' w w':=
    { mf:=hmf,bf:=hbf,baseR:=h,same:=fun _ _ _=>rfl,empty:=fun i hi=>hi,calleeR:=hor',boxes:=hbk,b1:=b1,b2:=b2
      frm:=⟨fun _ h=>h,fun _ _ h=>h,fun k hk=>hfrm.fzw k (f1.up k hk),fun k hk=>hfrm.oldw k (hold k hk),hfrm.size,hfrm.os,hfrm.tape,hfrm.output⟩
      still:=fun k hk=>⟨hfrm.oldw k hk,fun h=>h⟩,lt2:=fun k hk=>Nat.lt_of_lt_of_le (h.fzlt k hk) hfrm.size,nomp:=hnm }
   refine ⟨_,_,fz,backρ b ρ' ρ,hk,AVR.plain hB.renTo hp1 hv,hB.or fun k n o hkn ho=>?_,hB.ext,hB.frm⟩
   have hx:=List.all_eq_true.1 hp3 _ (qd9 ho)
   cases o with
   | dead=>trivial
   | froz e t xs=>simp at hx
   | box ty cs=>simp at hx
   | mp ty a b' l=>simp at hx
   | it s0 p0=>simp at hx
   | row e t xs=>
     simp only at hx
     obtain ⟨css,c1,c2,c3⟩:=hor'.obj n _ ho
     exact ⟨css,c1.imp fun _ _ hc=>Ty.K_scalar _ _ _ hx hc,c2,fun g hg=>⟨fun hf=>(c3 g hg).1 (hfrm.up g (f1.up g hf)),fun ho=>(c3 g hg).2 (hold g ho)⟩⟩
theorem qdc {own:Nat→Bool} {u:Nat} {tys:List Nat}:∀ (args:List AV) (j:Nat) {objs:Objs} {ρ:Nat→Value} {vs:List Value} {k:List AV→Objs→Option R},OR fz old ρ w objs→All2 (AVR fz ρ w objs) args vs→nilArgs τ own u tys j args objs k=some r→
  ∃ args' objs' ρ',k args' objs'=some r∧OR fz old ρ' w objs'∧Ext objs ρ objs' ρ'∧All2 (AVR fz ρ' w objs') args' vs
 | [],j,objs,ρ,vs,k,h,ha,hk=>by
  cases vs with
  | cons=>exact ha.elim
  | nil=>exact ⟨[],objs,ρ,hk,h,Ext.refl _ _,trivial⟩
 | a::l,j,objs,ρ,vs,k,h,ha,hk=>by
   cases vs with
   | nil=>exact ha.elim
   | cons v vs=>
   obtain ⟨hav,hal⟩:=ha
   have same:nilArgs τ own u tys (j+1) l objs (fun l objs=>k (a::l) objs)=some r→∃ args' objs' ρ',k args' objs'=some r∧OR fz old ρ' w objs'∧Ext objs ρ objs' ρ'∧All2 (AVR fz ρ' w objs') args' (v::vs):=fun hk=>by
    obtain ⟨l',objs',ρ',h1,h2,h3,h4⟩:=qdc l (j+1) h hal hk
    exact ⟨a::l',objs',ρ',h1,h2,h3,AVR.mono h3 (fun _ h=>h) (fun _ _=>rfl) hav,h4⟩
   simp only [nilArgs] at hk
   split at hk
   ·cases ho:own j with
    | false=>rw [ho] at hk;exact same hk
    | true=>
      rw [ho] at hk
      simp only [cond_true] at hk
      split at hk
      ·split at hk
       ·obtain ⟨hu,hk⟩:=qav hk
        have hn:=fun e ty=>new_nil h hu e ty
        obtain ⟨l',objs',ρ',g1,g2,g3,g4⟩:=qdc l (j+1) (hn _ _).1 (hal.imp fun _ _ hx=>AVR.mono (hn _ _).2 (fun _ h=>h) (fun _ _=>rfl) hx) hk
        refine ⟨_,objs',ρ',g1,g2,(hn _ _).2.trans g3,?_,g4⟩
        refine AVR.mono g3 (fun _ h=>h) (fun _ _=>rfl) ?_
        have hv:v=.slice none 0 0:=hav
        simp only [AVR,CVR,qam]
        rw [qa9,hv]
       ·exact same hk
      ·exact same hk
   ·exact same hk
theorem acallN_ok {G:Nat→List AV→Objs→(AV→Objs→Option R)→Option R} {owns:Nat→Nat→Bool} {u f:Nat} {tys:List Nat} (hG:GOk P gl G) (hgl:GlR fz w gl) (h:OR fz old ρ w objs) {args:List AV} {vs:Array Value} (ha:All2 (AVR fz ρ w objs) args vs.toList) {k:AV→Objs→Option R}
  (hk:acallN τ G owns u f tys args objs k=some r):(∃ fn,P.funcs[f]?=some fn∧(fn.name == "runtime.NumGoroutine")=false∧fn.body.isNone=false)∧Calls P f vs w fun e w'=>∃ V,e=.returned V∧Lands old fz ρ w objs k r V w':=by
 obtain ⟨args',objs',ρ',h1,h2,h3,h4⟩:=qdc args 0 h ha hk
 obtain ⟨g1,g2⟩:=acall_ok hG hgl h2 h4 h1
 refine ⟨g1,g2.mono fun e w' he=>?_⟩
 obtain ⟨V,rfl,v,o',fz',ρ2,e1,e2,e3,e4,e5⟩:=he
 exact ⟨V,rfl,v,o',fz',ρ2,e1,e2,e3,h3.trans e4,e5⟩
end
end Go.Proofs.YtkmpkebaloejhaaGreatDoor.Av
