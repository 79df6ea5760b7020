/- A region's order with operations that only make objects: the theorem. Conditions: none. -/
import Derived.Test.YtccnmhdgghjgoaaGreatDoorAv30
namespace Go.Proofs.YtccnmhdgghjgoaaGreatDoor.Av
open Go
section
variable {R:Type} {old fz0:Nat→Prop} {ρ0:Nat→Value} {w0:World} {objs0:Objs} {r:R} {P:Program} {τ:Nat→Option TI} {B:Ops} {gl:Nat→Option (List CV)}
 {G:Nat→List AV→Objs→(AV→Objs→Option R)→Option R} {owns:Nat→Nat→Bool}
theorem MS.noaft {ops:Array Oper} {base:Nat} {watch:List (Nat×Nat)} {T:Nat→Nat→Prop} {ds:List Nat} {D:List Fr} {Lc La:Array Bool} {env envC:List AV} {objs objsC:Objs} {a:Act} {w:World} {fz:Nat→Prop} {ρ:Nat→Value}
  (s:MS gl old fz0 ρ0 w0 objs0 τ ops base watch T ds D Lc La env envC objs objsC a w fz ρ) {x:Nat} (hx:x∈Region.ready .any ops Lc) {g:Fr} (hg:g∈D):afterOf ops x g.1=false:=by
 obtain ⟨_,o,ho,hafter⟩:=mem_ready.1 hx
 rw [Bool.eq_false_iff]
 intro hx'
 obtain ⟨ed,h1,h2,h3⟩:=aftL_ok ho hx'
 have h4:=hafter ed h1 h2
 rcases h3 with h3 | h3
 ·rw [h3,s.li g.1,show (D.map (·.1)).contains g.1=true from List.contains_iff_mem.2 (List.mem_map.2 ⟨g,hg,rfl⟩)] at h4
  simp at h4
 ·rw [s.aft _ h4 g hg] at h3;cases h3
theorem MS.other {ops:Array Oper} {base:Nat} {watch:List (Nat×Nat)} {T:Nat→Nat→Prop} {ds:List Nat} {D:List Fr} {Lc La:Array Bool} {env envC:List AV} {objs objsC O:Objs} {a a':Act} {w w':World} {fz fz':Nat→Prop} {ρ ρ':Nat→Value}
  (s:MS gl old fz0 ρ0 w0 objs0 τ ops base watch T ds D Lc La env envC objs objsC a w fz ρ) {x:Nat} (hx:x∈Region.ready .any ops Lc) (hxD:∀ f∈D,f.1≠x) {dst:Option Nat} (hd:∀ d,dst=some d→d∈ds∧∀ f∈D,f.2.1≠d) {v:AV}
  (s':St gl old fz0 ρ0 w0 objs0 fz' ρ' (eput dst v envC) O a' w') (he:Ext objsC ρ O ρ') (hfm:Frm fz old w fz' w') (hab:∀ p∈rowsOf D,oget O p.1=none) :
  MS gl old fz0 ρ0 w0 objs0 τ ops base watch T ds D (Lc.setIfInBounds x true) (La.setIfInBounds x true) (eput dst v env) (eput dst v envC) (addR (rowsOf D) O) O a' w' fz' ρ':=by
 have hun:=qd0.1 (mem_ready.1 hx).1
 have hnc:(D.map (·.1)).contains x=false:=by
  rw [Bool.eq_false_iff]
  intro h
  obtain ⟨g,hg,e⟩:=List.mem_map.1 (List.contains_iff_mem.1 h)
  exact hxD g hg e
 have hne:∀ f∈D,∀ e:List AV,(eput dst v e).getD f.2.1 (.c .bot)=e.getD f.2.1 (.c .bot):=fun f hf e=>by
  cases hdd:dst with
  | none=>rfl
  | some d=>exact qbj ((hd d hdd).2 f hf) v e
 refine ⟨s',fun p hp=>?_,by simp [s.sz],fun y=>?_,s.ndi,fun y hy g hg=>?_,fun g hg=>?_,fun g hg=>by rw [getD_set_ne false (Ne.symm (hxD g hg))];exact s.inn g hg,s.ndk,hab,rfl,?_,fun d=>?_,fun g hg=>by rw [hne g hg];exact s.ev g hg,s.ndd,fun g hg=>?_,fun g hg b hb=>Nat.lt_of_lt_of_le (s.hts g hg b hb) hfm.size,fun j g hj ht=>(s.htp j g (unl_set hj).1 ht).mono s.hw he hfm⟩
 ·obtain ⟨q,hq⟩:=s.hw p hp
  obtain ⟨_,q',hq',_⟩:=he.at_ _ q hq
  exact ⟨q',hq'⟩
 ·by_cases e:x=y
  ·subst e
   have h1:(Lc.setIfInBounds x true).getD x false=true:=by
    rw [Array.getD_eq_getD_getElem?];simp [hun.1]
   have h2:(La.setIfInBounds x true).getD x false=true:=by
    rw [Array.getD_eq_getD_getElem?];simp [←s.sz,hun.1]
   rw [h1,h2,hnc];rfl
  ·rw [getD_set_ne false e,getD_set_ne false e,s.li y]
 ·by_cases e:x=y
  ·subst e;exact s.noaft hx hg
  ·rw [getD_set_ne false e] at hy
   exact s.aft y hy g hg
 ·obtain ⟨h1,o,ho,h2⟩:=mem_ready.1 (s.rdy g hg)
  refine mem_ready.2 ⟨by rw [getD_set_ne true (Ne.symm (hxD g hg))];exact h1,o,ho,fun ed h3 h4=>?_⟩
  have h5:=h2 ed h3 h4
  by_cases e:x=ed.on
  ·rw [←e,hun.2] at h5;cases h5
  ·rw [getD_set_ne false e];exact h5
 ·cases dst with
  | none=>exact s.len
  | some d=>simp [eput,s.len]
 ·cases hdd:dst with
  | none=>exact s.en d
  | some d0=>
    by_cases e:d=d0
    ·subst e
     left
     show (envC.set d v).getD d _=(env.set d v).getD d _
     simp only [List.getD_eq_getElem?_getD,List.getElem?_set,s.len]
     by_cases hl:d<env.length
     ·simp [hl]
     ·simp [hl]
    ·rw [qbj e,qbj e]
     exact s.en d
 ·obtain ⟨h0,o,h1,h2,h3,h4,h5,h6,h7⟩:=s.fr g hg
  refine ⟨h0,o,h1,h2,h3,h4,?_,h6,h7⟩
  cases hdd:dst with
  | none=>exact h5
  | some d0=>rw [qc4 h4 (hd d0 hdd).1];exact h5
theorem mdraw_ok (hB:B.ok) (hT:TOk P τ) (hG:GOk P gl G) {ops:Array Oper} {base:Nat} {F:List Fr} {watch:List (Nat×Nat)} {T:Nat→Nat→Prop} {ds:List Nat} {Q:Exit→Act→World→Prop} {Lf:Array Bool} {k:List AV→Objs→Option R} {tl:Nat}
  (hcont:∀ env objs a w fz ρ,St gl old fz0 ρ0 w0 objs0 fz ρ env objs a w→(∀ p∈watch,∃ o,oget objs p.2=some o)→k env objs=some r→(∀ j g,Lf.getD j true=false→T j g→Prot old fz ρ watch j g)→∀ fuel,tl≤fuel→wpAnyT P .any ops Q T fuel Lf a w) :
  ∀ (n:Nat) (m:List Nat) (D:List Fr) (Lc La:Array Bool) (env envC:List AV) (objs objsC:Objs) (a:Act) (w:World) (fz:Nat→Prop) (ρ:Nat→Value),D.length+m.length≤n→
    MS gl old fz0 ρ0 w0 objs0 τ ops base watch T ds D Lc La env envC objs objsC a w fz ρ→(∀ f∈D,f∈F)→lineB ops m La=true→(∀ f∈D,∃ h∈m,afterOf ops h f.1=true)→
    (∀ h∈m,∀ o,ops[h]?=some o→∀ d,o.dst=some d→d∈ds∧∀ f∈F,f.2.1≠d)→m.foldl (fun L h=>L.setIfInBounds h true) La=Lf→
    mdraw τ B gl G owns ops base F watch m env objs k=some r→∀ fuel,n+tl≤fuel→wpAnyT P .any ops Q T fuel Lc a w:=by
 have hfin:∀ (D:List Fr) (Lc La:Array Bool) (env envC:List AV) (objs objsC:Objs) (a:Act) (w:World) (fz:Nat→Prop) (ρ:Nat→Value),D=[]→MS gl old fz0 ρ0 w0 objs0 τ ops base watch T ds D Lc La env envC objs objsC a w fz ρ→Lc=La∧envC=env∧objs=objsC:=by
  rintro D Lc La env envC objs objsC a w fz ρ rfl s
  refine ⟨?_,?_,s.ob⟩
  ·apply Array.ext s.sz
   intro x h1 h2
   have:=s.li x
   simp only [List.map_nil,List.contains_nil,Bool.not_false,Bool.and_true,Array.getD_eq_getD_getElem?,Array.getElem?_eq_getElem h1,Array.getElem?_eq_getElem h2,Option.getD_some] at this
   exact this
  ·apply List.ext_getElem s.len
   intro d h1 h2
   rcases s.en d with h | ⟨_,f,hf,_⟩
   ·rw [List.getD_eq_getElem?_getD,List.getD_eq_getElem?_getD,List.getElem?_eq_getElem h1,List.getElem?_eq_getElem h2] at h
    exact h
   ·cases hf
 have hdone:∀ (D:List Fr) (Lc La:Array Bool) (env envC:List AV) (objs objsC:Objs) (a:Act) (w:World) (fz:Nat→Prop) (ρ:Nat→Value),MS gl old fz0 ρ0 w0 objs0 τ ops base watch T ds D Lc La env envC objs objsC a w fz ρ→(∀ f∈D,∃ h∈([]:List Nat),afterOf ops h f.1=true)→La=Lf→k env objs=some r→∀ fuel,tl≤fuel→wpAnyT P .any ops Q T fuel Lc a w:=by
  intro D Lc La env envC objs objsC a w fz ρ s hlast hLf hk fuel hfuel
  have hD:D=[]:=by
   cases D with
   | nil=>rfl
   | cons f D=>obtain ⟨h,hh,_⟩:=hlast f List.mem_cons_self;cases hh
  obtain ⟨e1,e2,e3⟩:=hfin D Lc La env envC objs objsC a w fz ρ hD s
  subst e1 e2 e3 hLf
  exact hcont _ _ a w fz ρ s.st s.hw hk s.htp fuel hfuel
 intro n
 induction n with
 | zero=>
   intro m D Lc La env envC objs objsC a w fz ρ hn s hDF hline hlast hdst hLf hk fuel hfuel
   have hm:m=[]:=by cases m with | nil=>rfl | cons h m=>simp at hn
   subst hm
   exact hdone D Lc La env envC objs objsC a w fz ρ s hlast hLf hk fuel (by omega)
 | succ n ih=>
   intro m D Lc La env envC objs objsC a w fz ρ hn s hDF hline hlast hdst hLf hk fuel hfuel
   cases m with
   | nil=>exact hdone D Lc La env envC objs objsC a w fz ρ s hlast hLf hk fuel (by omega)
   | cons h m=>
     obtain ⟨f,rfl⟩:∃ f,fuel=f+1:=⟨fuel-1,by omega⟩
     have hline0:=hline
     simp only [lineB,Bool.and_eq_true] at hline
     obtain ⟨⟨hr,hall⟩,hline'⟩:=hline
     have hr:h∈Region.ready .any ops La:=by simpa using hr
     refine ⟨fun hempty=>?_,fun x hx=>?_⟩
     ·exfalso
      cases hD:D with
      | nil=>
        obtain ⟨e1,_,_⟩:=hfin D Lc La env envC objs objsC a w fz ρ hD s
        rw [e1] at hempty
        rw [hempty] at hr;cases hr
      | cons g D'=>
        have:=s.rdy g (by rw [hD];exact List.mem_cons_self)
        rw [hempty] at this;cases this
     by_cases hxD:∃ g∈D,g.1=x
     ·obtain ⟨g,hg,rfl⟩:=hxD
      obtain ⟨hds,o,ho,hgu,hdd,hi,hfr,hnf,hv⟩:=s.fr g hg
      refine fresh_step r hT ho s.st hgu hfr (fun p hp=>s.ab p (qbb.2 ⟨g,hg,hp⟩)) (s.hts g hg) fun a' w' fz' ρ' s' he hfm=>?_
      rw [hdd] at s'
      have hlen:=(qe9 D s.ndi g hg).length_eq
      have hsub:∀ y∈D.filter (fun y=>!Nat.beq y.1 g.1),y∈D:=fun y hy=>(List.mem_filter.1 hy).1
      simp only [List.length_cons] at hlen hn
      exact ih (h::m) _ _ La env _ objs _ a' w' fz' ρ' (by simp only [List.length_cons];omega) (s.make g hg s' he hfm) (fun y hy=>hDF y (hsub y hy)) hline0 (fun y hy=>hlast y (hsub y hy)) hdst hLf hk f (by omega)
     ·have hxD':∀ g∈D,g.1≠x:=fun g hg e=>hxD ⟨g,hg,e⟩
      have hxL:x∈Region.ready .any ops La:=by
       obtain ⟨h1,o,ho,h2⟩:=mem_ready.1 hx
       have h3:=qd0.1 h1
       have hnc:(D.map (·.1)).contains x=false:=by
        rw [Bool.eq_false_iff]
        intro hc
        obtain ⟨g,hg,e⟩:=List.mem_map.1 (List.contains_iff_mem.1 hc)
        exact hxD' g hg e
       refine mem_ready.2 ⟨qd0.2 ⟨by rw [←s.sz];exact h3.1,?_⟩,o,ho,fun e h4 h5=>?_⟩
       ·have:=s.li x
        rw [hnc,h3.2] at this
        simpa using this.symm
       ·have h6:=h2 e h4 h5
        rw [s.li e.on] at h6
        simp only [Bool.and_eq_true] at h6
        exact h6.1
      obtain rfl:x=h:=Nat.eq_of_beq_eq_true (List.all_eq_true.1 hall x hxL)
      have hdst':=hdst
      rw [mdraw] at hk
      cases hox:ops.toList[x]? with
      | none=>rw [hox] at hk;cases hk
      | some o=>
      rw [hox] at hk
      simp only at hk
      have ho:ops[x]?=some o:=by rw [←Array.getElem?_toList];exact hox
      cases hgu:o.guard with
      | some q=>rw [hgu] at hk;cases hk
      | none=>
      rw [hgu] at hk
      simp only [Option.isNone_none,cond_true] at hk
      rw [s.ob] at hk
      have hrow:∀ p∈rowsOf D,p.1∈((F.filter fun f=>!afterOf ops x f.1).flatMap fun f=>f.2.2.2.map (·.1))++(watch.filter fun p=>Nat.beq p.1 x).map (·.2):=fun p hp=>by
       obtain ⟨g,hg,hgp⟩:=qbb.1 hp
       refine List.mem_append_left _ (List.mem_flatMap.2 ⟨g,List.mem_filter.2 ⟨hDF g hg,by rw [s.noaft hx hg];rfl⟩,List.mem_map.2 ⟨p,hgp,rfl⟩⟩)
      have hkD:=aframed_less s.ndk hrow (fun p hp=>by
       obtain ⟨g,hg,hgp⟩:=qbb.1 hp
       obtain ⟨_,_,_,_,_,_,_,hnf,_⟩:=s.fr g hg
       exact hnf p hgp) s.ab s.len (fun d=>by
       rcases s.en d with h1 | ⟨h1,g,hg,hgd⟩
       ·exact .inl h1
       ·obtain ⟨_,_,_,_,_,_,_,_,p,hp1,hp2⟩:=s.fr g hg
        have h2:=s.ev g hg
        rw [hgd] at h2
        exact .inr ⟨h1,p,qbb.2 ⟨g,hg,hp1⟩,by rw [h2];exact hp2⟩) hk
      obtain ⟨hlive,hdid⟩:=qf2 hB hT hG s.st.gl_ s.st.or_ s.st.env_ hkD
      have hun:Lc.getD x true=false:=(mem_ready.1 hx).1
      have hnext:∀ V w',(Lands old fz ρ w objsC (fun v O=>bif (rowsOf D).any (fun p=>(oget O p.1).isSome) then none else mdraw τ B gl G owns ops base F watch m (eput o.dst v env) (addR (rowsOf D) O) k) r V w'∧∀ κ∈(((F.filter fun f=>!afterOf ops x f.1).flatMap fun f=>f.2.2.2.map (·.1))++(watch.filter fun p=>Nat.beq p.1 x).map (·.2)).filter (fun i=>!((rowsOf D).map (·.1)).contains i),∀ g,blkO objsC ρ κ=some g→w'.heap[g]?=w.heap[g]?)→
        (∀ g,T x g→w'.heap[g]?=w.heap[g]?)∧wpAnyT P .any ops Q T f (Lc.setIfInBounds x true) (a.put o.dst V) w':=by
       rintro V w' ⟨⟨v,O,fz',ρ',h1,h2,h3,h4,h5⟩,hsame⟩
       replace h1:(bif (rowsOf D).any (fun p=>(oget O p.1).isSome) then none else mdraw τ B gl G owns ops base F watch m (eput o.dst v env) (addR (rowsOf D) O) k)=some r:=h1
       cases hany:(rowsOf D).any (fun p=>(oget O p.1).isSome) with
       | true=>rw [hany] at h1;cases h1
       | false=>
       rw [hany] at h1
       simp only [cond_false] at h1
       have hab:∀ p∈rowsOf D,oget O p.1=none:=fun p hp=>by
        cases hq:oget O p.1 with
        | none=>rfl
        | some q=>
          rw [Bool.eq_false_iff] at hany
          exact absurd (List.any_eq_true.2 ⟨p,hp,by rw [hq];rfl⟩) hany
       refine ⟨fun g ht=>?_,?_⟩
       ·rcases s.htp x g hun ht with h6 | h6 | ⟨κ,h6,h7⟩
        ·exact h5.fzw g h6
        ·exact h5.oldw g h6
        ·have hm:κ∈(((F.filter fun f=>!afterOf ops x f.1).flatMap fun f=>f.2.2.2.map (·.1))++(watch.filter fun p=>Nat.beq p.1 x).map (·.2)).filter (fun i=>!((rowsOf D).map (·.1)).contains i):=by
          refine List.mem_filter.2 ⟨List.mem_append_right _ (List.mem_map.2 ⟨_,List.mem_filter.2 ⟨h6,Nat.beq_refl _⟩,rfl⟩),?_⟩
          have:((rowsOf D).map (·.1)).contains κ=false:=by
           rw [Bool.eq_false_iff]
           intro hc
           obtain ⟨p,hp,e⟩:=List.mem_map.1 (List.contains_iff_mem.1 hc)
           obtain ⟨q,hq⟩:=s.hw _ h6
           have h8:=s.ab p hp
           rw [e] at h8
           replace hq:oget objsC κ=some q:=hq
           rw [h8] at hq;cases hq
          rw [this];rfl
         obtain ⟨q,hq,hlv⟩:=hlive κ hm
         exact hsame κ hm g (by rw [qaq hq,hlv];exact h7)
       ·have hms:=s.other (O:=O) (a':=a.put o.dst V) (w':=w') (fz':=fz') (ρ':=ρ') hx hxD' (dst:=o.dst) (v:=v) (fun d hd=>⟨(hdst x List.mem_cons_self o ho d hd).1,fun g hg=>(hdst x List.mem_cons_self o ho d hd).2 g (hDF g hg)⟩)
         ⟨h3,(s.st.env_.mono h4 h5.up h5.fzw).put h2 o.dst,s.st.gl_.mono h5.up h5.fzw,s.st.frm.trans h5,s.st.bk.ext h4,by rw [put_defers];exact s.st.nd⟩ h4 h5 hab
        simp only [List.length_cons] at hn
        exact ih m D _ _ _ _ _ O _ w' fz' ρ' (by omega) hms hDF hline' (fun g hg=>by
         obtain ⟨y,hy,hya⟩:=hlast g hg
         rcases List.mem_cons.1 hy with rfl | hy
         ·rw [s.noaft hx hg] at hya;cases hya
         ·exact ⟨y,hy,hya⟩) (fun y hy=>hdst y (List.mem_cons_of_mem _ hy)) hLf h1 f (by omega)
      simp only [wpOp,ho]
      rw [if_pos (by simp [Region.wanted,hgu])]
      left
      unfold Oper.wp
      rcases hdid with ⟨V,w',h1,h2⟩ | ⟨w',h1,h2⟩ | ⟨fn,args,h1,h2⟩
      ·rw [h1,Oper.upon_value];exact hnext V w' h2
      ·rw [h1,Oper.upon_skip];exact hnext undef w' h2
      ·rw [h1,Oper.upon_enter]
       refine h2.mono fun e w' he=>?_
       obtain ⟨V,rfl,h3⟩:=he
       exact hnext V w' h3
end
end Go.Proofs.YtccnmhdgghjgoaaGreatDoor.Av
