/- Regions whose order is drawn. Conditions: none. -/
import Derived.Test.YtkmpkebaloejhaaGreatDoorAv31
namespace Go.Proofs.YtkmpkebaloejhaaGreatDoor.Av
open Go
theorem St.blank {gl:Nat→Option (List CV)} {old fz0:Nat→Prop} {ρ0:Nat→Value} {w0:World} {objs0:Objs} {fz:Nat→Prop} {ρ:Nat→Value} {objs:Objs} {a:Act} {w:World}:∀ (F:List Fr) (env:List AV),St gl old fz0 ρ0 w0 objs0 fz ρ env objs a w→St gl old fz0 ρ0 w0 objs0 fz ρ (F.foldl (fun e f=>eput (some f.2.1) (.c .bot) e) env) objs a w
 | [],env,s=>s
 | f::F,env,s=>by
   rw [List.foldl_cons]
   refine St.blank F _ ⟨s.or_,⟨by simp [eput,s.env_.1],fun i=>?_⟩,s.gl_,s.frm,s.bk,s.nd⟩
   by_cases e:i=f.2.1
   ·subst e
    have:(eput (some f.2.1) (.c .bot) env).getD f.2.1 (.c .bot)=.c .bot:=by
     show (env.set f.2.1 (.c .bot)).getD f.2.1 _=_
     simp only [List.getD_eq_getElem?_getD,List.getElem?_set]
     by_cases hl:f.2.1<env.length<;>simp [hl]
    rw [this];trivial
   ·rw [qev e];exact s.env_.2 i
section
variable {R:Type} {old fz0:Nat→Prop} {ρ0:Nat→Value} {w0:World} {objs0:Objs} {r:R} {P:Program} {τ:Nat→Option TI} {B:Ops} {gl:Nat→Option (List CV)}
 {G:Nat→List AV→Objs→(AV→Objs→Option R)→Option R} {owns:Nat→Nat→Bool}
theorem qcg (hB:B.ok) (hT:TOk P τ) (hG:GOk P gl G) {ops:Array Oper} (hsel:Region.noSelect ops=true) {base:Nat} {k:List AV→Objs→Option R} {Q:Exit→Act→World→Prop}
  (hQ:∀ env objs a w,k env objs=some r→Now gl old fz0 ρ0 w0 objs0 env objs a w→Q .normal a w) (hQp:∀ c a w,¬ Q (.panic c) a w) :
  ∀ (plan:PT) (alt:Bool) (listed:Array Bool) (watch:List (Nat×Nat)) (env:List AV) (objs:Objs) (a:Act) (w:World) (fz:Nat→Prop) (ρ:Nat→Value),St gl old fz0 ρ0 w0 objs0 fz ρ env objs a w→
    (∀ p∈watch,∃ o,oget objs p.2=some o)→planB τ ops plan alt listed=true→adraw τ B gl G owns ops base plan watch env objs k=some r→
    ∀ (T:Nat→Nat→Prop),(∀ j g,listed.getD j true=false→T j g→Prot old fz ρ watch j g)→∀ fuel,plan.len≤fuel→
      bif alt then ∀ f,fuel=f+1→∀ j∈Region.ready .any ops listed,j∈plan.heads→wpOp P ops Q j (fun a' w'=>(∀ k,T j k→w'.heap[k]?=w.heap[k]?)∧wpAnyT P .any ops Q T f (listed.setIfInBounds j true) a' w') a w
      else wpAnyT P .any ops Q T fuel listed a w
 | .done,alt,listed,watch,env,objs,a,w,fz,ρ,s,hW,hp,hk,T,hTp,fuel,hf=>by
   simp only [planB,Bool.and_eq_true,Bool.not_eq_true',List.isEmpty_iff] at hp
   obtain ⟨rfl,hr⟩:=hp
   have hq:=hQ env objs a w hk ⟨fz,ρ,s⟩
   simp only [cond_false]
   cases fuel with
   | zero=>exact ⟨hr,hq⟩
   | succ f=>exact ⟨fun _=>hq,fun i hi=>by rw [hr] at hi;cases hi⟩
 | .alt t u,alt,listed,watch,env,objs,a,w,fz,ρ,s,hW,hp,hk,T,hTp,fuel,hf=>by
   simp only [planB,Bool.and_eq_true] at hp
   obtain ⟨hcov,hpt,hpu⟩:=hp
   simp only [adraw] at hk
   obtain ⟨hkt,hku⟩:=agree_some hk
   have hlt:t.len≤fuel:=Nat.le_trans (Nat.le_max_left _ _) hf
   have hlu:u.len≤fuel:=Nat.le_trans (Nat.le_max_right _ _) hf
   have it:=qcg hB hT hG hsel (base:=base) hQ hQp t true listed watch env objs a w fz ρ s hW hpt hkt T hTp fuel hlt
   have iu:=qcg hB hT hG hsel (base:=base) hQ hQp u true listed watch env objs a w fz ρ s hW hpu hku T hTp fuel hlu
   simp only [cond_true] at it iu
   have both:∀ f,fuel=f+1→∀ j∈Region.ready .any ops listed,j∈(PT.alt t u).heads→wpOp P ops Q j (fun a' w'=>(∀ k,T j k→w'.heap[k]?=w.heap[k]?)∧wpAnyT P .any ops Q T f (listed.setIfInBounds j true) a' w') a w:=fun f hfe j hj hh=>by
    rcases List.mem_append.1 hh with hh | hh
    ·exact it f hfe j hj hh
    ·exact iu f hfe j hj hh
   cases alt with
   | true=>simp only [cond_true];exact both
   | false=>
     simp only [cond_false]
     simp only [Bool.false_or,List.all_eq_true] at hcov
     have hne:0<fuel:=by
      refine Nat.lt_of_lt_of_le ?_ hlt
      cases t with
      | done=>simp [planB] at hpt
      | op i t=>simp [PT.len]
      | alt t u=>exact PT.len_pos hpt
     obtain ⟨f,rfl⟩:∃ f,fuel=f+1:=⟨fuel-1,by omega⟩
     refine ⟨fun h=>?_,fun j hj=>both f rfl j hj (by simpa [PT.heads] using hcov j hj)⟩
     obtain ⟨i,hi⟩:=PT.head_ready hpt
     rw [h] at hi;cases hi
 | .op i rest,alt,listed,watch,env,objs,a,w,fz,ρ,s,hW,hp,hk,T,hTp,fuel,hf=>by
   cases fuel with
   | zero=>simp [PT.len] at hf
   | succ f=>
   have hf':rest.len≤f:=by simpa [PT.len] using hf
   simp only [planB] at hp
   simp only [adraw] at hk
   cases hoi:ops.toList[i]? with
   | none=>rw [hoi] at hp;cases hp
   | some o=>
   rw [hoi] at hp hk
   simp only [Bool.and_eq_true] at hp
   simp only [] at hk
   obtain ⟨hrd,hfree,hrest,hlds,hp'⟩:=hp
   have ho:ops[i]?=some o:=by rw [←Array.getElem?_toList];exact hoi
   have hin:i∈Region.ready .any ops listed:=by simpa using hrd
   have hun:listed.getD i true=false:=(mem_ready.1 hin).1
   have hunl:∀ j,(listed.setIfInBounds i true).getD j true=false→listed.getD j true=false∧j≠i:=fun j hj=>by
    by_cases hji:i=j
    ·subst hji
     exfalso
     simp only [Array.getD_eq_getD_getElem?] at hj
     by_cases hb:i<listed.size
     ·simp [hb] at hj
     ·simp [Array.getElem?_eq_none (show (listed.setIfInBounds i true).size≤i by simp;omega)] at hj
    ·rw [getD_set_ne true hji] at hj;exact ⟨hj,Ne.symm hji⟩
   have hgd:(∃ env',St gl old fz0 ρ0 w0 objs0 fz ρ env' objs a w∧Region.wanted o (yielded ops a.tmps)=true∧
         (bif steady τ o.op then
           match loadOf o.op with
           | none=>aop τ B gl G owns (100*(base+i)) o env' objs fun v objs'=>adraw τ B gl G owns ops base rest watch (eput o.dst v env') objs' k
           | some x=>match watchOf (rdop gl x env') with
             | some ks=>aop τ B gl G owns (100*(base+i)) o env' objs fun v objs'=>
                adraw τ B gl G owns ops base rest ((ks.flatMap fun κ=>(rest.elems.filter fun j=>!afterOf ops j i).map fun j=>(j,κ))++watch) (eput o.dst v env') objs' k
             | none=>none
         else aframed τ B gl G owns (100*(base+i)) o ((watch.filter fun p=>Nat.beq p.1 i).map (·.2)) env' objs fun v objs'=>adraw τ B gl G owns ops base rest watch (eput o.dst v env') objs' k)=some r)∨
     (∃ env',St gl old fz0 ρ0 w0 objs0 fz ρ env' objs a w∧Region.wanted o (yielded ops a.tmps)=false∧adraw τ B gl G owns ops base rest watch (eput o.dst .und env') objs k=some r):=by
    cases hgu:o.guard with
    | none=>
      rw [hgu] at hk
      exact .inl ⟨env,s,by simp [Region.wanted,hgu],hk⟩
    | some jw=>
      obtain ⟨j,want⟩:=jw
      rw [hgu] at hk
      simp only at hk
      cases hd:(ops.toList[j]?).bind (·.dst) with
      | none=>rw [hd] at hk;cases hk
      | some d=>
        rw [hd] at hk
        simp only at hk
        split at hk
        ·rename_i b hb
         have hops:(ops[j]?).bind (·.dst)=some d:=by rw [←Array.getElem?_toList];exact hd
         have hy:yielded ops a.tmps j=some b:=by
          unfold yielded
          rw [hops]
          simp only [Option.bind_some,qbv s.env_ hb]
         have hwant:Region.wanted o (yielded ops a.tmps)=(b == want):=by
          simp only [Region.wanted,hgu,hy]
          cases b<;>cases want<;>rfl
         have sk:St gl old fz0 ρ0 w0 objs0 fz ρ (env.set d (.c (.bool b))) objs a w:=s.know hb
         cases b<;>cases want<;>simp only [cond_true,cond_false] at hk
         ·exact .inl ⟨_,sk,by rw [hwant];rfl,hk⟩
         ·exact .inr ⟨_,sk,by rw [hwant];rfl,hk⟩
         ·exact .inr ⟨_,sk,by rw [hwant];rfl,hk⟩
         ·exact .inl ⟨_,sk,by rw [hwant];rfl,hk⟩
        ·rename_i hb
         have hops:(ops[j]?).bind (·.dst)=some d:=by rw [←Array.getElem?_toList];exact hd
         exact .inr ⟨_,s,qdf hgu s.env_ hops hb,hk⟩
        ·cases hk
   clear hk
   have hsel':=Region.noSelect_spec hsel
   have ih:=fun watch' env' objs' a' w' fz' ρ'=>qcg hB hT hG hsel (base:=base) hQ hQp rest false (listed.setIfInBounds i true) watch' env' objs' a' w' fz' ρ'
   have hprot:∀ {objs':Objs} {fz':Nat→Prop} {ρ':Nat→Value} {w':World},Ext objs ρ objs' ρ'→Frm fz old w fz' w'→∀ j g,Prot old fz ρ watch j g→Prot old fz' ρ' watch j g:=fun he hfm j g hpr=>by
    rcases hpr with h1 | h1 | ⟨κ,h1,h2⟩
    ·exact .inl (hfm.up g h1)
    ·exact .inr (.inl h1)
    ·obtain ⟨q,hq⟩:=hW _ h1
     obtain ⟨e1,_⟩:=he.at_ κ q hq
     exact .inr (.inr ⟨κ,h1,by rw [e1];exact h2⟩)
   have hW':∀ {objs':Objs} {ρ':Nat→Value},Ext objs ρ objs' ρ'→∀ p∈watch,∃ q,oget objs' p.2=some q:=fun he p hp=>by
    obtain ⟨q,hq⟩:=hW p hp
    obtain ⟨_,q',hq',_⟩:=he.at_ _ q hq
    exact ⟨q',hq'⟩
   cases hst:steady τ o.op with
   | true=>
     rw [hst] at hfree hgd
     simp only [cond_true,Bool.and_eq_true,Bool.not_eq_true'] at hfree hgd
     obtain ⟨rfl,hfree⟩:=hfree
     simp only [cond_false] at ih ⊢
     have hfr:=fun j oj=>Region.free_spec (md:=.any) ho hfree j oj
     rcases hgd with ⟨env',s',hw,hk⟩ | ⟨env',s',hw,hk⟩
     ·cases hl:loadOf o.op with
      | none=>
        rw [hl] at hk
        simp only at hk
        have hpure:isPure τ o.op=true:=by simpa [steady,hl] using hst
        obtain ⟨V,hrun,v,objs',fz',ρ',h1,h2,h3,h4,h5⟩:=aop_pure hB hT s'.gl_ s'.or_ s'.env_ hpure hk
        refine qb6 (b:=fun _=>False) (v:=V) (aft:=fun _=>false) (T':=T) (fun j oj _ h=>by cases h) ho hsel' (fun c a w h=>absurd h (hQp c _ _)) (fun _ _ h=>h) f listed a w (fun j oj hj hne hunj hno _=>⟨hfr j oj hj hne hunj hno,fun g hg=>hg.elim⟩) (fun _ _=>rfl) hin (.inl ⟨hw,fun w' _=>hrun w'⟩) ?_
        exact ih watch _ objs' _ w fz' ρ' ⟨h3,(s'.env_.mono h4 h5.up h5.fzw).put h2 o.dst,s'.gl_.mono h5.up h5.fzw,s'.frm.trans h5,s'.bk.ext h4,by rw [put_defers];exact s'.nd⟩ (hW' h4) hp' h1 T
         (fun j g hj ht=>hprot h4 h5 j g (hTp j g (hunl j hj).1 ht)) f hf'
      | some x=>
        rw [hl] at hk
        simp only at hk
        split at hk
        ·rename_i ks hks
         obtain ⟨t,hot⟩:=loadOf_ok hl
         obtain ⟨ad,V,hA,hrun,v,objs',fz',ρ',h1,h2,h3,h4,h5⟩:=aop_load hT s'.gl_ s'.or_ s'.env_ hot hk
         have hwk:(∀ κ∈ks,∃ q,oget objs κ=some q)∧(fz ad.block∨∃ κ∈ks,blkV (ρ κ)=some ad.block):=by
          have hx:=qbl (gl:=gl) s'.gl_ s'.env_ x
          rw [hA] at hx
          simp only [aop,hot] at hk
          exact watch_ok s'.or_ hx hk hks
         obtain ⟨hwk1,hwk2⟩:=hwk
         rw [hl] at hlds
         refine qb6 (b:=fun g=>g=ad.block) (v:=V) (aft:=fun j=>afterOf ops j i) (T':=fun j g=>T j g∨(g=ad.block∧listed.getD j true=false∧j≠i∧afterOf ops j i=false∧j<ops.size)) (fun j oj hj hx=>aftL_ok hj hx) ho hsel' (fun c a w h=>absurd h (hQp c _ _)) (fun _ _ h=>.inl h) f listed a w
          (fun j oj hj hne hunj hno haf=>⟨hfr j oj hj hne hunj hno,fun g hg=>.inr ⟨hg,hunj,hne,haf,(Array.getElem?_eq_some_iff.1 hj).1⟩⟩) (fun k hk=>aftOk_ok hlds hk) hin (.inl ⟨hw,fun w' hb=>hrun w' (hb _ rfl)⟩) ?_
         ·refine ih _ _ objs' _ w fz' ρ' ⟨h3,(s'.env_.mono h4 h5.up h5.fzw).put h2 o.dst,s'.gl_.mono h5.up h5.fzw,s'.frm.trans h5,s'.bk.ext h4,by rw [put_defers];exact s'.nd⟩ (fun p hp=>?_) hp' h1 _ (fun j g hj ht=>?_) f hf'
          ·rcases List.mem_append.1 hp with hp | hp
           ·obtain ⟨κ,hκ,hp⟩:=List.mem_flatMap.1 hp
            obtain ⟨j,_,rfl⟩:=List.mem_map.1 hp
            obtain ⟨q,hq⟩:=hwk1 κ hκ
            obtain ⟨_,q',hq',_⟩:=h4.at_ κ q hq
            exact ⟨q',hq'⟩
           ·exact hW' h4 p hp
          ·rcases ht with ht | ⟨rfl,hu,hne,haf,hlt⟩
           ·rcases hprot h4 h5 j g (hTp j g (hunl j hj).1 ht) with h6 | h6 | ⟨κ,h6,h7⟩
            ·exact .inl h6
            ·exact .inr (.inl h6)
            ·exact .inr (.inr ⟨κ,List.mem_append_right _ h6,h7⟩)
           ·rcases hwk2 with h6 | ⟨κ,hκ,h6⟩
            ·exact .inl (h5.up _ h6)
            ·obtain ⟨q,hq⟩:=hwk1 κ hκ
             obtain ⟨e1,_⟩:=h4.at_ κ q hq
             refine .inr (.inr ⟨κ,List.mem_append_left _ (List.mem_flatMap.2 ⟨κ,hκ,List.mem_map.2 ⟨j,List.mem_filter.2 ⟨?_,by simp [haf]⟩,rfl⟩⟩),by rw [e1];exact h6⟩)
             have h8:=List.all_eq_true.1 hrest j (List.mem_range.2 hlt)
             have hb:Nat.beq j i=false:=by rw [Bool.eq_false_iff];intro hb;exact hne (Nat.eq_of_beq_eq_true hb)
             rw [hb,hu] at h8
             simpa using h8
        ·cases hk
     ·refine qb6 (b:=fun _=>False) (v:=undef) (aft:=fun _=>false) (T':=T) (fun j oj _ h=>by cases h) ho hsel' (fun c a w h=>absurd h (hQp c _ _)) (fun _ _ h=>h) f listed a w (fun j oj hj hne hunj hno _=>⟨hfr j oj hj hne hunj hno,fun g hg=>hg.elim⟩) (fun _ _=>rfl) hin (.inr ⟨hw,rfl⟩) ?_
      exact ih watch _ objs _ w fz ρ (s'.drop o.dst) hW hp' hk T (fun j g hj ht=>hTp j g (hunl j hj).1 ht) f hf'
   | false=>
     rw [hst] at hfree hgd
     simp only [cond_false] at hfree hgd
     simp only [cond_false] at ih
     suffices hstep:wpOp P ops Q i (fun a' w'=>(∀ k,T i k→w'.heap[k]?=w.heap[k]?)∧wpAnyT P .any ops Q T f (listed.setIfInBounds i true) a' w') a w by
      cases alt with
      | true=>
        simp only [cond_true]
        intro f' hfe j hj hh
        cases hfe
        simp only [PT.heads,List.mem_singleton] at hh
        subst hh
        exact hstep
      | false=>
        simp only [cond_false]
        simp only [Bool.false_or] at hfree
        refine ⟨fun h=>(by rw [h] at hin;cases hin),fun j hj=>?_⟩
        have hji:j=i:=Nat.eq_of_beq_eq_true (List.all_eq_true.1 hfree j hj)
        subst hji
        exact hstep
     rcases hgd with ⟨env',s',hw,hk⟩ | ⟨env',s',hw,hk⟩
     ·obtain ⟨hlive,hdid⟩:=aframed_ok hB hT hG s'.gl_ s'.or_ s'.env_ hk
      have hnext:∀ V w',(Lands old fz ρ w objs (fun v objs'=>adraw τ B gl G owns ops base rest watch (eput o.dst v env') objs' k) r V w'∧∀ κ∈(watch.filter fun p=>Nat.beq p.1 i).map (·.2),∀ g,blkO objs ρ κ=some g→w'.heap[g]?=w.heap[g]?)→
        (∀ g,T i g→w'.heap[g]?=w.heap[g]?)∧wpAnyT P .any ops Q T f (listed.setIfInBounds i true) (a.put o.dst V) w':=by
       rintro V w' ⟨⟨v,objs',fz',ρ',h1,h2,h3,h4,h5⟩,hsame⟩
       refine ⟨fun g ht=>?_,?_⟩
       ·rcases hTp i g hun ht with h6 | h6 | ⟨κ,h6,h7⟩
        ·exact h5.fzw g h6
        ·exact h5.oldw g h6
        ·have hm:κ∈(watch.filter fun p=>Nat.beq p.1 i).map (·.2):=List.mem_map.2 ⟨_,List.mem_filter.2 ⟨h6,Nat.beq_refl _⟩,rfl⟩
         obtain ⟨q,hq,hlv⟩:=hlive κ hm
         exact hsame κ hm g (by rw [qao hq,hlv];exact h7)
       ·exact ih watch _ objs' _ w' fz' ρ' ⟨h3,(s'.env_.mono h4 h5.up h5.fzw).put h2 o.dst,s'.gl_.mono h5.up h5.fzw,s'.frm.trans h5,s'.bk.ext h4,by rw [put_defers];exact s'.nd⟩ (hW' h4) hp' h1 T
         (fun j' g hj' ht=>hprot h4 h5 j' g (hTp j' g (hunl j' hj').1 ht)) f hf'
      simp only [wpOp,ho]
      rw [if_pos hw]
      left
      unfold Oper.wp
      rcases hdid with ⟨V,w',h1,h2⟩ | ⟨w',h1,h2⟩ | ⟨fn,args,h1,h2⟩
      ·rw [h1,Oper.upon_value];exact hnext V w' h2
      ·rw [h1,Oper.upon_skip];exact hnext undef w' h2
      ·rw [h1,Oper.upon_enter]
       refine h2.mono fun e w' he=>?_
       obtain ⟨V,rfl,h3⟩:=he
       exact hnext V w' h3
     ·simp only [wpOp,ho]
      rw [if_neg (by rw [hw];simp)]
      exact ⟨fun _ _=>trivial,ih watch _ objs _ w fz ρ (s'.drop o.dst) hW hp' hk T (fun j' g hj' ht=>hTp j' g (hunl j' hj').1 ht) f hf'⟩
end
end Go.Proofs.YtkmpkebaloejhaaGreatDoor.Av
