/- Regions whose order is drawn: one order stands for all. Conditions: none. -/
import Derived.Test.YtkmpkebaloejhaaGreatDoorAv14
namespace Go.Proofs.YtkmpkebaloejhaaGreatDoor.Av
open Go
section
variable {P:Program} {ops:Array Oper} {Q:Exit→Act→World→Prop} {md:Region.Mode}
def wpAnyT (P:Program) (md:Region.Mode) (ops:Array Oper) (Q:Exit→Act→World→Prop) (T:Nat→Nat→Prop):Nat→Array Bool→Act→World→Prop
 | 0,listed,a,w=>Region.ready md ops listed=[]∧Q .normal a w
 | fuel+1,listed,a,w=>(Region.ready md ops listed=[]→Q .normal a w)∧
   ∀ i∈Region.ready md ops listed,wpOp P ops Q i (fun a' w'=>(∀ k,T i k→w'.heap[k]?=w.heap[k]?)∧wpAnyT P md ops Q T fuel (listed.setIfInBounds i true) a' w') a w
theorem wpAnyT.any {T:Nat→Nat→Prop}:∀ (fuel:Nat) (listed:Array Bool) (a:Act) (w:World),wpAnyT P md ops Q T fuel listed a w→wpAny P md ops Q fuel listed a w
 | 0,_,_,_,h=>h
 | fuel+1,listed,a,w,h=>⟨h.1,fun i hi=>wpOp_mono (fun a' w' hk=>wpAnyT.any fuel _ a' w' hk.2) (h.2 i hi)⟩
theorem wpAnyT.mono {T T':Nat→Nat→Prop} (hTT:∀ j k,T j k→T' j k):∀ (fuel:Nat) (listed:Array Bool) (a:Act) (w:World),wpAnyT P md ops Q T' fuel listed a w→wpAnyT P md ops Q T fuel listed a w
 | 0,_,_,_,h=>h
 | fuel+1,listed,a,w,h=>⟨h.1,fun i hi=>wpOp_mono (fun a' w' hk=>⟨fun k ht=>hk.1 k (hTT i k ht),wpAnyT.mono hTT fuel _ a' w' hk.2⟩) (h.2 i hi)⟩
def YieldsB (P:Program) (ops:Array Oper) (o:Oper) (v:Value) (a:Act) (w:World) (b:Nat→Prop):Prop:=
 (Region.wanted o (yielded ops a.tmps)=true∧∀ w':World,(∀ g,b g→w'.heap[g]?=w.heap[g]?)→(execOp a.eval o).run P w'=.ok (.value v) w')∨
 (Region.wanted o (yielded ops a.tmps)=false∧v=undef)
theorem YieldsB.op {i:Nat} {o:Oper} {v:Value} {a:Act} {w:World} {b:Nat→Prop} (hi:ops[i]?=some o) (hy:YieldsB P ops o v a w b) {K:Act→World→Prop} (h:K (a.put o.dst v) w):wpOp P ops Q i K a w:=by
 simp only [wpOp,hi]
 rcases hy with ⟨hw,hv⟩ | ⟨hw,rfl⟩
 ·rw [if_pos hw];exact .inl (by rw [Oper.wp,hv w fun _ _=>rfl];exact h)
 ·rw [if_neg (by rw [hw];simp)];exact h
theorem YieldsB.move {o:Oper} {v:Value} {a a':Act} {w:World} {b:Nat→Prop} (hy:YieldsB P ops o v a w b) (he:execOp a'.eval o=execOp a.eval o) (hw:Region.wanted o (yielded ops a'.tmps)=Region.wanted o (yielded ops a.tmps)):YieldsB P ops o v a' w b:=by
 unfold YieldsB at *
 rw [he,hw];exact hy
theorem YieldsB.world {o:Oper} {v:Value} {a:Act} {w w':World} {b:Nat→Prop} (hy:YieldsB P ops o v a w b) (hb:∀ g,b g→w'.heap[g]?=w.heap[g]?):YieldsB P ops o v a w' b:=by
 rcases hy with ⟨h1,h2⟩ | h
 ·exact .inl ⟨h1,fun w2 h3=>h2 w2 fun g hg=>(h3 g hg).trans (hb g hg)⟩
 ·exact .inr h
theorem wpOp_late {j:Nat} {oi oj:Oper} {v:Value} (hj:ops[j]?=some oj) (hap:oi.apart ops oj=true) (hsj:∀ cs b,oj.op≠.select cs b) (hQ:∀ c a w,Q (.panic c) (a.put oi.dst v) w→Q (.panic c) a w)
  {Y:Act→Prop} (keep:∀ a u,Y a→Y (a.put oj.dst u)) (keepD:∀ (a:Act) d,Y a→Y { a with defers:=d::a.defers }) {K:Act→World→Prop} {a:Act} {w:World} (hy:Y a) (h:wpOp P ops Q j K (a.put oi.dst v) w) :
  wpOp P ops Q j (fun a' w'=>Y a'∧K (a'.put oi.dst v) w') a w:=by
 obtain ⟨h1,h2,_⟩:=Oper.apart_spec hap
 have e1:=execOp_put (ops:=ops) oj hsj a oi.dst v h1
 have comm:∀ (a:Act) u,(a.put oi.dst v).put oj.dst u=(a.put oj.dst u).put oi.dst v:=fun a u=>Act.put_comm a v u h2
 simp only [wpOp,hj] at h ⊢
 rw [wanted_put oj a oi.dst v h1] at h
 by_cases hw:Region.wanted oj (yielded ops a.tmps)=true
 ·rw [if_pos hw] at h ⊢
  rcases h with h | ⟨h,hl⟩
  ·left
   rw [Oper.wp,e1] at h
   rw [Oper.wp]
   cases hr:(execOp a.eval oj).run P w with
   | halt x w'=>
     rw [hr] at h
     cases x<;>first | exact h.elim | exact hQ _ _ _ h
   | ok n w'=>
     rw [hr] at h
     cases n with
     | value u=>exact ⟨keep a u hy,by have h:K ((a.put oi.dst v).put oj.dst u) w':=h;rw [comm] at h;exact h⟩
     | skip=>exact ⟨keep a undef hy,by have h:K ((a.put oi.dst v).put oj.dst undef) w':=h;rw [comm] at h;exact h⟩
     | defer d=>
       refine ⟨keep _ undef (keepD a d hy),?_⟩
       have h:K (({ a.put oi.dst v with defers:=d::(a.put oi.dst v).defers }:Act).put oj.dst undef) w':=h
       rw [Act.put_defers,comm] at h
       exact h
     | enter f args=>
       refine Calls.mono h fun e w2 he=>?_
       cases e with
       | returned u=>exact ⟨keep a u hy,by have he:K ((a.put oi.dst v).put oj.dst u) w2:=he;rw [comm] at he;exact he⟩
       | panicked c=>exact hQ _ _ _ he
       | outgrown=>exact he
     | row s args=>exact Rows.mono h fun u w2 he=>⟨keep a u hy,by have he:K ((a.put oi.dst v).put oj.dst u) w2:=he;rw [comm] at he;exact he⟩
     | _=>exact h.elim
  ·right
   refine ⟨?_,hl⟩
   unfold Oper.asks at h ⊢
   rw [e1] at h;exact h
 ·rw [if_neg hw] at h ⊢
  exact ⟨keep a undef hy,by rw [comm] at h;exact h⟩
theorem qb6 {i:Nat} {oi:Oper} {v:Value} {b:Nat→Prop} {aft:Nat→Bool} {T T':Nat→Nat→Prop} (haft:∀ j oj,ops[j]?=some oj→aft j=true→∃ e∈oj.after,Region.binds md e=true∧(e.on=i∨aft e.on=true)) (hi:ops[i]?=some oi) (hsel:∀ (j:Nat) (o:Oper) cs b,ops[j]?=some o→o.op≠.select cs b)
  (hQ:∀ c a w,Q (.panic c) (a.put oi.dst v) w→Q (.panic c) a w) (hTT:∀ j k,T j k→T' j k) :
  ∀ (fuel:Nat) (listed:Array Bool) (a:Act) (w:World),
    (∀ j oj,ops[j]?=some oj→j≠i→listed.getD j true=false→(∀ e∈oj.after,Region.binds md e=true→e.on≠i)→aft j=false→oi.apart ops oj=true∧∀ g,b g→T' j g)→(∀ k,listed.getD k false=true→aft k=false)→
    i∈Region.ready md ops listed→YieldsB P ops oi v a w b→wpAnyT P md ops Q T' fuel (listed.setIfInBounds i true) (a.put oi.dst v) w→wpAnyT P md ops Q T (fuel+1) listed a w:=by
 intro fuel
 induction fuel with
 | zero=>
   intro listed a w _ _ hr hy H
   refine ⟨fun h=>(by rw [h] at hr;cases hr),fun j hj=>?_⟩
   by_cases hji:j=i
   ·subst hji;exact hy.op hi ⟨fun _ _=>rfl,H⟩
   ·have:=ready_mono hj hji
    rw [H.1] at this
    cases this
 | succ fuel ih=>
   intro listed a w hfree hls hr hy H
   refine ⟨fun h=>(by rw [h] at hr;cases hr),fun j hj=>?_⟩
   by_cases hji:j=i
   ·subst hji;exact hy.op hi ⟨fun _ _=>rfl,wpAnyT.mono hTT _ _ _ _ H⟩
   ·have h1:=H.2 j (ready_mono hj hji)
    obtain ⟨hjun,oj,hoj,hall⟩:=mem_ready.1 hj
    have hnot:∀ e∈oj.after,Region.binds md e=true→e.on≠i:=fun e he hb heq=>by
     have h2:=hall e he hb
     have h3:=(mem_ready.1 hr).1
     rw [heq] at h2
     simp only [Array.getD_eq_getD_getElem?] at h2 h3
     cases hx:listed[i]? with
     | none=>rw [hx] at h2;simp at h2
     | some y=>rw [hx] at h2 h3;simp at h2 h3;rw [h2] at h3;cases h3
    have hja:aft j=false:=by
     cases hx:aft j with
     | false=>rfl
     | true=>
       obtain ⟨e,he,hb,h2⟩:=haft j oj hoj hx
       rcases h2 with h2 | h2
       ·exact absurd h2 (hnot e he hb)
       ·rw [hls _ (hall e he hb)] at h2;cases h2
    obtain ⟨hap,hb⟩:=hfree j oj hoj hji hjun hnot hja
    obtain ⟨_,_,hd3⟩:=Oper.apart_spec hap
    have h2:=wpOp_late (Y:=fun a'=>YieldsB P ops oi v a' w b) hoj hap (fun cs b=>hsel j oj cs b hoj) hQ
     (fun a u hy=>hy.move (execOp_put oi (fun cs b=>hsel i oi cs b hi) a oj.dst u hd3) (wanted_put oi a oj.dst u hd3)) (fun a d hy=>hy.move rfl rfl) hy h1
    refine wpOp_mono (fun a' w' h3=>?_) h2
    obtain ⟨hy',hs,H'⟩:=h3
    refine ⟨fun k hk=>hs k (hTT j k hk),ih (listed.setIfInBounds j true) a' w' (fun k ok hk hki hun hno hka=>hfree k ok hk hki ?_ hno hka) (fun k hk=>?_) (ready_mono hr (Ne.symm hji)) (hy'.world fun g hg=>hs g (hb g hg)) ?_⟩
    ·by_cases hjk:j=k
     ·subst hjk;exact hjun
     ·rw [getD_set_ne true hjk] at hun;exact hun
    ·by_cases hjk:j=k
     ·subst hjk;exact hja
     ·refine hls k ?_
      rw [Array.getD_eq_getD_getElem?] at hk ⊢
      rwa [Array.getElem?_setIfInBounds_ne hjk] at hk
    ·rw [Array.setIfInBounds_comm _ _ hji]
     exact H'
end
section
variable {R:Type} {old fz:Nat→Prop} {ρ:Nat→Value} {w:World} {objs:Objs} {r:R}
theorem qea {l:List Nat} {p:Nat×Nat}:p∈same l↔p.1=p.2∧p.1∈l:=by
 simp only [same,List.mem_map]
 constructor
 ·rintro ⟨a,ha,rfl⟩;exact ⟨rfl,ha⟩
 ·rintro ⟨h1,h2⟩;exact ⟨p.1,h2,by cases p;simp at h1;simp [h1]⟩
theorem renρ_same (l:List Nat) (ρ:Nat→Value):renρ (same l) ρ=ρ:=by
 funext n
 unfold renρ
 cases h:(same l).find? fun p=>Nat.beq p.1 n with
 | none=>rfl
 | some p=>
   have h1:=(qea.1 (List.mem_of_find?_eq_some h)).1
   have h2:p.1=n:=Nat.eq_of_beq_eq_true (by have:=List.find?_some h;exact this)
   show ρ p.2=ρ n
   rw [←h1,h2]
theorem aframed_ok {P:Program} {τ:Nat→Option TI} {B:Ops} {gl:Nat→Option (List CV)} {G:Nat→List AV→Objs→(AV→Objs→Option R)→Option R} {owns:Nat→Nat→Bool} (hB:B.ok) (hT:TOk P τ) (hG:GOk P gl G) {env:List AV} {a:Act} (hg:GlR fz w gl) (h:OR fz old ρ w objs) (he:EnvR fz ρ w objs env a.tmps)
  {u:Nat} {o:Oper} {wt:List Nat} {k:AV→Objs→Option R} (hk:aframed τ B gl G owns u o wt env objs k=some r) :
  (∀ κ∈wt,∃ p,oget objs κ=some p∧p.live=true)∧
  (let L:=fun (V:Value) (w':World)=>Lands old fz ρ w objs k r V w'∧∀ κ∈wt,∀ g,blkO objs ρ κ=some g→w'.heap[g]?=w.heap[g]?
   (∃ V w',(execOp a.eval o).run P w=.ok (.value V) w'∧L V w')∨(∃ w',(execOp a.eval o).run P w=.ok .skip w'∧L undef w')∨
    (∃ f args,(execOp a.eval o).run P w=.ok (.enter f args) w∧Calls P f args w fun e w'=>∃ V,e=.returned V∧L V w')):=by
 unfold aframed at hk
 simp only [] at hk
 generalize hm:same ((objs.map (·.1)).filter fun i=>!wt.contains i)=m at hk
 cases hc:(m.fine && (nodup wt.eraseDups && wt.eraseDups.all (liveKey objs))) with
 | false=>rw [hc] at hk;cases hk
 | true=>
 rw [hc] at hk
 simp only [cond_true] at hk
 simp only [Bool.and_eq_true,List.all_eq_true] at hc
 obtain ⟨hmf,hndB,hlive⟩:=hc
 have hwt:∀ κ,κ∈wt.eraseDups↔κ∈wt:=fun κ=>List.mem_eraseDups
 have hliv:∀ κ∈wt,∃ p,oget objs κ=some p∧p.live=true:=fun κ hκ=>by
  have:=hlive κ ((hwt κ).2 hκ)
  unfold liveKey at this
  cases ho:oget objs κ with
  | none=>rw [ho] at this;cases this
  | some p=>rw [ho] at this;cases p<;>first | exact ⟨_,rfl,rfl⟩ | cases this
 refine ⟨hliv,?_⟩
 have hmem:∀ n i,(n,i)∈m↔n=i∧n∈objs.map (·.1)∧n ∉ wt:=fun n i=>by
  rw [←hm,qea]
  simp [List.mem_filter]
 have hρ:renρ m ρ=ρ:=by rw [←hm];exact renρ_same _ _
 obtain ⟨f1,f2⟩:=Ren.fine_ok hmf
 let oldR:Nat→Prop:=fun g=>old g∨∃ κ∈wt,blkO objs ρ κ=some g
 have hor:OR fz oldR ρ w (renObjs m objs):=by
  have:=h.ren hmf (fz':=fz) (old':=oldR) (fun _ hk=>hk) h.fzlt (fun k hk=>by
   rcases hk with hk | ⟨κ,_,hκ⟩
   ·exact h.oldlt k hk
   ·exact (h.blk_lt hκ).1) (fun n i g hn hb=>⟨fun ho=>by
   rcases ho with ho | ⟨κ,hκ,hb'⟩
   ·exact (h.blk_lt hb).2.2 ho
   ·have h3:=(hmem n i).1 hn
    by_cases hik:κ=i
    ·subst hik;rw [←h3.1] at hκ;exact h3.2.2 hκ
    ·exact h.apart κ i g hik hb' hb,(h.blk_lt hb).2.1⟩)
  rw [hρ] at this;exact this
 have hto:RenTo m objs ρ (renObjs m objs) ρ:=by have:=qb5 (objs:=objs) (ρ:=ρ) f1;rw [hρ] at this;exact this
 have her:EnvR fz ρ w (renObjs m objs) (env.map (renA m objs)) a.tmps:=by
  refine ⟨by rw [List.length_map];exact he.1,fun i=>?_⟩
  have:(env.map (renA m objs)).getD i (.c .bot)=renA m objs (env.getD i (.c .bot)):=by
   simp only [List.getD_eq_getElem?_getD,List.getElem?_map]
   cases env[i]?<;>rfl
  rw [this]
  exact AVR.ren h.froz hto (he.2 i)
 have back:∀ V w',Lands oldR fz ρ w (renObjs m objs) (fun v objs'=>bif wt.eraseDups.all fun i=>(oget objs' i).isNone then k v (layObjs id objs (same wt.eraseDups) objs') else none) r V w'→
   Lands old fz ρ w objs k r V w'∧∀ κ∈wt,∀ g,blkO objs ρ κ=some g→w'.heap[g]?=w.heap[g]?:=by
  rintro V w' ⟨v,objs',fz',ρ',hk,hv,ho,hx,hf⟩
  replace hk:(bif wt.eraseDups.all fun i=>(oget objs' i).isNone then k v (layObjs id objs (same wt.eraseDups) objs') else none)=some r:=hk
  cases hn:(wt.eraseDups.all fun i=>(oget objs' i).isNone) with
  | false=>rw [hn] at hk;cases hk
  | true=>
    rw [hn] at hk
    simp only [cond_true] at hk
    simp only [List.all_eq_true,Option.isNone_iff_eq_none] at hn
    have hnone:∀ κ∈wt,oget objs' κ=none:=fun κ hκ=>hn κ ((hwt κ).2 hκ)
    have hsame:∀ κ∈wt,∀ g,blkO objs ρ κ=some g→w'.heap[g]?=w.heap[g]?∧¬ fz' g:=fun κ hκ g hg=>⟨hf.oldw g (.inr ⟨κ,hκ,hg⟩),fun hz=>(h.blk_lt hg).2.1 (hf.back g (.inr ⟨κ,hκ,hg⟩) hz)⟩
    refine ⟨?_,fun κ hκ g hg=>(hsame κ hκ g hg).1⟩
    let M:=layObjs id objs (same wt.eraseDups) objs'
    have hnd:((same wt.eraseDups).map (·.1)).Nodup:=by
     have:(same wt.eraseDups).map (·.1)=wt.eraseDups:=by simp [same,List.map_map,Function.comp_def]
     rw [this];exact qd7 hndB
    let ρM:Nat→Value:=fun κ=>if κ∈wt then ρ κ else ρ' κ
    have Min:∀ κ∈wt,oget M κ=oget objs κ:=fun κ hκ=>by
     have:=lay_in id objs (same wt.eraseDups) objs' hnd (qea.2 ⟨rfl,(hwt κ).2 hκ⟩:(κ,κ)∈same wt.eraseDups)
     show oget (layObjs id objs (same wt.eraseDups) objs') κ=_
     rw [this]
     obtain ⟨p,hp,_⟩:=hliv κ hκ
     rw [hp];rfl
    have Mout:∀ κ,κ ∉ wt→oget M κ=oget objs' κ:=fun κ hκ=>qeo id objs κ _ _ fun i hi=>hκ ((hwt κ).1 (qea.1 hi).2)
    have x1:Ext objs' ρ' M ρM:=⟨fun i p hp=>by
     have hi:i ∉ wt:=fun hi=>by rw [hnone i hi] at hp;cases hp
     exact ⟨if_neg hi,p,by rw [Mout i hi,hp],p.onto_refl⟩⟩
    have x0:Ext objs ρ M ρM:=⟨fun i p hp=>by
     by_cases hi:i∈wt
     ·exact ⟨if_pos hi,p,by rw [Min i hi,hp],p.onto_refl⟩
     ·have hmm:(i,i)∈m:=(hmem i i).2 ⟨rfl,List.mem_map.2 ⟨_,qd9 hp,rfl⟩,hi⟩
      obtain ⟨h1,_⟩:=hto.to i i p hmm hp
      obtain ⟨h2,p',h3,h4⟩:=hx.at_ i _ h1
      refine ⟨by show (if i∈wt then ρ i else ρ' i)=ρ i;rw [if_neg hi,h2],p',by rw [Mout i hi,h3],?_⟩
      cases p with
      | dead=>exact h4
      | row e t xs=>exact h4
      | froz e t xs=>exact h4
      | box ty cs=>obtain ⟨cs',h5⟩:=h4;exact ⟨cs',h5⟩
      | mp ty a b' l=>exact h4
      | it s0 p0=>exact h4⟩
    have hfo:Frm fz old w fz' w':=⟨hf.up,fun g hg=>hf.back g (.inl hg),hf.fzw,fun g hg=>hf.oldw g (.inl hg),hf.size,hf.os,hf.tape,hf.output⟩
    have bin:∀ κ∈wt,∀ g,blkO M ρM κ=some g→blkO objs ρ κ=some g:=fun κ hκ g hg=>by
     unfold blkO at hg ⊢
     rw [Min κ hκ] at hg
     have:ρM κ=ρ κ:=if_pos hκ
     rw [this] at hg;exact hg
    have bout:∀ κ,κ ∉ wt→∀ g,blkO M ρM κ=some g→blkO objs' ρ' κ=some g:=fun κ hκ g hg=>by
     unfold blkO at hg ⊢
     rw [Mout κ hκ] at hg
     have:ρM κ=ρ' κ:=if_neg hκ
     rw [this] at hg;exact hg
    have hM:OR fz' old ρM w' M:=by
     refine ⟨fun i p hp=>?_,fun i j g hij hi hj=>?_,ho.fzlt,fun k hk=>Nat.lt_of_lt_of_le (h.oldlt k hk) hf.size⟩
     ·by_cases hi:i∈wt
      ·rw [Min i hi] at hp
       exact h.obj_stay x0 hfo hp fun g hg=>hsame i hi g hg
      ·rw [Mout i hi] at hp
       have hρi:ρM i=ρ' i:=if_neg hi
       rw [hρi]
       have hR:=ho.obj i p hp
       have hR':ObjR fz' ρ' w' objs' old (ρ' i) p:=by
        cases p with
        | dead=>trivial
        | froz e t xs=>exact hR
        | row e t xs=>obtain ⟨css,c1,c2,c3⟩:=hR;exact ⟨css,c1,c2,fun g hg=>⟨(c3 g hg).1,fun hold=>(c3 g hg).2 (.inl hold)⟩⟩
        | box ty cs=>obtain ⟨g,vs,c1,c2,c3,c4,c5,c6⟩:=hR;exact ⟨g,vs,c1,c2,c3,c4,fun hold=>c5 (.inl hold),c6⟩
        | mp ty a b' l=>obtain ⟨g,es,c,c1,c2,c3,c4,c5⟩:=hR;exact ⟨g,es,c,c1,c2,c3,c4,fun hold=>c5 (.inl hold)⟩
        | it s0 p0=>obtain ⟨g,c1,c2,c3,c4⟩:=hR;exact ⟨g,c1,c2,c3,fun hold=>c4 (.inl hold)⟩
       refine ObjR.mono x1 (fun _ hk=>hk) (fun _ _=>rfl) ?_ hR'
       cases p with
       | dead=>exact .inl rfl
       | froz e t xs=>exact .inr (.inl ⟨e,t,xs,rfl⟩)
       | row e t xs=>exact .inr (.inr fun g hg=>⟨rfl,(ho.blk_lt (i:=i) (by rw [qao hp];exact hg)).2.1⟩)
       | box ty cs=>exact .inr (.inr fun g hg=>⟨rfl,(ho.blk_lt (i:=i) (by rw [qao hp];exact hg)).2.1⟩)
       | mp ty a b' l=>exact .inr (.inr fun g hg=>⟨rfl,(ho.blk_lt (i:=i) (by rw [qao hp];exact hg)).2.1⟩)
       | it s0 p0=>exact .inr (.inr fun g hg=>⟨rfl,(ho.blk_lt (i:=i) (by rw [qao hp];exact hg)).2.1⟩)
     ·by_cases hiw:i∈wt
      ·by_cases hjw:j∈wt
       ·exact h.apart i j g hij (bin i hiw g hi) (bin j hjw g hj)
       ·exact (ho.blk_lt (bout j hjw g hj)).2.2 (.inr ⟨i,hiw,bin i hiw g hi⟩)
      ·by_cases hjw:j∈wt
       ·exact (ho.blk_lt (bout i hiw g hi)).2.2 (.inr ⟨j,hjw,bin j hjw g hj⟩)
       ·exact ho.apart i j g hij (bout i hiw g hi) (bout j hjw g hj)
    exact ⟨v,M,fz',ρM,hk,AVR.mono x1 (fun _ hk=>hk) (fun _ _=>rfl) hv,hM,x0,hfo⟩
 rcases aop_ok hB hT hG hg hor her hk with ⟨V,w',h1,h2⟩ | ⟨w',h1,h2⟩ | ⟨f,args,h1,h2⟩
 ·exact .inl ⟨V,w',h1,back V w' h2⟩
 ·exact .inr (.inl ⟨w',h1,back undef w' h2⟩)
 ·refine .inr (.inr ⟨f,args,h1,h2.mono fun e w' he=>?_⟩)
  obtain ⟨V,rfl,h3⟩:=he
  exact ⟨V,rfl,back V w' h3⟩
end
end Go.Proofs.YtkmpkebaloejhaaGreatDoor.Av
