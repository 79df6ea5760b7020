/- One operation of the machine does what the abstract one says. Conditions: none. -/
import Derived.Test.YtkmpkebaloejhaaGreatDoorAv24
import Derived.Test.YtkmpkebaloejhaaGreatDoorAv20
namespace Go.Proofs.YtkmpkebaloejhaaGreatDoor.Av
open Go
section
variable {R:Type} {old fz:Nat→Prop} {ρ:Nat→Value} {w:World} {objs:Objs} {r:R} {P:Program} {τ:Nat→Option TI} {B:Ops} {gl:Nat→Option (List CV)}
 {G:Nat→List AV→Objs→(AV→Objs→Option R)→Option R} {owns:Nat→Nat→Bool} {env:List AV} {a:Act}
theorem qcv (hg:GlR fz w gl) (he:EnvR fz ρ w objs env a.tmps):∀ l:List Operand,All2 (AVR fz ρ w objs) (l.map (rdop gl · env)) (l.map a.eval)
 | []=>trivial
 | x::l=>⟨qbl hg he x,qcv hg he l⟩
theorem qde (hg:GlR fz w gl) (he:EnvR fz ρ w objs env a.tmps):∀ l:List (Nat×Operand),All2 (fun p q=>p.1=q.1∧AVR fz ρ w objs p.2 q.2) (l.map fun p=>(p.1,rdop gl p.2 env)) (l.map fun p=>(p.1,a.eval p.2))
 | []=>trivial
 | x::l=>⟨⟨rfl,qbl hg he x.2⟩,qde hg he l⟩
theorem qeu (hg:GlR fz w gl) (he:EnvR fz ρ w objs env a.tmps):∀ (l:List Operand) (caps:List CV),l.mapM (fun x=>asC (rdop gl x env))=some caps→All2 (CVR fz ρ w objs) caps (l.map a.eval)
 | [],caps,h=>by simp at h;subst h;trivial
 | x::l,caps,h=>by
   rw [List.mapM_cons] at h
   cases hx:rdop gl x env with
   | c cv=>
     rw [hx] at h
     have hc:asC (.c cv)=some cv:=rfl
     rw [hc] at h
     cases hm:l.mapM (fun x=>asC (rdop gl x env)) with
     | none=>rw [hm] at h;simp at h
     | some cs=>
       rw [hm] at h
       simp at h
       subst h
       have:=qbl hg he x
       rw [hx] at this
       exact ⟨this,qeu hg he l cs hm⟩
   | _=>rw [hx] at h;simp [asC] at h
theorem qd0:∀ {ps:List (Nat×AV)} {p:Nat×AV} {i lo hi:Nat} {b:Bool},p∈ps→p.2=.view i lo hi b→i∈viewKeys ps
 | p'::ps,p,i,lo,hi,b,hp,hv=>by
   rcases List.mem_cons.1 hp with rfl | hp
   ·simp only [viewKeys,hv];exact List.mem_cons_self
   ·have:=qd0 hp hv
    simp only [viewKeys]
    split
    ·exact List.mem_cons_of_mem _ this
    ·exact this
theorem viewC_ok (h:OR fz old ρ w objs) {fz':Nat→Prop} {objs':Objs} (h2:Ext objs ρ objs' ρ) (h3:Frm fz old w fz' w) {v:AV} {V:Value}
  (h4:∀ i lo hi b,v=.view i lo hi b→∀ e t xs,rowOf objs i=some (e,⟨t,xs⟩)→Ty.K fz' w (.list e t) xs [ρ i]) (hv:AVR fz ρ w objs v V):AVR fz' ρ w objs' (viewC objs v) V:=by
 unfold viewC
 split
 ·rename_i i lo hi b
  have mono:=AVR.mono h2 h3.up h3.fzw hv
  simp only [asVal]
  cases hr:rowOf objs i with
  | none=>exact mono
  | some p=>
    obtain ⟨e,t,xs⟩:=p
    obtain ⟨ho,A,c,hV,hl,hm,hrr⟩:=qar h hr
    have hX:ViewR t xs.length (ρ i) lo hi b V:=by
     rcases ho with ho | ho<;>simpa [AVR,ho] using hv
    exact view_K (h4 i lo hi b rfl e t xs hr) hX
 ·exact AVR.mono h2 h3.up h3.fzw hv
theorem aop_pure (hB:B.ok) (hT:TOk P τ) (hg:GlR fz w gl) (h:OR fz old ρ w objs) (he:EnvR fz ρ w objs env a.tmps) {u:Nat} {o:Oper} {k:AV→Objs→Option R}
  (hp:isPure τ o.op=true) (hk:aop τ B gl G owns u o env objs k=some r):∃ V,(∀ w',(execOp a.eval o).run P w'=.ok (.value V) w')∧Lands old fz ρ w objs k r V w:=by
 have hr:=fun x=>qbl (gl:=gl) hg he x
 have fin:∀ {x:Sem Value},(execOp a.eval o=(do pure (.value (←x))))→Reads P fz ρ w objs x (fun v=>k v objs) r→∃ V,(∀ w',(execOp a.eval o).run P w'=.ok (.value V) w')∧Lands old fz ρ w objs k r V w:=by
  rintro x hx ⟨v,V,h1,h2,h3⟩
  refine ⟨V,fun w'=>?_,Lands.same h h2 h3⟩
  rw [hx];simp [h1 w']
 obtain ⟨dst,op,type,pos,after,guard⟩:=o
 cases op<;>simp only [isPure] at hp<;>try (cases hp;done)
 case move x=>exact ⟨a.eval x,fun w'=>rfl,amove_ok h (hr x) hk⟩
 case assign x=>exact ⟨a.eval x,fun w'=>rfl,aassign_ok h (hr x) hk⟩
 case pick c x y=>
  simp only [aop] at hk
  have hc:=hr c
  split at hk
  ·rename_i v hv
   rw [hv] at hc
   have hc:a.eval c=.bool v:=hc
   cases v with
   | true=>exact ⟨a.eval x,fun w'=>by simp [execOp,hc,asBool],Lands.same h hk (hr x)⟩
   | false=>exact ⟨a.eval y,fun w'=>by simp [execOp,hc,asBool],Lands.same h hk (hr y)⟩
  ·cases hk
 case build t parts=>
  simp only [aop] at hk
  obtain ⟨fz',h1,h2,h3,h4⟩:=qa6 (viewKeys (parts.toList.map fun p=>(p.1,rdop gl p.2 env))) h
  have hq:All2 (fun p q=>p.1=q.1∧AVR fz' ρ w (freezeAll (viewKeys (parts.toList.map fun p=>(p.1,rdop gl p.2 env))) objs) p.2 q.2) ((parts.toList.map fun p=>(p.1,rdop gl p.2 env)).map fun p=>(p.1,viewC objs p.2)) (parts.map fun p=>(p.1,a.eval p.2)).toList:=by
   rw [Array.toList_map]
   refine All2.map_left (All2.imp_mem (fun p q hp hpq=>⟨hpq.1,viewC_ok h h2 h3 (fun i lo hi b hv=>h4 i (qd0 hp hv)) hpq.2⟩) (qde hg he parts.toList))
  obtain ⟨v,V,r1,r2,r3⟩:=abuild_ok hT h1 hq hk
  exact ⟨V,fun w'=>by simp [execOp,r1 w'],v,_,fz',ρ,r2,r3,h1,h2,h3⟩
 case nilCheck x=>
  simp only [aop] at hk
  have hx:=hr x
  split at hk
  ·rename_i f caps hv
   rw [hv] at hx
   obtain ⟨cs,hX,hc⟩:=hx
   refine ⟨.func (.func f) #[] cs,fun w'=>by simp [execOp,hX],Lands.same h hk ⟨cs,rfl,hc⟩⟩
  ·rename_i f caps hv
   rw [hv] at hx
   obtain ⟨cs,hX,hc⟩:=hx
   refine ⟨.func (.func f) cs #[],fun w'=>by simp [execOp,hX],Lands.same h hk ⟨cs,rfl,hc⟩⟩
  ·cases hi:isAddr objs (rdop gl x env) with
   | false=>simp [hi] at hk
   | true=>
     simp only [hi,cond_true] at hk
     obtain ⟨ad,hX⟩:=isAddr_ok h hx hi
     exact ⟨a.eval x,fun w'=>by simp [execOp,hX],Lands.same h hk hx⟩
 case binOp op t x y z=>exact fin rfl (abin_ok hB t x y hT (hr x) (hr y) hk)
 case unOp op t x=>exact fin rfl (aun_ok P (hr x) hk)
 case convert s d x=>
  simp only [aop,aconv] at hk
  simp only [Bool.and_eq_true,Option.isNone_iff_eq_none] at hp
  rw [hp.1,hp.2] at hk
  exact fin rfl (qem hT (hr x) hk)
 case makeFunc fn first captured=>
  simp only [aop] at hk
  cases fn with
  | func f=>
    simp only at hk
    split at hk
    ·rename_i caps hm
     cases hz:Nat.beq first.size 0 with
     | false=>
       simp only [hz,cond_false] at hk
       cases hz':Nat.beq captured.size 0 with
       | false=>simp [hz'] at hk
       | true=>
         simp only [hz',cond_true] at hk
         have h0:captured=#[]:=Array.eq_empty_of_size_eq_zero (Nat.eq_of_beq_eq_true hz')
         subst h0
         refine ⟨.func (.func f) (first.map a.eval) #[],fun w'=>by simp [execOp,Instr.makeFunc],Lands.same h hk ⟨_,rfl,?_⟩⟩
         simp only [Array.toList_map]
         exact qeu hg he first.toList caps (by simpa using hm)
     | true=>
       simp only [hz,cond_true] at hk
       have h0:first=#[]:=by
        have:=Nat.eq_of_beq_eq_true hz
        exact Array.eq_empty_of_size_eq_zero this
       subst h0
       refine ⟨.func (.func f) #[] (captured.map a.eval),fun w'=>by simp [execOp,Instr.makeFunc],Lands.same h hk ⟨_,rfl,?_⟩⟩
       simp only [Array.toList_map]
       exact qeu hg he captured.toList caps (by simpa using hm)
    ·cases hk
  | _=>simp at hk
 case slice t x lo hi mx=>
  refine fin rfl (aslice_ok hB hT h (hr x) ?_ ?_ ?_ ?_ ?_ ?_ hk)
  ·intro y hy;cases lo with
   | none=>simp at hy
   | some l=>simp at hy;subst hy;exact ⟨_,rfl,hr l⟩
  ·intro hy;cases lo with
   | none=>rfl
   | some l=>simp at hy
  ·intro y hy;cases hi with
   | none=>simp at hy
   | some l=>simp at hy;subst hy;exact ⟨_,rfl,hr l⟩
  ·intro hy;cases hi with
   | none=>rfl
   | some l=>simp at hy
  ·intro y hy;cases mx with
   | none=>simp at hy
   | some l=>simp at hy;subst hy;exact ⟨_,rfl,hr l⟩
  ·intro hy;cases mx with
   | none=>rfl
   | some l=>simp at hy
 case fieldAddr s x f=>exact fin rfl (afieldAddr_ok hT h (hr x) hk)
 case field s x f=>exact fin rfl (afield_ok hT (hr x) hk)
 case indexAddr t x ix=>exact fin rfl (aindexAddr_ok hB hT h (hr x) (hr ix) hk)
 case index t x ix=>exact fin rfl (aindex_ok hB hT (hr x) (hr ix) hk)
 case extract x j=>exact fin rfl (aextract_ok (hr x) hk)
 case call c=>
  obtain ⟨callee,args,argTypes⟩:=c
  cases callee with
  | value f=>simp at hp
  | invoke x m=>simp at hp
  | builtin b=>
    have ha:=qcv hg he args.toList
    cases b<;>simp at hp<;>simp only [aop] at hk
    case len=>
     simp only [abuiltin] at hk
     split at hk
     ·rename_i ls ts x t hx ht
      have ht':argTypes=#[t]:=by apply Array.ext';simpa using ht
      rw [hx] at ha
      cases hl:args.toList with
      | nil=>rw [hl] at ha;exact ha.elim
      | cons y l=>
        rw [hl] at ha
        cases l with
        | cons=>exact ha.2.elim
        | nil=>
          have ha':args=#[y]:=by apply Array.ext';simpa using hl
          subst ha';subst ht'
          refine fin (x:=Builtin.len_ #[t] type ((#[y]:Array Operand).map a.eval)) rfl ?_
          have e:(#[y]:Array Operand).map a.eval=#[a.eval y]:=by simp
          rw [e]
          exact alen_ok (ty':=type) hT h ha.1 hk
     ·cases hk
    case min=>
     simp only [abuiltin,amin] at hk
     split at hk
     ·rename_i ls ik n l hl
      rw [hl] at ha
      cases hl':args.toList with
      | nil=>rw [hl'] at ha;exact ha.elim
      | cons y l'=>
        rw [hl'] at ha
        have h1:a.eval y=.int ik n:=ha.1
        refine fin (x:=Builtin.min_ argTypes type (args.map a.eval)) rfl ?_
        obtain ⟨v,V,e1,e2,e3⟩:=amin_ok (P:=P) (mx:=false) hB ha.2 hk
        refine ⟨v,V,fun w'=>?_,e2,e3⟩
        have:(args.map a.eval).toList=.int ik n::l'.map a.eval:=by rw [Array.toList_map,hl',List.map_cons,h1]
        unfold Builtin.min_
        rw [this]
        exact e1 w'
     ·cases hk
    case max=>
     simp only [abuiltin,amin] at hk
     split at hk
     ·rename_i ls ik n l hl
      rw [hl] at ha
      cases hl':args.toList with
      | nil=>rw [hl'] at ha;exact ha.elim
      | cons y l'=>
        rw [hl'] at ha
        have h1:a.eval y=.int ik n:=ha.1
        refine fin (x:=Builtin.max_ argTypes type (args.map a.eval)) rfl ?_
        obtain ⟨v,V,e1,e2,e3⟩:=amin_ok (P:=P) (mx:=true) hB ha.2 hk
        refine ⟨v,V,fun w'=>?_,e2,e3⟩
        have:(args.map a.eval).toList=.int ik n::l'.map a.eval:=by rw [Array.toList_map,hl',List.map_cons,h1]
        unfold Builtin.max_
        rw [this]
        exact e1 w'
     ·cases hk
theorem aop_load (hT:TOk P τ) (hg:GlR fz w gl) (h:OR fz old ρ w objs) (he:EnvR fz ρ w objs env a.tmps) {u:Nat} {o:Oper} {t:Nat} {x:Operand} {k:AV→Objs→Option R}
  (ho:o.op=.load t x) (hk:aop τ B gl G owns u o env objs k=some r) :
  ∃ ad V,a.eval x=.pointer (some ad)∧(∀ w',w'.heap[ad.block]?=w.heap[ad.block]?→(execOp a.eval o).run P w'=.ok (.value V) w')∧Lands old fz ρ w objs k r V w:=by
 simp only [aop,ho] at hk
 obtain ⟨ad,hA,v,V,h1,h2,h3⟩:=aload_ok (P:=P) hT h (qbl hg he x) hk
 refine ⟨ad,V,hA,fun w' hw=>?_,Lands.same h h2 h3⟩
 simp [execOp,ho,h1 w' hw]
def Did (P:Program) (o:Oper) (a:Act) (old fz:Nat→Prop) (ρ:Nat→Value) (w:World) (objs:Objs) (k:AV→Objs→Option R) (r:R):Prop:=
 (∃ V w',(execOp a.eval o).run P w=.ok (.value V) w'∧Lands old fz ρ w objs k r V w')∨
 (∃ w',(execOp a.eval o).run P w=.ok .skip w'∧Lands old fz ρ w objs k r undef w')∨
 (∃ f args,(execOp a.eval o).run P w=.ok (.enter f args) w∧Calls P f args w fun e w'=>∃ V,e=.returned V∧Lands old fz ρ w objs k r V w')
theorem aop_ok (hB:B.ok) (hT:TOk P τ) (hG:GOk P gl G) (hg:GlR fz w gl) (h:OR fz old ρ w objs) (he:EnvR fz ρ w objs env a.tmps) {u:Nat} {o:Oper} {k:AV→Objs→Option R}
  (hk:aop τ B gl G owns u o env objs k=some r):Did P o a old fz ρ w objs k r:=by
 cases hp:isPure τ o.op with
 | true=>
   obtain ⟨V,h1,h2⟩:=aop_pure hB hT hg h he hp hk
   exact .inl ⟨V,w,h1 w,h2⟩
 | false=>
 have hr:=fun x=>qbl (gl:=gl) hg he x
 obtain ⟨dst,op,type,pos,after,guard⟩:=o
 have fin:∀ {x:Sem Value} {V:Value} {w':World},(execOp a.eval ⟨dst,op,type,pos,after,guard⟩=(do pure (.value (←x))))→x.run P w=.ok V w'→Lands old fz ρ w objs k r V w'→Did P ⟨dst,op,type,pos,after,guard⟩ a old fz ρ w objs k r:=by
  intro x V w' hx h1 h2
  refine .inl ⟨V,w',?_,h2⟩
  rw [hx];simp [h1]
 cases op<;>simp only [isPure] at hp<;>try (cases hp;done)
 all_goals try (simp only [aop] at hk;cases hk;done)
 case alloc t=>
  simp only [aop] at hk
  split at hk
  ·rename_i ti hti
   obtain ⟨V,w',h1,h2,_⟩:=alloc_ok hT h hti hk
   exact fin rfl h1 h2
  ·cases hk
 case box t x=>
  simp only [aop] at hk
  split at hk
  ·rename_i ti l hti hl
   cases hb:Nat.beq l.length ti.size with
   | false=>simp [hb] at hk
   | true=>
     simp only [hb,cond_true] at hk
     obtain ⟨V,w',h1,h2⟩:=box_ok (P:=P) h (hr x) hl hk
     exact fin rfl h1 h2
  ·cases hk
 case buildSlice t len parts=>
  simp only [aop] at hk
  obtain ⟨V,w',h1,h2,_⟩:=qfd (qs:=parts.map fun p=>(p.1,a.eval p.2)) hT h (by simpa [Array.toList_map] using qde hg he parts.toList) hk
  exact fin rfl h1 h2
 case load t x=>
  obtain ⟨ad,V,_,h1,h2⟩:=aop_load (G:=G) (owns:=owns) hT hg h he (o:=⟨dst,.load t x,type,pos,after,guard⟩) rfl hk
  exact .inl ⟨V,w,h1 w rfl,h2⟩
 case store t x y=>
  simp only [aop] at hk
  obtain ⟨w',h1,objs',fz',ρ',h2,h3,h4,h5⟩:=astore_ok hT h (hr x) (hr y) hk
  exact .inr (.inl ⟨w',by simp [execOp,h1],.c .bot,objs',fz',ρ',h2,trivial,h3,h4,h5⟩)
 case convert s d x=>
  simp only [aop] at hk
  obtain ⟨V,w',h1,h2⟩:=aconv_ok (P:=P) hB hT h (hr x) hk
  exact fin rfl h1 h2
 case makeSlice t l c=>
  simp only [aop] at hk
  obtain ⟨V,w',h1,h2⟩:=amake_ok hB hT h (hr l) (hr c) hk
  exact fin rfl h1 h2
 case makeMap t hint=>
  cases hint with
  | some x=>simp only [aop] at hk;cases hk
  | none=>
    simp only [aop] at hk
    obtain ⟨V,w',h1,h2⟩:=amakeMap_ok (P:=P) hT h hk
    exact fin rfl h1 h2
 case range t x=>
  simp only [aop] at hk
  obtain ⟨V,w',h1,h2⟩:=arange_ok (P:=P) hT h (hr x) hk
  exact fin rfl h1 h2
 case next x str=>
  cases str with
  | false=>simp only [aop] at hk;cases hk
  | true=>
    simp only [aop] at hk
    obtain ⟨V,w',h1,h2⟩:=anext_ok (P:=P) (ty:=type) hB h (hr x) hk
    exact fin rfl h1 h2
 case mapUpdate t m y x=>
  simp only [aop] at hk
  obtain ⟨w',h1,objs',fz',ρ',h2,h3,h4,h5⟩:=amapUpdate_ok (P:=P) hT h (hr m) (hr y) (hr x) hk
  exact .inr (.inl ⟨w',by simp [execOp,h1],.c .bot,objs',fz',ρ',h2,trivial,h3,h4,h5⟩)
 case lookup t m y ok=>
  cases ok with
  | true=>simp only [aop] at hk;cases hk
  | false=>
    simp only [aop] at hk
    obtain ⟨v,V,h1,h2,h3⟩:=alookup_ok (P:=P) hT h (hr m) (hr y) hk
    exact fin rfl h1 (Lands.same h h2 h3)
 case call c=>
  obtain ⟨callee,args,argTypes⟩:=c
  cases callee with
  | invoke x m=>simp [aop] at hk
  | builtin b=>
    simp only [aop] at hk
    have ha:=qcv hg he args.toList
    cases b<;>simp at hp<;>simp only [abuiltin] at hk<;>try (cases hk;done)
    split at hk
    ·rename_i ls ts s x t t' hx ht
     cases hb:Nat.beq t t' with
     | false=>simp [hb] at hk
     | true=>
       simp only [hb,cond_true] at hk
       have htt:=Nat.eq_of_beq_eq_true hb
       subst htt
       have ht':argTypes=#[t,t]:=by apply Array.ext';simpa using ht
       rw [hx] at ha
       cases hl:args.toList with
       | nil=>rw [hl] at ha;exact ha.elim
       | cons y l=>
         rw [hl] at ha
         cases l with
         | nil=>exact ha.2.elim
         | cons z l=>
           cases l with
           | cons=>exact ha.2.2.elim
           | nil=>
             have ha':args=#[y,z]:=by apply Array.ext';simpa using hl
             subst ha';subst ht'
             obtain ⟨V,w',h1,h2⟩:=aappendD_ok (P:=P) (ty':=type) hB hT h ha.1 ha.2.1 hk
             have e:(#[y,z]:Array Operand).map a.eval=#[a.eval y,a.eval z]:=by simp
             exact fin (x:=Builtin.append_ #[t,t] type ((#[y,z]:Array Operand).map a.eval)) rfl (by rw [e];exact h1) h2
    ·cases hk
  | value f=>
    simp only [aop] at hk
    split at hk
    ·rename_i g caps hf
     have hF:=hr f
     rw [hf] at hF
     obtain ⟨cs,hF,hcs⟩:=hF
     have hargs:All2 (AVR fz ρ w objs) (args.toList.map (rdop gl · env)++caps.map .c) (args.map a.eval++cs).toList:=by
      rw [Array.toList_append,Array.toList_map]
      exact All2.append (qcv hg he args.toList) (All2.map_l hcs)
     obtain ⟨⟨fn,e1,e2,e3⟩,hc⟩:=acallN_ok (P:=P) hG hg h hargs hk
     refine .inr (.inr ⟨g,args.map a.eval++cs,?_,hc⟩)
     have:execOp a.eval ⟨dst,.call ⟨.value f,args,argTypes⟩,type,pos,after,guard⟩=callFunc g (#[]++args.map a.eval++cs):=by
      show (do let d ←Deferred.ofValue (a.eval f) (args.map a.eval);invoke d.target d.args)=_
      rw [hF]
      rfl
     rw [this,Array.empty_append]
     have h1:fn.name≠"runtime.NumGoroutine":=by simpa using e2
     have h2:fn.body≠none:=by intro hx;rw [hx] at e3;cases e3
     simp [callFunc,e1,h1,h2]
    ·rename_i g caps hf
     have hF:=hr f
     rw [hf] at hF
     obtain ⟨cs,hF,hcs⟩:=hF
     have hargs:All2 (AVR fz ρ w objs) (caps.map .c++args.toList.map (rdop gl · env)) (cs++args.map a.eval).toList:=by
      rw [Array.toList_append,Array.toList_map]
      exact All2.append (All2.map_l hcs) (qcv hg he args.toList)
     obtain ⟨⟨fn,e1,e2,e3⟩,hc⟩:=acallN_ok (P:=P) hG hg h hargs hk
     refine .inr (.inr ⟨g,cs++args.map a.eval,?_,hc⟩)
     have:execOp a.eval ⟨dst,.call ⟨.value f,args,argTypes⟩,type,pos,after,guard⟩=callFunc g (cs++args.map a.eval++#[]):=by
      show (do let d ←Deferred.ofValue (a.eval f) (args.map a.eval);invoke d.target d.args)=_
      rw [hF]
      rfl
     rw [this,Array.append_empty]
     have h1:fn.name≠"runtime.NumGoroutine":=by simpa using e2
     have h2:fn.body≠none:=by intro hx;rw [hx] at e3;cases e3
     simp [callFunc,e1,h1,h2]
    ·cases hk
end
end Go.Proofs.YtkmpkebaloejhaaGreatDoor.Av
