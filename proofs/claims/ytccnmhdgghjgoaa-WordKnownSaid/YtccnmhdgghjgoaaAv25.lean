/- Regions whose order is drawn: what qbm leans on. Conditions: none. -/
import Derived.Test.YtccnmhdgghjgoaaAv23
namespace Go.Proofs.Ytccnmhdgghjgoaa.Av
open Go
theorem qal (i:Nat) (o:Obj) (k:Nat) (p:Obj) (r:Objs):oset i o ((k,p)::r)=if i<k then (i,o)::(k,p)::r else if i=k then (i,o)::r else (k,p)::oset i o r:=by
 simp only [oset]
 by_cases h:i<k
 ·have:Nat.blt i k=true:=by simp [Nat.blt];omega
  rw [this,if_pos h];rfl
 ·have hb:Nat.blt i k=false:=by rw [Bool.eq_false_iff];intro h';exact h (by simp [Nat.blt] at h';omega)
  rw [hb,if_neg h]
  simp only [cond_false]
  by_cases he:i=k
  ·subst he;simp
  ·have:Nat.beq i k=false:=by rw [Bool.eq_false_iff];intro hb;exact he (Nat.eq_of_beq_eq_true hb)
   rw [this,if_neg he];rfl
theorem qbj {i j:Nat} (h:i<j) (o p:Obj):∀ objs:Objs,oset i o (oset j p objs)=oset j p (oset i o objs)
 | []=>by
  show oset i o [(j,p)]=oset j p [(i,o)]
  rw [qal,qal,if_pos h,if_neg (by omega),if_neg (by omega)];rfl
 | (x,q)::r=>by
   have ih:=qbj h o p r
   rw [qal j p x q r,qal i o x q r]
   by_cases j1:j<x
   ·rw [if_pos j1,if_pos (show i<x by omega),qal,if_pos h,qal,if_neg (by omega),if_neg (by omega),qal,if_pos j1]
   ·rw [if_neg j1]
    by_cases j2:j=x
    ·rw [if_pos j2,qal,if_pos h,if_pos (show i<x by omega),qal,if_neg (by omega),if_neg (by omega),qal,if_neg (by omega),if_pos j2]
    ·rw [if_neg j2]
     by_cases i1:i<x
     ·rw [qal,if_pos i1,if_pos i1,qal,if_neg (by omega),if_neg (by omega),qal,if_neg (by omega),if_neg j2]
     ·rw [qal,if_neg i1,if_neg i1]
      by_cases i2:i=x
      ·rw [if_pos i2,if_pos i2,qal,if_neg (by omega),if_neg (by omega)]
      ·rw [if_neg i2,if_neg i2,qal,if_neg j1,if_neg j2,ih]
theorem oset_comm {i j:Nat} (h:i≠j) (o p:Obj) (objs:Objs):oset i o (oset j p objs)=oset j p (oset i o objs):=by
 rcases Nat.lt_or_gt_of_ne h with h | h
 ·exact qbj h o p objs
 ·exact (qbj h p o objs).symm
theorem qcc {ty:Ty} {v:AV} (h:litC v=true) (objs:Objs):intoElem ty v objs=(intoElem ty v []).map fun x=>(x.1,objs):=by
 have key:∀ c:CV,asVal objs (.c c)=some (.c c)→asVal [] (.c c)=some (.c c)→goodC objs c=true→goodC [] c=true→cellVal objs c=c→cellVal [] c=c→keyOf (.c c)=[]→intoElem ty (.c c) objs=(intoElem ty (.c c) []).map fun x=>(x.1,objs):=by
  intro c h1 h2 h3 h4 h5 h6 h7
  unfold intoElem
  simp only [h1,h2,cellsOf,h3,h4,cond_true,List.map_cons,List.map_nil,h5,h6,h7]
  cases implode ty [c] with
  | none=>rfl
  | some x=>
    obtain ⟨x,l⟩:=x
    cases l<;>rfl
 unfold litC at h
 split at h
 ·exact key _ rfl rfl rfl rfl rfl rfl rfl
 ·exact key _ rfl rfl rfl rfl rfl rfl rfl
 ·exact key _ rfl rfl rfl rfl rfl rfl rfl
 ·cases h
theorem elems_lit {ty:Ty} (objs:Objs):∀ (ps:List (Nat×AV)) (j:Nat),(∀ q∈ps,litC q.2=true)→elems ty ps j objs=(elems ty ps j []).map fun x=>(x.1,objs)
 | [],j,h=>rfl
 | (i,v)::r,j,h=>by
   have hr:∀ q∈r,litC q.2=true:=fun q hq=>h q (List.mem_cons_of_mem _ hq)
   have hv:=h (i,v) List.mem_cons_self
   have ih:=elems_lit (ty:=ty) objs r (j+1) hr
   simp only [elems]
   cases Nat.beq i j with
   | false=>rfl
   | true=>
     simp only [cond_true]
     rw [qcc hv objs,qcc hv []]
     cases intoElem ty v [] with
     | none=>rfl
     | some x=>
       simp only [Option.map_some]
       rw [ih]
       cases elems ty r (j+1) [] with
       | none=>rfl
       | some y=>rfl
theorem litA_rdop (gl:Nat→Option (List CV)) {x:Operand} (h:litC (litA x)=true) (env:List AV):rdop gl x env=litA x:=by
 cases x with
 | const v=>rfl
 | tmp t=>cases h
 | global g=>cases h
 | func f=>cases h
theorem litRow_aop {R:Type} (τ:Nat→Option TI) (B:Ops) (gl:Nat→Option (List CV)) (G:Nat→List AV→Objs→(AV→Objs→Option R)→Option R) (owns:Nat→Nat→Bool) {o:Oper} {e:Nat} {ty:Ty} {xs:List ty.den} (h:litRow τ o=some (e,⟨ty,xs⟩)) (u:Nat) (env:List AV) (objs:Objs) (k:AV→Objs→Option R) :
  aop τ B gl G owns u o env objs k=freshly u objs (k (.c (.own u)) (oset u (.row e ty xs) objs)):=by
 unfold litRow at h
 split at h
 ·rename_i t len parts hop
  split at h
  ·rename_i e0 a1 a2 a3 a4 a5 a6 a7 ht
   split at h
   ·rename_i ty0 hty
    cases hc:((Nat.beq len (parts.toList.map fun p=>(p.1,litA p.2)).length && Nat.ble (len*ty0.sz) 16777216) && parts.toList.all fun p=>litC (litA p.2)) with
    | false=>rw [hc] at h;cases h
    | true=>
      rw [hc] at h
      simp only [cond_true] at h
      simp only [Bool.and_eq_true] at hc
      obtain ⟨⟨c1,c2⟩,c3⟩:=hc
      have hall:∀ p∈parts.toList,litC (litA p.2)=true:=fun p hp=>List.all_eq_true.1 c3 p hp
      have hmap:(parts.toList.map fun p=>(p.1,rdop gl p.2 env))=parts.toList.map fun p=>(p.1,litA p.2):=List.map_congr_left fun p hp=>by rw [litA_rdop gl (hall p hp)]
      split at h
      ·rename_i xs0 o0 hxs
       cases h
       have hel:=elems_lit (ty:=ty) objs (parts.toList.map fun p=>(p.1,litA p.2)) 0 fun q hq=>by
        obtain ⟨p,hp,rfl⟩:=List.mem_map.1 hq
        exact hall p hp
       rw [hxs] at hel
       unfold aop
       rw [hop]
       simp only
       unfold abuildSlice
       rw [hmap,ht]
       simp only [hty,c1,c2,Bool.and_self,cond_true,hel,Option.map_some]
      ·cases h
   ·cases h
  ·cases h
 ·cases h
section
variable {R:Type} {old fz0:Nat→Prop} {ρ0:Nat→Value} {w0:World} {objs0:Objs} {r:R} {P:Program} {τ:Nat→Option TI} {B:Ops} {gl:Nat→Option (List CV)}
 {G:Nat→List AV→Objs→(AV→Objs→Option R)→Option R} {owns:Nat→Nat→Bool}
theorem watch_ok {fz:Nat→Prop} {ρ:Nat→Value} {w:World} {objs:Objs} {t:Nat} {x:AV} {k:AV→Option R} {ad:Addr} {ks:List Nat} (h:OR fz old ρ w objs) (hx:AVR fz ρ w objs x (.pointer (some ad))) (hk:aload τ t x objs k=some r) (hw:watchOf x=some ks) :
  (∀ κ∈ks,∃ o,oget objs κ=some o)∧(fz ad.block∨∃ κ∈ks,blkV (ρ κ)=some ad.block):=by
 unfold aload at hk
 split at hk
 ·rename_i ti hti
  split at hk
  ·rename_i i off n j
   cases hw
   split at hk
   ·rename_i ty cs ho
    simp only [AVR,ho] at hx
    obtain ⟨g,hg,hj,hx⟩:=hx
    refine ⟨fun κ hκ=>by simp at hκ;subst hκ;exact ⟨_,ho⟩,.inr ⟨i,by simp,?_⟩⟩
    rw [hg]
    simp only [Value.pointer.injEq,Option.some.injEq] at hx
    rw [hx,qar];rfl
   ·cases hk
  ·split at hk
   rotate_left
   ·cases hk
   rename_i l hl
   unfold cellsAt at hl
   split at hl
   ·rename_i i off _
    cases hw
    split at hl
    ·rename_i ty cs ho
     simp only [AVR,CVR,ho] at hx
     obtain ⟨g,hg,hx⟩:=hx
     refine ⟨fun κ hκ=>by simp at hκ;subst hκ;exact ⟨_,ho⟩,.inr ⟨i,by simp,?_⟩⟩
     rw [hg]
     simp only [Value.pointer.injEq,Option.some.injEq] at hx
     rw [hx,qar];rfl
    ·cases hl
   ·obtain ⟨ad',cs,he,_,hb,_⟩:=hx
    cases he
    cases hw
    exact ⟨fun κ hκ=>by simp at hκ,.inl hb⟩
   ·rename_i i j off _
    cases hw
    split at hl
    ·rename_i e t xs hr
     obtain ⟨ho,A',c,hV,_,_,_⟩:=qak h hr
     have he:EltR t xs.length (ρ i) j off (.pointer (some ad)):=by
      rcases ho with ho | ho<;>simpa [AVR,ho] using hx
     obtain ⟨_,ad0,m,c',hV',hE⟩:=he
     refine ⟨fun κ hκ=>by simp at hκ;subst hκ;rcases ho with ho | ho<;>exact ⟨_,ho⟩,.inr ⟨i,by simp,?_⟩⟩
     ·rw [hV']
      simp only [Value.pointer.injEq,Option.some.injEq] at hE
      rw [hE,qar];rfl
    ·cases hl
   ·cases hl
 ·cases hk
def Prot (old fz:Nat→Prop) (ρ:Nat→Value) (watch:List (Nat×Nat)) (j g:Nat):Prop:=fz g∨old g∨∃ κ,(j,κ)∈watch∧blkV (ρ κ)=some g
theorem loadOf_ok {o:Op} {x:Operand} (h:loadOf o=some x):∃ t,o=.load t x:=by
 cases o<;>simp [loadOf] at h
 subst h;exact ⟨_,rfl⟩
theorem aftL_ok {ops:Array Oper} {i j:Nat} {oj:Oper} (hj:ops[j]?=some oj) (h:afterOf ops j i=true):∃ e∈oj.after,Region.binds .any e=true∧(e.on=i∨afterOf ops e.on i=true):=by
 have key:∀ (l:List Nat) (acc:List Nat),(∀ k∈acc,∀ ok,ops[k]?=some ok→∃ e∈ok.after,Region.binds .any e=true∧(e.on=i∨e.on∈acc))→
   ∀ k∈l.foldl (aftStep ops i) acc,∀ ok,ops[k]?=some ok→∃ e∈ok.after,Region.binds .any e=true∧(e.on=i∨e.on∈l.foldl (aftStep ops i) acc):=by
  intro l
  induction l with
  | nil=>intro acc hacc;exact hacc
  | cons x l ih=>
    intro acc hacc
    refine ih _ ?_
    unfold aftStep
    cases hc:aftHit ops i acc x with
    | false=>simp only [cond_false];exact hacc
    | true=>
      simp only [cond_true]
      intro k hk ok hok
      rcases List.mem_cons.1 hk with rfl | hk
      ·unfold aftHit at hc
       rw [Array.getElem?_toList,hok] at hc
       simp only [Array.any_eq_true] at hc
       obtain ⟨m,hm,hx⟩:=hc
       simp only [Bool.and_eq_true,Bool.or_eq_true] at hx
       refine ⟨_,Array.getElem_mem hm,hx.1,?_⟩
       rcases hx.2 with h1 | h1
       ·exact .inl (Nat.eq_of_beq_eq_true h1)
       ·exact .inr (List.mem_cons_of_mem _ (by simpa using h1))
      ·obtain ⟨e,h1,h2,h3⟩:=hacc k hk ok hok
       exact ⟨e,h1,h2,h3.imp id (List.mem_cons_of_mem _)⟩
 unfold afterOf at h ⊢
 obtain ⟨e,h1,h2,h3⟩:=key (List.range ops.size) [] (fun k hk=>by cases hk) j (by simpa [aftL] using h) oj hj
 exact ⟨e,h1,h2,h3.imp id fun h=>by simpa [aftL] using h⟩
theorem aftOk_ok {x:Operand} {ops:Array Oper} {i:Nat} {listed:Array Bool} (h:(bif (some (α:=Operand) x).isSome then aftOk ops i listed else true)=true) {k:Nat} (hk:listed.getD k false=true):afterOf ops k i=false:=by
 simp only [Option.isSome_some,cond_true] at h
 cases hx:afterOf ops k i with
 | false=>rfl
 | true=>
   unfold aftOk at h
   unfold afterOf at hx
   have:=List.all_eq_true.1 h k (by simpa using hx)
   rw [hk] at this
   cases this
theorem PT.len_pos {ops:Array Oper} {listed:Array Bool}:∀ {t:PT},planB τ ops t true listed=true→0<t.len
 | .done,h=>by simp [planB] at h
 | .op i t,_=>by simp [PT.len]
 | .two i j t,_=>by simp [PT.len]
 | .alt t u,h=>by
   simp only [planB,Bool.and_eq_true] at h
   exact Nat.lt_of_lt_of_le (PT.len_pos h.2.1) (Nat.le_max_left _ _)
theorem PT.head_ready {ops:Array Oper} {listed:Array Bool}:∀ {t:PT},planB τ ops t true listed=true→∃ i,i∈Region.ready .any ops listed
 | .done,h=>by simp [planB] at h
 | .op i t,h=>by
   simp only [planB] at h
   split at h
   ·cases h
   ·simp only [Bool.and_eq_true] at h
    exact ⟨i,by simpa using h.1⟩
 | .two i j t,h=>by
   simp only [planB] at h
   split at h
   ·simp at h
   ·cases h
 | .alt t u,h=>by
   simp only [planB,Bool.and_eq_true] at h
   exact PT.head_ready h.2.1
theorem unl_set {listed:Array Bool} {i j:Nat} (hj:(listed.setIfInBounds i true).getD j true=false):listed.getD j true=false∧j≠i:=by
 by_cases hji:i=j
 ·subst hji
  exfalso
  simp only [Array.getD_eq_getD_getElem?] at hj
  by_cases hb:i<listed.size
  ·simp [hb] at hj
  ·simp [Array.getElem?_eq_none (show (listed.setIfInBounds i true).size≤i by simp;omega)] at hj
 ·rw [getD_set_ne true hji] at hj;exact ⟨hj,Ne.symm hji⟩
theorem Prot.mono {old fz fz':Nat→Prop} {ρ ρ':Nat→Value} {watch:List (Nat×Nat)} {objs objs':Objs} {w w':World} (hW:∀ p∈watch,∃ o,oget objs p.2=some o) (he:Ext objs ρ objs' ρ') (hfm:Frm fz old w fz' w') {j g:Nat} (hpr:Prot old fz ρ watch j g):Prot old fz' ρ' watch j g:=by
 rcases hpr with h1 | h1 | ⟨κ,h1,h2⟩
 ·exact .inl (hfm.up g h1)
 ·exact .inr (.inl h1)
 ·obtain ⟨q,hq⟩:=hW _ h1
  obtain ⟨e1,_⟩:=he.at_ κ q hq
  exact .inr (.inr ⟨κ,h1,by rw [e1];exact h2⟩)
theorem qci (r:R) (hB:B.ok) (hT:TOk P τ) (hG:GOk P gl G) {ops:Array Oper} {i:Nat} {o:Oper} (ho:ops[i]?=some o) {e:Nat} {ty:Ty} {xs:List ty.den} (hl:litRow τ o=some (e,⟨ty,xs⟩)) {Q:Exit→Act→World→Prop} {env:List AV} {objs:Objs} {a:Act} {w:World} {fz:Nat→Prop} {ρ:Nat→Value}
  (s:St gl old fz0 ρ0 w0 objs0 fz ρ env objs a w) (hw:Region.wanted o (yielded ops a.tmps)=true) {u:Nat} (hu:oget objs u=none) {T:Nat→Prop} (hT':∀ g,T g→fz g∨old g) {K:Act→World→Prop}
  (hK:∀ a' w' fz' ρ',St gl old fz0 ρ0 w0 objs0 fz' ρ' (eput o.dst (.c (.own u)) env) (oset u (.row e ty xs) objs) a' w'→Ext objs ρ (oset u (.row e ty xs) objs) ρ'→Frm fz old w fz' w'→K a' w') :
  wpOp P ops Q i (fun a' w'=>(∀ g,T g→w'.heap[g]?=w.heap[g]?)∧K a' w') a w:=by
 let k:AV→Objs→Option R:=fun v o'=>@ite _ (v=.c (.own u)∧o'=oset u (.row e ty xs) objs) (Classical.propDecidable _) (some r) none
 have hrun:aop τ B gl G (fun _ _=>false) u o env objs k=some r:=by
  rw [litRow_aop τ B gl G (fun _ _=>false) hl]
  unfold freshly
  rw [hu]
  exact if_pos ⟨rfl,rfl⟩
 have hnext:∀ V w',Lands old fz ρ w objs k r V w'→(∀ g,T g→w'.heap[g]?=w.heap[g]?)∧K (a.put o.dst V) w':=by
  rintro V w' ⟨v,objs',fz',ρ',h1,h2,h3,h4,h5⟩
  have hv:v=.c (.own u)∧objs'=oset u (.row e ty xs) objs:=by
   refine Classical.byContradiction fun hc=>?_
   have:k v objs'=none:=if_neg hc
   rw [this] at h1;cases h1
  obtain ⟨rfl,rfl⟩:=hv
  exact ⟨fun g hg=>(hT' g hg).elim (h5.fzw g) (h5.oldw g),hK _ _ fz' ρ' ⟨h3,(s.env_.mono h4 h5.up h5.fzw).put h2 o.dst,s.gl_.mono h5.up h5.fzw,s.frm.trans h5,s.bk.ext h4,by rw [put_defers];exact s.nd⟩ h4 h5⟩
 simp only [wpOp,ho]
 rw [if_pos hw]
 left
 unfold Oper.wp
 rcases aop_ok hB hT hG s.gl_ s.or_ s.env_ hrun with ⟨V,w',h1,h2⟩ | ⟨w',h1,h2⟩ | ⟨f,args,h1,h2⟩
 ·rw [h1,Oper.upon_value];exact hnext V w' h2
 ·rw [h1,Oper.upon_skip];exact hnext undef w' h2
 ·rw [h1,Oper.upon_enter]
  refine h2.mono fun e w' he=>?_
  obtain ⟨V,rfl,h3⟩:=he
  exact hnext V w' h3
theorem eput_comm {da db:Nat} (h:da≠db) (v v':AV) (env:List AV):eput (some da) v (eput (some db) v' env)=eput (some db) v' (eput (some da) v env):=List.set_comm _ _ (Ne.symm h)
theorem qbk {d da:Nat} (h:d≠da) (v:AV) (env:List AV):(eput (some da) v env).getD d (.c .bot)=env.getD d (.c .bot):=by
 show (env.set da v).getD d _=_
 rw [List.getD_eq_getElem?_getD,List.getElem?_set_ne (Ne.symm h),List.getD_eq_getElem?_getD]
end
end Go.Proofs.Ytccnmhdgghjgoaa.Av
