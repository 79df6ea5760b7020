/- Calls. Conditions: none. -/
import Derived.Test.YtkmpkebaloejhaaGreatDoorAv11
namespace Go.Proofs.YtkmpkebaloejhaaGreatDoor.Av
open Go
def Bk (objs:Objs) (ρ:Nat→Value) (objs':Objs) (ρ':Nat→Value):Prop:=∀ n ty cs,oget objs n=some (.box ty cs)→ρ' n=ρ n∧∃ cs',oget objs' n=some (.box ty cs')
def Spec (P:Program) (gl:Nat→Option (List CV)) (f:Nat) (args:List AV) (objs:Objs) (v:AV) (objs':Objs):Prop:=
 (∃ fn,P.funcs[f]?=some fn∧(fn.name == "runtime.NumGoroutine")=false∧fn.body.isNone=false)∧∀ (old fz:Nat→Prop) (ρ:Nat→Value) (w:World) (vs:Array Value),GlR fz w gl→OR fz old ρ w objs→All2 (AVR fz ρ w objs) args vs.toList→
   Calls P f vs w fun e w'=>∃ V ρ' fz',e=.returned V∧AVR fz' ρ' w' objs' v V∧OR fz' old ρ' w' objs'∧Frm fz old w fz' w'∧Bk objs ρ objs' ρ'
def GOk {R:Type} (P:Program) (gl:Nat→Option (List CV)) (G:Nat→List AV→Objs→(AV→Objs→Option R)→Option R):Prop:=
 ∀ f args objs k r,G f args objs k=some r→∃ v objs',k v objs'=some r∧Spec P gl f args objs v objs'
section
variable {R:Type} {old fz:Nat→Prop} {ρ ρ':Nat→Value} {w w':World} {objs objs':Objs} {m:Ren} {r:R} {P:Program} {τ:Nat→Option TI} {B:Ops} {gl:Nat→Option (List CV)}
theorem qbu {k n:Nat}:∀ {m:Ren},(k,n)∈boxBack objs m↔(n,k)∈m∧∃ ty cs,oget objs k=some (.box ty cs)
 | []=>by simp [boxBack]
 | p::m=>by
   simp only [boxBack]
   split
   ·rename_i ty cs ho
    simp only [List.mem_cons,qbu (m:=m)]
    constructor
    ·rintro (h | ⟨h1,h2⟩)
     ·cases h;exact ⟨.inl rfl,ty,cs,ho⟩
     ·exact ⟨.inr h1,h2⟩
    ·rintro ⟨h | h,h2⟩
     ·subst h;exact .inl rfl
     ·exact .inr ⟨h,h2⟩
   ·rename_i hno
    rw [qbu (m:=m)]
    constructor
    ·rintro ⟨h1,h2⟩;exact ⟨List.mem_cons_of_mem _ h1,h2⟩
    ·rintro ⟨h1,ty,cs,h2⟩
     rcases List.mem_cons.1 h1 with h | h
     ·subst h;exact absurd h2 (hno ty cs)
     ·exact ⟨h,ty,cs,h2⟩
theorem add_mem {m:Ren} {n i:Nat} {p:Nat×Nat} (h:p∈m.add n i):p∈m∨p=(n,i):=by
 unfold Ren.add at h
 cases hh:m.has i<;>rw [hh] at h
 ·simpa using h
 ·exact .inl h
theorem mem_add {m:Ren} {n i:Nat} {p:Nat×Nat} (h:p∈m):p∈m.add n i:=by
 unfold Ren.add
 cases m.has i
 ·exact List.mem_append_left _ h
 ·exact h
theorem qbk (u:Nat) {p:Nat×Nat}:∀ (l:Objs) (j:Nat) (m:Ren),p∈backKeys u j l m→p∈m∨∃ j',j≤j'∧j'<j+l.length∧p.1=u+j'
 | [],j,m,h=>.inl h
 | (i,o)::l,j,m,h=>by
   have hrest:p∈backKeys u j l m→p∈m∨∃ j',j≤j'∧j'<j+((i,o)::l).length∧p.1=u+j':=fun h=>by
    rcases qbk u l j m h with h | ⟨j',h1,h2,h3⟩
    ·exact .inl h
    ·exact .inr ⟨j',h1,by simp only [List.length_cons];omega,h3⟩
   cases o with
   | row e t xs=>
     rcases qbk u l (j+1) _ h with h | ⟨j',h1,h2,h3⟩
     ·rcases add_mem h with h | h
      ·exact .inl h
      ·exact .inr ⟨j,Nat.le_refl _,by simp only [List.length_cons];omega,by rw [h]⟩
     ·exact .inr ⟨j',by omega,by simp only [List.length_cons];omega,h3⟩
   | froz e t xs=>exact hrest h
   | dead=>exact hrest h
   | box ty cs=>
     simp only [backKeys] at h
     cases hh:m.has i with
     | true=>rw [hh] at h;exact hrest h
     | false=>
       rw [hh] at h
       rcases qbk u l (j+1) _ h with h | ⟨j',h1,h2,h3⟩
       ·rcases add_mem h with h | h
        ·exact .inl h
        ·exact .inr ⟨j,Nat.le_refl _,by simp only [List.length_cons];omega,by rw [h]⟩
       ·exact .inr ⟨j',by omega,by simp only [List.length_cons];omega,h3⟩
   | mp ty a b l=>exact hrest h
   | it s0 p0=>exact hrest h
theorem qax (u:Nat) {p:Nat×Nat}:∀ (l:Objs) (j:Nat) (m:Ren),p∈m→p∈backKeys u j l m
 | [],j,m,h=>h
 | (i,o)::l,j,m,h=>by
   cases o with
   | row e t xs=>exact qax u l (j+1) _ (mem_add h)
   | froz e t xs=>exact qax u l j _ h
   | dead=>exact qax u l j _ h
   | box ty cs=>
     simp only [backKeys]
     cases hh:m.has i with
     | true=>exact qax u l j _ h
     | false=>exact qax u l (j+1) _ (mem_add h)
   | mp ty a b l'=>exact qax u l j _ h
   | it s0 p0=>exact qax u l j _ h
theorem qdb (i:Nat):∀ (m:Ren) (acc:Objs),oget (killAll objs m acc) i=some .dead∧(∃ n,(n,i)∈m)∧(∃ e t xs,oget objs i=some (.row e t xs))∨
  oget (killAll objs m acc) i=oget acc i∧(∀ n,(n,i)∈m→∀ e t xs,oget objs i≠some (.row e t xs))
 | [],acc=>.inr ⟨rfl,fun n h=>by simp at h⟩
 | p::m,acc=>by
   have hs:∀ acc',killAll objs (p::m) acc=killAll objs m acc'→(p.2≠i→oget acc' i=oget acc i)→(p.2=i→(∃ e t xs,oget objs i=some (.row e t xs))→oget acc' i=some .dead)→(p.2=i→(∀ e t xs,oget objs i≠some (.row e t xs))→oget acc' i=oget acc i)→
     oget (killAll objs (p::m) acc) i=some .dead∧(∃ n,(n,i)∈p::m)∧(∃ e t xs,oget objs i=some (.row e t xs))∨
     oget (killAll objs (p::m) acc) i=oget acc i∧(∀ n,(n,i)∈p::m→∀ e t xs,oget objs i≠some (.row e t xs)):=by
    intro acc' he h1 h2 h3
    rw [he]
    rcases qdb i m acc' with ⟨k1,⟨n,k2⟩,k3⟩ | ⟨k1,k2⟩
    ·exact .inl ⟨k1,⟨n,List.mem_cons_of_mem _ k2⟩,k3⟩
    ·by_cases hp:p.2=i
     ·by_cases hr:∃ e t xs,oget objs i=some (.row e t xs)
      ·exact .inl ⟨by rw [k1];exact h2 hp hr,⟨p.1,by rw [←hp];exact List.mem_cons_self⟩,hr⟩
      ·refine .inr ⟨by rw [k1];exact h3 hp fun e t xs hx=>hr ⟨e,t,xs,hx⟩,fun n hn e t xs hx=>hr ⟨e,t,xs,hx⟩⟩
     ·refine .inr ⟨by rw [k1];exact h1 hp,fun n hn=>?_⟩
      rcases List.mem_cons.1 hn with hn | hn
      ·exact absurd (by rw [←hn]) hp
      ·exact k2 n hn
   cases ho:oget objs p.2 with
   | none=>exact hs acc (by simp only [killAll,ho]) (fun _=>rfl) (fun hp ⟨e,t,xs,hx⟩=>by rw [←hp,ho] at hx;cases hx) (fun _ _=>rfl)
   | some o=>
     cases o with
     | row e t xs=>exact hs (oset p.2 .dead acc) (by simp only [killAll,ho]) (fun hp=>qap _ _ hp) (fun hp _=>by rw [hp];exact qam _ _ _) (fun hp hn=>absurd (by rw [←hp];exact ho) (hn e t xs))
     | froz e t xs=>exact hs acc (by simp only [killAll,ho]) (fun _=>rfl) (fun hp ⟨e,t,xs,hx⟩=>by rw [←hp,ho] at hx;cases hx) (fun _ _=>rfl)
     | dead=>exact hs acc (by simp only [killAll,ho]) (fun _=>rfl) (fun hp ⟨e,t,xs,hx⟩=>by rw [←hp,ho] at hx;cases hx) (fun _ _=>rfl)
     | box ty cs=>exact hs acc (by simp only [killAll,ho]) (fun _=>rfl) (fun hp ⟨e,t,xs,hx⟩=>by rw [←hp,ho] at hx;cases hx) (fun _ _=>rfl)
     | mp ty a b l=>exact hs acc (by simp only [killAll,ho]) (fun _=>rfl) (fun hp ⟨e,t,xs,hx⟩=>by rw [←hp,ho] at hx;cases hx) (fun _ _=>rfl)
     | it s0 p0=>exact hs acc (by simp only [killAll,ho]) (fun _=>rfl) (fun hp ⟨e,t,xs,hx⟩=>by rw [←hp,ho] at hx;cases hx) (fun _ _=>rfl)
def oldC (m:Ren) (objs:Objs) (ρ:Nat→Value) (w:World) (k:Nat):Prop:=k<w.heap.size∧∀ n i,(n,i)∈m→blkO objs ρ i≠some k
def backρ (b:Ren) (ρ' ρ:Nat→Value) (k:Nat):Value:=
 match b.find? fun p=>Nat.beq p.1 k with
 | some p=>ρ' p.2
 | none=>ρ k
theorem qd8 {b:Ren} (hm:(b.map (·.1)).Nodup) {n i:Nat} (h:(n,i)∈b):backρ b ρ' ρ n=ρ' i:=by
 unfold backρ
 cases hf:b.find? fun p=>Nat.beq p.1 n with
 | none=>exact absurd (List.find?_eq_none.1 hf _ h) (by simp)
 | some p=>
   have h1:=List.mem_of_find?_eq_some hf
   have h2:p.1=n:=Nat.eq_of_beq_eq_true (by have:=List.find?_some hf;exact this)
   have:p.2=i:=nodup_fst hm (i:=n) (by rw [←h2];exact h1) h
   simp [this]
theorem qeq {b:Ren} {n:Nat} (h:∀ i,(n,i) ∉ b):backρ b ρ' ρ n=ρ n:=by
 unfold backρ
 cases hf:b.find? fun p=>Nat.beq p.1 n with
 | none=>rfl
 | some p=>
   have h1:=List.mem_of_find?_eq_some hf
   have h2:p.1=n:=Nat.eq_of_beq_eq_true (by have:=List.find?_some hf;exact this)
   exact absurd (by rw [←h2];exact h1) (h p.2)
structure Back (m b:Ren) (objs base objs':Objs) (ρ ρ':Nat→Value) (old fzb fz2 fz':Nat→Prop) (w w':World):Prop where
 mf:m.fine=true
 bf:b.fine=true
 baseR:OR fzb old ρ w base
 same:∀ n i,(n,i)∈m→oget base i=oget objs i
 empty:∀ i,oget objs i=none→oget base i=none
 calleeR:OR fz' (oldC m objs ρ w) ρ' w' objs'
 boxes:Bk (renObjs m objs) (renρ m ρ) objs' ρ'
 b1:∀ k n,(k,n)∈b→(n,k)∈m∧(∃ ty cs,oget objs k=some (.box ty cs))∨oget objs k=none
 b2:∀ k n,(n,k)∈m→(∃ ty cs,oget objs k=some (.box ty cs))→(k,n)∈b
 frm:Frm fzb old w fz2 w'
 still:∀ k,oldC m objs ρ w k→w'.heap[k]?=w.heap[k]?∧(fz2 k→fzb k)
 lt2:∀ k,fz2 k→k<w'.heap.size
 nomp:nomp objs m=true
variable {b:Ren} {base:Objs} {fzb fz2 fz':Nat→Prop}
def backObjs (m b:Ren) (objs base objs':Objs):Objs:=layObjs (renO b objs') objs' b (killAll objs m base)
theorem Back.in_ (h:Back m b objs base objs' ρ ρ' old fzb fz2 fz' w w') {k n:Nat} (hk:(k,n)∈b):oget (backObjs m b objs base objs') k=(oget objs' n).map (renO b objs'):=by
 obtain ⟨h1,h2⟩:=Ren.fine_ok h.bf
 rw [backObjs,lay_in _ _ b _ h1 hk]
 cases ho:oget objs' n with
 | some o=>rfl
 | none=>
   show oget (killAll objs m base) k=none
   rcases h.b1 k n hk with ⟨hm,ty,cs,hx⟩ | hx
   ·have:=qbo (Ren.fine_ok h.mf).1 (objs:=objs) hm
    rw [hx] at this
    obtain ⟨_,cs',h3⟩:=h.boxes n ty _ this
    rw [h3] at ho;cases ho
   ·rcases qdb (objs:=objs) k m base with ⟨_,_,e,t,xs,h3⟩ | ⟨h3,_⟩
    ·rw [hx] at h3;cases h3
    ·rw [h3];exact h.empty k hx
theorem Back.out (h:Back m b objs base objs' ρ ρ' old fzb fz2 fz' w w') {k:Nat} (hk:∀ n,(k,n) ∉ b) :
  oget (backObjs m b objs base objs') k=some .dead∧(∃ e t xs,oget base k=some (.row e t xs))∨oget (backObjs m b objs base objs') k=oget base k∧(∀ g,blkO base ρ k=some g→oldC m objs ρ w g):=by
 rw [backObjs,qeo _ _ _ _ _ hk]
 rcases qdb (objs:=objs) k m base with ⟨h1,⟨n,h2⟩,e,t,xs,h3⟩ | ⟨h1,h2⟩
 ·exact .inl ⟨h1,e,t,xs,by rw [h.same n k h2];exact h3⟩
 ·refine .inr ⟨h1,fun g hg=>⟨(h.baseR.blk_lt hg).1,fun n i hi hb=>?_⟩⟩
  by_cases he:i=k
  ·subst he
   cases ho:oget objs i with
   | none=>rw [qcu ho] at hb;cases hb
   | some o=>
     cases o with
     | row e t xs=>exact h2 n hi e t xs ho
     | box ty cs=>exact hk n (h.b2 i n hi ⟨ty,cs,ho⟩)
     | mp ty a b' l=>
       have:=List.all_eq_true.1 h.nomp _ hi
       simp only [ho] at this
       cases this
     | it s0 p0=>
       have:=List.all_eq_true.1 h.nomp _ hi
       simp only [ho] at this
       cases this
     | dead=>rw [qao ho] at hb;simp [Obj.live] at hb
     | froz e t xs=>rw [qao ho] at hb;simp [Obj.live] at hb
  ·refine h.baseR.apart i k g he ?_ hg
   unfold blkO at hb ⊢
   rw [h.same n i hi];exact hb
theorem Back.renTo (h:Back m b objs base objs' ρ ρ' old fzb fz2 fz' w w'):RenTo b objs' ρ' (backObjs m b objs base objs') (backρ b ρ' ρ):=⟨fun n i o hn ho=>⟨by rw [h.in_ hn,ho];rfl,qd8 (Ren.fine_ok h.bf).1 hn⟩⟩
theorem Back.ext (h:Back m b objs base objs' ρ ρ' old fzb fz2 fz' w w'):Ext base ρ (backObjs m b objs base objs') (backρ b ρ' ρ):=⟨fun i o ho=>by
 by_cases hb:∃ n,(i,n)∈b
 ·obtain ⟨n,hn⟩:=hb
  rcases h.b1 i n hn with ⟨hm,ty,cs,hx⟩ | hx
  ·have h1:=qbo (Ren.fine_ok h.mf).1 (objs:=objs) hm
   rw [hx] at h1
   obtain ⟨h2,cs',h3⟩:=h.boxes n ty _ h1
   rw [h.same n i hm,hx] at ho
   cases ho
   refine ⟨by rw [qd8 (Ren.fine_ok h.bf).1 hn,h2,qep (Ren.fine_ok h.mf).1 hm],_,by rw [h.in_ hn,h3];rfl,?_⟩
   exact ⟨_,rfl⟩
  ·rw [h.empty i hx] at ho;cases ho
 ·have hb':∀ n,(i,n) ∉ b:=fun n hn=>hb ⟨n,hn⟩
  refine ⟨qeq hb',?_⟩
  rcases h.out hb' with ⟨h1,e,t,xs,h2⟩ | ⟨h1,_⟩
  ·rw [ho] at h2
   cases h2
   exact ⟨_,h1,.inl rfl⟩
  ·exact ⟨o,by rw [h1,ho],o.onto_refl⟩⟩
theorem Back.blk (h:Back m b objs base objs' ρ ρ' old fzb fz2 fz' w w') {i g:Nat} (hg:blkO (backObjs m b objs base objs') (backρ b ρ' ρ) i=some g) :
  (∃ n,(i,n)∈b∧blkO objs' ρ' n=some g)∨(∀ n,(i,n) ∉ b)∧blkO base ρ i=some g∧oldC m objs ρ w g:=by
 by_cases hb:∃ n,(i,n)∈b
 ·obtain ⟨n,hn⟩:=hb
  refine .inl ⟨n,hn,?_⟩
  cases ho:oget objs' n with
  | none=>
    rw [qcu (by rw [h.in_ hn,ho];rfl)] at hg;cases hg
  | some o=>
    rw [qao (by rw [h.in_ hn,ho];rfl),renO_live,qd8 (Ren.fine_ok h.bf).1 hn] at hg
    rw [qao ho];exact hg
 ·have hb':∀ n,(i,n) ∉ b:=fun n hn=>hb ⟨n,hn⟩
  rcases h.out hb' with ⟨h1,e,t,xs,h2⟩ | ⟨h1,h2⟩
  ·rw [qao h1] at hg;simp [Obj.live] at hg
  ·have:blkO base ρ i=some g:=by
    unfold blkO at hg ⊢
    rw [h1,qeq hb'] at hg;exact hg
   exact .inr ⟨hb',this,h2 g this⟩
theorem Back.or (h:Back m b objs base objs' ρ ρ' old fzb fz2 fz' w w')
  (ho:∀ k n o,(k,n)∈b→oget objs' n=some o→ObjR fz2 (backρ b ρ' ρ) w' (backObjs m b objs base objs') old (ρ' n) (renO b objs' o)) :
  OR fz2 old (backρ b ρ' ρ) w' (backObjs m b objs base objs'):=by
 refine ⟨fun i o hi=>?_,fun i j g hij hi hj=>?_,h.lt2,fun k hk=>Nat.lt_of_lt_of_le (h.baseR.oldlt k hk) h.frm.size⟩
 ·by_cases hb:∃ n,(i,n)∈b
  ·obtain ⟨n,hn⟩:=hb
   rw [h.in_ hn] at hi
   simp only [Option.map_eq_some_iff] at hi
   obtain ⟨p,hp,rfl⟩:=hi
   rw [qd8 (Ren.fine_ok h.bf).1 hn]
   exact ho i n p hn hp
  ·have hb':∀ n,(i,n) ∉ b:=fun n hn=>hb ⟨n,hn⟩
   rw [qeq hb']
   rcases h.out hb' with ⟨h1,e,t,xs,h2⟩ | ⟨h1,h2⟩
   ·rw [h1] at hi;cases hi;trivial
   ·rw [h1] at hi
    refine ObjR.mono h.ext h.frm.up h.frm.fzw ?_ (h.baseR.obj i o hi)
    have hg:∀ g,blkO base ρ i=some g→w'.heap[g]?=w.heap[g]?∧¬ fz2 g:=fun g hg=>⟨(h.still g (h2 g hg)).1,fun hf=>(h.baseR.blk_lt hg).2.1 ((h.still g (h2 g hg)).2 hf)⟩
    cases o with
    | dead=>exact .inl rfl
    | froz e t xs=>exact .inr (.inl ⟨e,t,xs,rfl⟩)
    | row e t xs=>exact .inr (.inr fun g hx=>hg g (by rw [qao hi];exact hx))
    | box ty cs=>exact .inr (.inr fun g hx=>hg g (by rw [qao hi];exact hx))
    | mp ty a b' l=>exact .inr (.inr fun g hx=>hg g (by rw [qao hi];exact hx))
    | it s0 p0=>exact .inr (.inr fun g hx=>hg g (by rw [qao hi];exact hx))
 ·rcases h.blk hi with ⟨n,hn,hb⟩ | ⟨_,hb,hc⟩
  ·rcases h.blk hj with ⟨n',hn',hb'⟩ | ⟨_,hb',hc'⟩
   ·by_cases he:n=n'
    ·subst he;exact hij (nodup_snd (Ren.fine_ok h.bf).2 hn hn')
    ·exact h.calleeR.apart n n' g he hb hb'
   ·exact (h.calleeR.blk_lt hb).2.2 hc'
  ·rcases h.blk hj with ⟨n',hn',hb'⟩ | ⟨_,hb',hc'⟩
   ·exact (h.calleeR.blk_lt hb').2.2 hc
   ·exact h.baseR.apart i j g hij hb hb'
end
end Go.Proofs.YtkmpkebaloejhaaGreatDoor.Av
