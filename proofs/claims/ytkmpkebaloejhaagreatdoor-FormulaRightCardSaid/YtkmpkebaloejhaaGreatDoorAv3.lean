/- What abstract values say of memory: the relations,and how they last. Conditions: none. -/
import Derived.Test.YtkmpkebaloejhaaGreatDoorAv1
import Derived.Laws.AppendOwn
import Derived.Laws.MakeOwn
import Derived.Below
namespace Go.Proofs.YtkmpkebaloejhaaGreatDoor.Av
open Go
def All2 {α β:Type} (R:α→β→Prop):List α→List β→Prop
 | [],[]=>True
 | a::l,b::m=>R a b∧All2 R l m
 | _,_=>False
section
variable {α β:Type} {R R':α→β→Prop}
theorem All2.length:∀ {l:List α} {m:List β},All2 R l m→l.length=m.length
 | [],[],_=>rfl
 | _::l,_::m,h=>by simp [All2.length h.2]
 | [],_::_,h=>h.elim
 | _::_,[],h=>h.elim
theorem All2.imp (f:∀ a b,R a b→R' a b):∀ {l:List α} {m:List β},All2 R l m→All2 R' l m
 | [],[],_=>trivial
 | _::l,_::m,h=>⟨f _ _ h.1,All2.imp f h.2⟩
 | [],_::_,h=>h.elim
 | _::_,[],h=>h.elim
theorem All2.imp_mem:∀ {l:List α} {m:List β},(∀ a b,a∈l→R a b→R' a b)→All2 R l m→All2 R' l m
 | [],[],_,_=>trivial
 | _::l,_::m,f,h=>⟨f _ _ List.mem_cons_self h.1,All2.imp_mem (fun a b ha=>f a b (List.mem_cons_of_mem _ ha)) h.2⟩
 | [],_::_,_,h=>h.elim
 | _::_,[],_,h=>h.elim
theorem All2.get:∀ {l:List α} {m:List β},All2 R l m→∀ (i:Nat) (a:α),l[i]?=some a→∃ b,m[i]?=some b∧R a b
 | a::l,b::m,h,0,x,hx=>by simp at hx;subst hx;exact ⟨b,rfl,h.1⟩
 | a::l,b::m,h,i+1,x,hx=>by simp at hx;obtain ⟨c,h1,h2⟩:=All2.get h.2 i x hx;exact ⟨c,by simpa using h1,h2⟩
 | [],[],_,_,_,hx=>by simp at hx
 | [],_::_,h,_,_,_=>h.elim
 | _::_,[],h,_,_,_=>h.elim
theorem All2.append:∀ {l l':List α} {m m':List β},All2 R l m→All2 R l' m'→All2 R (l++l') (m++m')
 | [],_,[],_,_,h'=>h'
 | _::l,_,_::m,_,h,h'=>⟨h.1,All2.append h.2 h'⟩
 | [],_,_::_,_,h,_=>h.elim
 | _::_,_,[],_,h,_=>h.elim
theorem All2.take:∀ {l:List α} {m:List β} (n:Nat),All2 R l m→All2 R (l.take n) (m.take n)
 | _,_,0,_=>by simp [All2]
 | [],[],_+1,_=>by simp [All2]
 | _::l,_::m,n+1,h=>⟨h.1,All2.take n h.2⟩
 | [],_::_,_,h=>h.elim
 | _::_,[],_,h=>h.elim
theorem All2.drop:∀ {l:List α} {m:List β} (n:Nat),All2 R l m→All2 R (l.drop n) (m.drop n)
 | _,_,0,h=>by simpa using h
 | [],[],_+1,_=>by simp [All2]
 | _::l,_::m,n+1,h=>All2.drop n h.2
 | [],_::_,_,h=>h.elim
 | _::_,[],_,h=>h.elim
theorem All2.split:∀ {l:List α} {m m':List β},All2 R l (m++m')→∃ l1 l2,l=l1++l2∧All2 R l1 m∧All2 R l2 m'
 | l,[],m',h=>⟨[],l,rfl,trivial,h⟩
 | a::l,b::m,m',h=>by
   obtain ⟨l1,l2,h1,h2,h3⟩:=All2.split (m:=m) h.2
   exact ⟨a::l1,l2,by rw [h1];rfl,⟨h.1,h2⟩,h3⟩
 | [],_::_,_,h=>h.elim
theorem All2.map_left {γ:Type} {f:γ→α}:∀ {l:List γ} {m:List β},All2 (fun c b=>R (f c) b) l m→All2 R (l.map f) m
 | [],[],_=>trivial
 | _::l,_::m,h=>⟨h.1,All2.map_left h.2⟩
 | [],_::_,h=>h.elim
 | _::_,[],h=>h.elim
theorem All2.of_get:∀ {l:List α} {m:List β},l.length=m.length→(∀ (i:Nat) a b,l[i]?=some a→m[i]?=some b→R a b)→All2 R l m
 | [],[],_,_=>trivial
 | a::l,b::m,hl,h=>⟨h 0 a b rfl rfl,All2.of_get (by simpa using hl) fun i x y hx hy=>h (i+1) x y (by simpa using hx) (by simpa using hy)⟩
 | [],_::_,hl,_=>by simp at hl
 | _::_,[],hl,_=>by simp at hl
theorem All2.replicate {a:α} {b:β} (h:R a b):∀ n,All2 R (List.replicate n a) (List.replicate n b)
 | 0=>trivial
 | n+1=>⟨h,All2.replicate h n⟩
theorem All2.set:∀ {l:List α} {m:List β} (i:Nat) {a:α} {b:β},All2 R l m→R a b→All2 R (l.set i a) (m.set i b)
 | [],[],_,_,_,_,_=>trivial
 | _::l,_::m,0,_,_,h,hab=>⟨hab,h.2⟩
 | _::l,_::m,i+1,_,_,h,hab=>⟨h.1,All2.set i h.2 hab⟩
 | [],_::_,_,_,_,h,_=>h.elim
 | _::_,[],_,_,_,h,_=>h.elim
end
theorem qek (i j:Nat) (o:Obj):∀ objs:Objs,oget (oset i o objs) j=if i=j then some o else oget objs j
 | []=>by
  simp only [oset,oget]
  by_cases h:i=j
  ·subst h;simp
  ·have:Nat.beq i j=false:=by rw [Bool.eq_false_iff];intro hb;exact h (Nat.eq_of_beq_eq_true hb)
   simp [h,this]
 | (k,p)::r=>by
   simp only [oset]
   by_cases hlt:i<k
   ·have:Nat.blt i k=true:=by simp [Nat.blt];omega
    rw [this]
    simp only [cond_true,oget]
    by_cases h:i=j
    ·subst h;simp
    ·have:Nat.beq i j=false:=by rw [Bool.eq_false_iff];intro hb;exact h (Nat.eq_of_beq_eq_true hb)
     simp [h,this]
   ·have hb:Nat.blt i k=false:=by rw [Bool.eq_false_iff];intro h;exact hlt (by simp [Nat.blt] at h;omega)
    rw [hb]
    simp only [cond_false]
    by_cases he:i=k
    ·subst he
     simp only [Nat.beq_refl,cond_true,oget]
     by_cases h:i=j
     ·subst h;simp
     ·have:Nat.beq i j=false:=by rw [Bool.eq_false_iff];intro hb;exact h (Nat.eq_of_beq_eq_true hb)
      simp [h,this]
    ·have:Nat.beq i k=false:=by rw [Bool.eq_false_iff];intro hb;exact he (Nat.eq_of_beq_eq_true hb)
     rw [this]
     simp only [cond_false,oget]
     by_cases hk:k=j
     ·subst hk;simp [he]
     ·have:Nat.beq k j=false:=by rw [Bool.eq_false_iff];intro hb;exact hk (Nat.eq_of_beq_eq_true hb)
      simp [this,qek i j o r]
theorem qam (i:Nat) (o:Obj) (objs:Objs):oget (oset i o objs) i=some o:=by rw [qek,if_pos rfl]
theorem qap {i j:Nat} (o:Obj) (objs:Objs) (h:i≠j):oget (oset i o objs) j=oget objs j:=by rw [qek,if_neg h]
def AtCells (w:World) (ad:Addr) (cs:List Value):Prop:=∀ (i:Nat) (u:Value),cs[i]?=some u→w.cell? (ad.add i)=some u
def strV (s:List UInt8):Value:=.string ⟨s.toArray⟩
def Ty.K (fz:Nat→Prop) (w:World):(t:Ty)→t.den→List Value→Prop
 | .int k,x,cs=>cs=[.int k x]
 | .bool,x,cs=>cs=[.bool x]
 | .str,x,cs=>cs=[strV x]
 | .list _ t,xs,cs=>∃ (A:Option Addr) (c:Nat),cs=[.slice A xs.length c]∧xs.length≤c∧c≤maxLen∧
    (xs=[]∨∃ ad,A=some ad∧fz ad.block∧∀ (j:Nat) (x:t.den),xs[j]?=some x→∃ cs',Ty.K fz w t x cs'∧AtCells w (ad.add (j*t.sz)) cs')
 | .pair a b,x,cs=>∃ c0 c1,cs=c0++c1∧Ty.K fz w a x.1 c0∧Ty.K fz w b x.2 c1
theorem qa1 (a:Addr) (n:Nat):(a.add n).block=a.block:=by unfold Addr.add;split<;>rfl
theorem AtCells.mono {w w':World} {ad:Addr} {cs:List Value} (h:AtCells w ad cs) (hb:w'.heap[ad.block]?=w.heap[ad.block]?):AtCells w' ad cs:=fun i u hu=>by
 exact (World.cell?_of_block (a:=ad.add i) (by rw [qa1];exact hb)).trans (h i u hu)
theorem Ty.K_len (fz:Nat→Prop) (w:World):∀ (t:Ty) (x:t.den) (cs:List Value),t.K fz w x cs→cs.length=t.sz
 | .int _,_,_,h=>by rw [h];rfl
 | .bool,_,_,h=>by rw [h];rfl
 | .str,_,_,h=>by rw [h];rfl
 | .list _ _,_,_,h=>by obtain ⟨A,c,rfl,_⟩:=h;rfl
 | .pair a b,x,_,h=>by
   obtain ⟨c0,c1,rfl,h0,h1⟩:=h
   rw [List.length_append,Ty.K_len fz w a x.1 c0 h0,Ty.K_len fz w b x.2 c1 h1];rfl
theorem Ty.K_one (fz:Nat→Prop) (w:World):∀ (t:Ty) (x:t.den) (cs:List Value),t.K fz w x cs→∀ u∈cs,u.oneCell'=true
 | .int _,_,_,h=>by rw [h];simp [Value.oneCell']
 | .bool,_,_,h=>by rw [h];simp [Value.oneCell']
 | .str,_,_,h=>by rw [h];simp [Value.oneCell',strV]
 | .list _ _,_,_,h=>by obtain ⟨A,c,rfl,_⟩:=h;simp [Value.oneCell']
 | .pair a b,x,_,h=>by
   obtain ⟨c0,c1,rfl,h0,h1⟩:=h
   intro u hu
   rcases List.mem_append.1 hu with hu | hu
   ·exact Ty.K_one fz w a x.1 c0 h0 u hu
   ·exact Ty.K_one fz w b x.2 c1 h1 u hu
theorem Ty.K_mono {fz fz':Nat→Prop} {w w':World} (hf:∀ k,fz k→fz' k) (hw:∀ k,fz k→w'.heap[k]?=w.heap[k]?):∀ (t:Ty) (x:t.den) (cs:List Value),t.K fz w x cs→t.K fz' w' x cs
 | .int _,_,_,h=>h
 | .bool,_,_,h=>h
 | .str,_,_,h=>h
 | .list _ t,xs,_,h=>by
   obtain ⟨A,c,rfl,hl,hm,hr⟩:=h
   refine ⟨A,c,rfl,hl,hm,?_⟩
   rcases hr with hr | ⟨ad,he,hb,hc⟩
   ·exact .inl hr
   ·refine .inr ⟨ad,he,hf _ hb,fun j x hx=>?_⟩
    obtain ⟨cs',hk,ha⟩:=hc j x hx
    exact ⟨cs',Ty.K_mono hf hw t x cs' hk,ha.mono (by rw [qa1];exact hw _ hb)⟩
 | .pair a b,x,_,h=>by
   obtain ⟨c0,c1,rfl,h0,h1⟩:=h
   exact ⟨c0,c1,rfl,Ty.K_mono hf hw a x.1 c0 h0,Ty.K_mono hf hw b x.2 c1 h1⟩
theorem Ty.K_scalar {fz fz':Nat→Prop} {w w':World}:∀ (t:Ty) (x:t.den) (cs:List Value),scalarTy t=true→t.K fz w x cs→t.K fz' w' x cs
 | .int _,_,_,_,h=>h
 | .bool,_,_,_,h=>h
 | .str,_,_,_,h=>h
 | .list _ _,_,_,hs,_=>by simp [scalarTy] at hs
 | .pair a b,x,_,hs,h=>by
   obtain ⟨c0,c1,rfl,h0,h1⟩:=h
   simp [scalarTy] at hs
   exact ⟨c0,c1,rfl,Ty.K_scalar a x.1 c0 hs.1 h0,Ty.K_scalar b x.2 c1 hs.2 h1⟩
def MR (fz:Nat→Prop) (w:World) (k v:Ty):List (k.den×v.den)→List MapEntry→Prop
 | [],[]=>True
 | x::l,e::es=>(k.K fz w x.1 [e.key]∧v.K fz w x.2 [e.val])∧MR fz w k v l es
 | _,_=>False
theorem MR_mono {fz fz':Nat→Prop} {w w':World} (hf:∀ k,fz k→fz' k) (hw:∀ k,fz k→w'.heap[k]?=w.heap[k]?) {k v:Ty}:∀ (l:List (k.den×v.den)) (es:List MapEntry),MR fz w k v l es→MR fz' w' k v l es
 | [],[],_=>trivial
 | [],e::es,h=>h.elim
 | x::l,[],h=>h.elim
 | x::l,e::es,⟨⟨h1,h2⟩,h3⟩=>⟨⟨Ty.K_mono hf hw k x.1 _ h1,Ty.K_mono hf hw v x.2 _ h2⟩,MR_mono hf hw l es h3⟩
section
variable (fz:Nat→Prop) (ρ:Nat→Value) (w:World) (objs:Objs)
def CVR:CV→Value→Prop
 | .bot,_=>True
 | .nil,v=>v=.slice none 0 0
 | .int k n,v=>v=.int k n
 | .bool b,v=>v=.bool b
 | .str s,v=>v=strV s
 | .list e t xs,v=>Ty.K fz w (.list e t) xs [v]
 | .own i,v=>match oget objs i with
   | some (.row ..)=>v=ρ i
   | some (.froz ..)=>v=ρ i
   | some (.mp ..)=>v=ρ i
   | some (.it ..)=>v=ρ i
   | some .dead=>True
   | _=>False
 | .ptr i off,v=>match oget objs i with
   | some (.box ..)=>∃ g,ρ i=.pointer (some ⟨g,0,none⟩)∧v=.pointer (some ((⟨g,0,none⟩:Addr).add off))
   | some .dead=>True
   | _=>False
def ViewR (t:Ty) (n:Nat) (V:Value) (lo hi:Nat) (tight:Bool) (v:Value):Prop:=
 hi≤n∧lo≤hi∧∃ (A:Option Addr) (m c c':Nat),V=.slice A m c∧c'=(if tight then hi else c)-lo∧hi≤c∧v=.slice (if (if tight then hi else c)=lo then A else A.map (·.add (lo*t.sz))) (hi-lo) c'
def EltR (t:Ty) (n:Nat) (V:Value) (j off:Nat) (v:Value):Prop:=
 j<n∧∃ (ad:Addr) (m c:Nat),V=.slice (some ad) m c∧v=.pointer (some (ad.add (j*t.sz+off)))
def AVR:AV→Value→Prop
 | .c x,v=>CVR fz ρ w objs x v
 | .agg l,v=>∃ cs:Array Value,v=.agg cs∧All2 (CVR fz ρ w objs) l cs.toList∧∀ u∈cs,u.oneCell'=true
 | .view i lo hi tight,v=>match oget objs i with
   | some (.row _ t xs)=>ViewR t xs.length (ρ i) lo hi tight v
   | some (.froz _ t xs)=>ViewR t xs.length (ρ i) lo hi tight v
   | some .dead=>True
   | _=>False
 | .elt i j off,v=>match oget objs i with
   | some (.row _ t xs)=>EltR t xs.length (ρ i) j off v
   | some (.froz _ t xs)=>EltR t xs.length (ρ i) j off v
   | some .dead=>True
   | _=>False
 | .eltv l,v=>∃ (ad:Addr) (cs:List Value),v=.pointer (some ad)∧AtCells w ad cs∧fz ad.block∧All2 (CVR fz ρ w objs) l cs∧∀ u∈cs,u.oneCell'=true
 | .aelt i off n j,v=>match oget objs i with
   | some (.box ..)=>∃ g,ρ i=.pointer (some ⟨g,0,none⟩)∧j<n∧v=.pointer (some ((⟨g,0,none⟩:Addr).add (off+j)))
   | some .dead=>True
   | _=>False
 | .tup l,v=>∃ vs:Array Value,v=.tuple vs∧All2 (fun (x:Bool×List CV) u=>if x.1 then ∃ cs:Array Value,u=.agg cs∧All2 (CVR fz ρ w objs) x.2 cs.toList∧∀ u∈cs,u.oneCell'=true else ∃ c,x.2=[c]∧CVR fz ρ w objs c u) l vs.toList
 | .fn f caps,v=>∃ cs:Array Value,v=.func (.func f) #[] cs∧All2 (CVR fz ρ w objs) caps cs.toList
 | .bm f caps,v=>∃ cs:Array Value,v=.func (.func f) cs #[]∧All2 (CVR fz ρ w objs) caps cs.toList
 | .t0 _ _,v=>∃ A,v=.slice A 0 0
 | .und,v=>v=undef
 | .nz e t b,v=>∃ A c,v=.slice A 0 c∧c≤maxLen∧∀ b',b=some b'→A.isNone=b'
def ObjR (old:Nat→Prop) (V:Value):Obj→Prop
 | .dead=>True
 | .row e t xs=>∃ css:List (List Value),All2 (fun x cs=>t.K fz w x cs) xs css∧w.ownsRow 0 e t.sz V xs.length css.flatten∧∀ g,V.ownBlock=some g→¬ fz g∧¬ old g
 | .froz e t xs=>Ty.K fz w (.list e t) xs [V]
 | .box ty cs=>∃ (g:Nat) (vs:Array Value),V=.pointer (some ⟨g,0,none⟩)∧w.heap[g]?=some (.cells vs ty (0,0))∧All2 (CVR fz ρ w objs) cs vs.toList∧¬ fz g∧¬ old g∧∀ u∈vs,u.oneCell'=true
 | .mp ty k v l=>∃ (g:Nat) (es:Array MapEntry) (c:Nat),V=.map (some g)∧w.heap[g]?=some (.map es c)∧MR fz w k v l es.toList∧¬ fz g∧¬ old g
 | .it s p=>∃ g:Nat,V=.pointer (some ⟨g,0,none⟩)∧w.heap[g]?=some (.stringIter ⟨s.toArray⟩ p)∧¬ fz g∧¬ old g
end
def blkV:Value→Option Nat
 | .slice (some a) _ _=>some a.block
 | .pointer (some a)=>some a.block
 | .map (some g)=>some g
 | _=>none
def blkO (objs:Objs) (ρ:Nat→Value) (i:Nat):Option Nat:=
 match oget objs i with
 | some (.row ..)=>blkV (ρ i)
 | some (.box ..)=>blkV (ρ i)
 | some (.mp ..)=>blkV (ρ i)
 | some (.it ..)=>blkV (ρ i)
 | _=>none
structure OR (fz old:Nat→Prop) (ρ:Nat→Value) (w:World) (objs:Objs):Prop where
 obj:∀ i o,oget objs i=some o→ObjR fz ρ w objs old (ρ i) o
 apart:∀ i j g,i≠j→blkO objs ρ i=some g→blkO objs ρ j≠some g
 fzlt:∀ k,fz k→k<w.heap.size
 oldlt:∀ k,old k→k<w.heap.size
def Obj.onto:Obj→Obj→Prop
 | .dead,o=>o=.dead
 | .row e t xs,o=>o=.dead∨(∃ xs':List t.den,xs'.length=xs.length∧(o=.row e t xs'∨o=.froz e t xs'))
 | .froz e t xs,o=>o=.froz e t xs
 | .box ty cs,o=>∃ cs':List CV,o=.box ty cs'
 | .mp ty k v l,o=>o=.dead∨∃ l':List (k.den×v.den),o=.mp ty k v l'
 | .it s p,o=>o=.dead∨∃ p':Nat,o=.it s p'
structure Ext (objs:Objs) (ρ:Nat→Value) (objs':Objs) (ρ':Nat→Value):Prop where
 at_:∀ i o,oget objs i=some o→ρ' i=ρ i∧∃ o',oget objs' i=some o'∧o.onto o'
theorem Obj.onto_refl (o:Obj):o.onto o:=by
 cases o with
 | dead=>rfl
 | row e t xs=>exact .inr ⟨xs,rfl,.inl rfl⟩
 | froz e t xs=>rfl
 | box ty cs=>exact ⟨cs,rfl⟩
 | mp ty k v l=>exact .inr ⟨l,rfl⟩
 | it s p=>exact .inr ⟨p,rfl⟩
theorem Ext.refl (objs:Objs) (ρ:Nat→Value):Ext objs ρ objs ρ:=⟨fun i o h=>⟨rfl,o,h,o.onto_refl⟩⟩
theorem Obj.onto_trans {a b c:Obj} (h:a.onto b) (k:b.onto c):a.onto c:=by
 cases a with
 | dead=>cases h;exact k
 | froz e t xs=>cases h;exact k
 | box ty cs=>obtain ⟨cs',rfl⟩:=h;exact k
 | mp ty a b l=>
   rcases h with rfl | ⟨l',rfl⟩
   ·exact .inl k
   ·exact k
 | it s p=>
   rcases h with rfl | ⟨p',rfl⟩
   ·exact .inl k
   ·exact k
 | row e t xs=>
   rcases h with rfl | ⟨xs',hl,rfl | rfl⟩
   ·exact .inl k
   ·rcases k with rfl | ⟨xs'',hl',rfl | rfl⟩
    ·exact .inl rfl
    ·exact .inr ⟨xs'',by rw [hl',hl],.inl rfl⟩
    ·exact .inr ⟨xs'',by rw [hl',hl],.inr rfl⟩
   ·cases k;exact .inr ⟨xs',hl,.inr rfl⟩
theorem Ext.trans {o1 o2 o3:Objs} {ρ1 ρ2 ρ3:Nat→Value} (h:Ext o1 ρ1 o2 ρ2) (k:Ext o2 ρ2 o3 ρ3):Ext o1 ρ1 o3 ρ3:=⟨fun i o ho=>by
 obtain ⟨e,o',ho',hc⟩:=h.at_ i o ho
 obtain ⟨e',o'',ho'',hc'⟩:=k.at_ i o' ho'
 exact ⟨e'.trans e,o'',ho'',Obj.onto_trans hc hc'⟩⟩
structure Frm (fz old:Nat→Prop) (w:World) (fz':Nat→Prop) (w':World):Prop where
 up:∀ k,fz k→fz' k
 back:∀ k,old k→fz' k→fz k
 fzw:∀ k,fz k→w'.heap[k]?=w.heap[k]?
 oldw:∀ k,old k→w'.heap[k]?=w.heap[k]?
 size:w.heap.size≤w'.heap.size
 os:w'.os=w.os
 tape:w'.tape=w.tape
 output:w'.output=w.output
theorem Frm.refl (fz old:Nat→Prop) (w:World):Frm fz old w fz w:=⟨fun _ h=>h,fun _ _ h=>h,fun _ _=>rfl,fun _ _=>rfl,Nat.le_refl _,rfl,rfl,rfl⟩
theorem Frm.trans {fz old fz' fz'':Nat→Prop} {w w' w'':World} (h:Frm fz old w fz' w') (k:Frm fz' old w' fz'' w''):Frm fz old w fz'' w'':=
 ⟨fun i hi=>k.up i (h.up i hi),fun i ho hi=>h.back i ho (k.back i ho hi),fun i hi=>(k.fzw i (h.up i hi)).trans (h.fzw i hi),fun i hi=>(k.oldw i hi).trans (h.oldw i hi),Nat.le_trans h.size k.size,k.os.trans h.os,k.tape.trans h.tape,k.output.trans h.output⟩
section
variable {fz fz' old:Nat→Prop} {ρ ρ':Nat→Value} {w w':World} {objs objs':Objs}
theorem CVR.mono (he:Ext objs ρ objs' ρ') (hf:∀ k,fz k→fz' k) (hw:∀ k,fz k→w'.heap[k]?=w.heap[k]?):∀ {c:CV} {v:Value},CVR fz ρ w objs c v→CVR fz' ρ' w' objs' c v
 | .bot,_,_=>trivial
 | .nil,_,h=>h
 | .int _ _,_,h=>h
 | .bool _,_,h=>h
 | .str _,_,h=>h
 | .list e t xs,_,h=>Ty.K_mono hf hw (.list e t) xs _ h
 | .own i,v,h=>by
   simp only [CVR] at h ⊢
   cases ho:oget objs i with
   | none=>simp [ho] at h
   | some o=>
     obtain ⟨hr,o',ho',hc⟩:=he.at_ i o ho
     rw [ho'];rw [ho] at h
     cases o with
     | dead=>cases hc;trivial
     | row e t xs=>
       rcases hc with rfl | ⟨xs',_,rfl | rfl⟩
       ·trivial
       ·exact h.trans hr.symm
       ·exact h.trans hr.symm
     | froz e t xs=>cases hc;exact h.trans hr.symm
     | box ty cs=>exact h.elim
     | mp ty a b l=>
       rcases hc with rfl | ⟨l',rfl⟩
       ·trivial
       ·exact h.trans hr.symm
     | it s p=>
       rcases hc with rfl | ⟨p',rfl⟩
       ·trivial
       ·exact h.trans hr.symm
 | .ptr i off,v,h=>by
   simp only [CVR] at h ⊢
   cases ho:oget objs i with
   | none=>simp [ho] at h
   | some o=>
     obtain ⟨hr,o',ho',hc⟩:=he.at_ i o ho
     rw [ho'];rw [ho] at h
     cases o with
     | dead=>cases hc;trivial
     | row e t xs=>exact h.elim
     | froz e t xs=>exact h.elim
     | box ty cs=>obtain ⟨cs',rfl⟩:=hc;rw [hr];exact h
     | mp ty a b l=>exact h.elim
     | it s p=>exact h.elim
theorem AVR.mono (he:Ext objs ρ objs' ρ') (hf:∀ k,fz k→fz' k) (hw:∀ k,fz k→w'.heap[k]?=w.heap[k]?):∀ {a:AV} {v:Value},AVR fz ρ w objs a v→AVR fz' ρ' w' objs' a v
 | .c _,_,h=>CVR.mono he hf hw h
 | .agg l,_,h=>by
   obtain ⟨cs,rfl,h,h1⟩:=h
   exact ⟨cs,rfl,h.imp fun _ _ h=>CVR.mono he hf hw h,h1⟩
 | .view i lo hi b,v,h=>by
   simp only [AVR] at h ⊢
   cases ho:oget objs i with
   | none=>simp [ho] at h
   | some o=>
     obtain ⟨hr,o',ho',hc⟩:=he.at_ i o ho
     rw [ho'];rw [ho] at h
     cases o with
     | dead=>cases hc;trivial
     | row e t xs=>
       rcases hc with rfl | ⟨xs',hl,rfl | rfl⟩
       ·trivial
       ·rw [hr];simp only [hl];exact h
       ·rw [hr];simp only [hl];exact h
     | froz e t xs=>cases hc;rw [hr];exact h
     | box ty cs=>exact h.elim
     | mp ty a b l=>exact h.elim
     | it s p=>exact h.elim
 | .elt i j off,v,h=>by
   simp only [AVR] at h ⊢
   cases ho:oget objs i with
   | none=>simp [ho] at h
   | some o=>
     obtain ⟨hr,o',ho',hc⟩:=he.at_ i o ho
     rw [ho'];rw [ho] at h
     cases o with
     | dead=>cases hc;trivial
     | row e t xs=>
       rcases hc with rfl | ⟨xs',hl,rfl | rfl⟩
       ·trivial
       ·rw [hr];simp only [hl];exact h
       ·rw [hr];simp only [hl];exact h
     | froz e t xs=>cases hc;rw [hr];exact h
     | box ty cs=>exact h.elim
     | mp ty a b l=>exact h.elim
     | it s p=>exact h.elim
 | .eltv l,_,h=>by
   obtain ⟨ad,cs,rfl,ha,hb,h,h1⟩:=h
   exact ⟨ad,cs,rfl,ha.mono (hw _ hb),hf _ hb,h.imp fun _ _ h=>CVR.mono he hf hw h,h1⟩
 | .aelt i off n j,v,h=>by
   simp only [AVR] at h ⊢
   cases ho:oget objs i with
   | none=>simp [ho] at h
   | some o=>
     obtain ⟨hr,o',ho',hc⟩:=he.at_ i o ho
     rw [ho'];rw [ho] at h
     cases o with
     | dead=>cases hc;trivial
     | row e t xs=>exact h.elim
     | froz e t xs=>exact h.elim
     | box ty cs=>obtain ⟨cs',rfl⟩:=hc;rw [hr];exact h
     | mp ty a b l=>exact h.elim
     | it s p=>exact h.elim
 | .tup l,_,h=>by
   obtain ⟨vs,rfl,h⟩:=h
   refine ⟨vs,rfl,h.imp fun x u h=>?_⟩
   split at h
   ·rename_i hx
    obtain ⟨cs,rfl,h,h1⟩:=h
    rw [if_pos hx]
    exact ⟨cs,rfl,h.imp fun _ _ h=>CVR.mono he hf hw h,h1⟩
   ·rename_i hx
    obtain ⟨c,hc,h⟩:=h
    rw [if_neg hx]
    exact ⟨c,hc,CVR.mono he hf hw h⟩
 | .fn f caps,_,h=>by
   obtain ⟨cs,rfl,h⟩:=h
   exact ⟨cs,rfl,h.imp fun _ _ h=>CVR.mono he hf hw h⟩
 | .bm f caps,_,h=>by
   obtain ⟨cs,rfl,h⟩:=h
   exact ⟨cs,rfl,h.imp fun _ _ h=>CVR.mono he hf hw h⟩
 | .t0 _ _,_,h=>h
 | .und,_,h=>h
 | .nz _ _ _,_,h=>h
theorem own_moved {w w':World} {base:Nat} {e:TypeId} {size n:Nat} {v:Value} {xs:List Value} (h:w.ownsRow base e size v n xs) (hm:∀ k,v.ownBlock=some k→w'.heap[k]?=w.heap[k]?):w'.ownsRow base e size v n xs:=by
 obtain ⟨h1,h2⟩:=h
 refine ⟨h1,?_⟩
 rcases h2 with h2 | ⟨g,cap,cur,rfl,hg,hh,r⟩
 ·exact .inl h2
 ·exact .inr ⟨g,cap,cur,rfl,hg,(hm g (by simp [Value.ownBlock])).trans hh,r⟩
theorem qay (A:Option Addr) (n c:Nat):(Value.slice A n c).ownBlock=blkV (.slice A n c):=by cases A<;>rfl
theorem ObjR.mono (he:Ext objs ρ objs' ρ') (hf:∀ k,fz k→fz' k) (hw:∀ k,fz k→w'.heap[k]?=w.heap[k]?) {V:Value} :
  ∀ {o:Obj},(o=.dead∨(∃ e t xs,o=.froz e t xs)∨∀ g,blkV V=some g→w'.heap[g]?=w.heap[g]?∧¬ fz' g)→ObjR fz ρ w objs old V o→ObjR fz' ρ' w' objs' old V o
 | .dead,_,_=>trivial
 | .froz e t xs,_,h=>Ty.K_mono hf hw (.list e t) xs _ h
 | .row e t xs,hb,h=>by
   rcases hb with hb | ⟨_,_,_,hb⟩ | hb
   ·cases hb
   ·cases hb
   ·obtain ⟨css,hk,ho,hn⟩:=h
    refine ⟨css,hk.imp fun _ _ h=>Ty.K_mono hf hw _ _ _ h,own_moved ho fun k hk=>?_,fun g hg=>⟨?_,(hn g hg).2⟩⟩
    ·refine (hb k ?_).1
     cases V<;>simp [Value.ownBlock] at hk
     rw [←qay];simpa [Value.ownBlock] using hk
    ·refine (hb g ?_).2
     cases V<;>simp [Value.ownBlock] at hg
     rw [←qay];simpa [Value.ownBlock] using hg
 | .box ty cs,hb,h=>by
   rcases hb with hb | ⟨_,_,_,hb⟩ | hb
   ·cases hb
   ·cases hb
   ·obtain ⟨g,vs,rfl,hh,hc,hn,ho,h1⟩:=h
    obtain ⟨h2,h3⟩:=hb g rfl
    exact ⟨g,vs,rfl,h2.trans hh,hc.imp fun _ _ h=>CVR.mono he hf hw h,h3,ho,h1⟩
 | .mp ty k v l,hb,h=>by
   rcases hb with hb | ⟨_,_,_,hb⟩ | hb
   ·cases hb
   ·cases hb
   ·obtain ⟨g,es,c,rfl,hh,hc,hn,ho⟩:=h
    obtain ⟨h2,h3⟩:=hb g rfl
    exact ⟨g,es,c,rfl,h2.trans hh,MR_mono hf hw _ _ hc,h3,ho⟩
 | .it s p,hb,h=>by
   rcases hb with hb | ⟨_,_,_,hb⟩ | hb
   ·cases hb
   ·cases hb
   ·obtain ⟨g,rfl,hh,hn,ho⟩:=h
    obtain ⟨h2,h3⟩:=hb g rfl
    exact ⟨g,rfl,h2.trans hh,h3,ho⟩
def upd (ρ:Nat→Value) (u:Nat) (V:Value):Nat→Value:=fun i=>if i=u then V else ρ i
theorem qa9 (ρ:Nat→Value) (u:Nat) (V:Value):upd ρ u V u=V:=by simp [upd]
theorem upd_ne (ρ:Nat→Value) {u i:Nat} (V:Value) (h:i≠u):upd ρ u V i=ρ i:=by simp [upd,h]
def Obj.live:Obj→Bool
 | .row ..=>true
 | .box ..=>true
 | .mp ..=>true
 | .it ..=>true
 | _=>false
theorem qao {i:Nat} {o:Obj} (h:oget objs i=some o):blkO objs ρ i=if o.live then blkV (ρ i) else none:=by
 unfold blkO;rw [h];cases o<;>rfl
theorem qcu {i:Nat} (h:oget objs i=none):blkO objs ρ i=none:=by unfold blkO;rw [h]
theorem Ext.new {u:Nat} (hu:oget objs u=none) (o:Obj) (V:Value):Ext objs ρ (oset u o objs) (upd ρ u V):=⟨fun i p hp=>by
 have hne:i≠u:=by rintro rfl;rw [hu] at hp;cases hp
 exact ⟨upd_ne ρ V hne,p,by rw [qap _ _ (Ne.symm hne)];exact hp,p.onto_refl⟩⟩
def Stay (objs:Objs) (ρ:Nat→Value) (w:World) (fz':Nat→Prop) (w':World):Prop:=∀ i g,blkO objs ρ i=some g→w'.heap[g]?=w.heap[g]?∧¬ fz' g
theorem OR.obj_stay (h:OR fz old ρ w objs) (he:Ext objs ρ objs' ρ') (hf:Frm fz old w fz' w') {i:Nat} {o:Obj} (hi:oget objs i=some o)
  (hs:∀ g,blkO objs ρ i=some g→w'.heap[g]?=w.heap[g]?∧¬ fz' g):ObjR fz' ρ' w' objs' old (ρ' i) o:=by
 rw [(he.at_ i o hi).1]
 refine ObjR.mono he hf.up hf.fzw ?_ (h.obj i o hi)
 cases o with
 | dead=>exact .inl rfl
 | froz e t xs=>exact .inr (.inl ⟨e,t,xs,rfl⟩)
 | row e t xs=>exact .inr (.inr fun g hg=>hs g (by rw [qao hi];exact hg))
 | box ty cs=>exact .inr (.inr fun g hg=>hs g (by rw [qao hi];exact hg))
 | mp ty a b l=>exact .inr (.inr fun g hg=>hs g (by rw [qao hi];exact hg))
 | it s p=>exact .inr (.inr fun g hg=>hs g (by rw [qao hi];exact hg))
theorem OR.blk_lt (h:OR fz old ρ w objs) {i g:Nat} (hb:blkO objs ρ i=some g):g<w.heap.size∧¬ fz g∧¬ old g:=by
 cases ho:oget objs i with
 | none=>rw [qcu ho] at hb;cases hb
 | some o=>
   rw [qao ho] at hb
   have hR:=h.obj i o ho
   cases o with
   | dead=>simp [Obj.live] at hb
   | froz e t xs=>simp [Obj.live] at hb
   | row e t xs=>
     obtain ⟨css,_,hown,hn⟩:=hR
     simp only [Obj.live,if_true] at hb
     have hb':(ρ i).ownBlock=some g:=by
      cases hV:ρ i<;>rw [hV] at hb hown<;>first | (rcases hown.2 with ⟨h1,_⟩ | ⟨_,_,_,h1,_⟩<;>cases h1;done) | (rw [qay];exact hb)
     exact ⟨(hown.lt g hb').2,hn g hb'⟩
   | box ty cs=>
     obtain ⟨g',vs,hV,hh,_,h1,h2,_⟩:=hR
     rw [hV] at hb
     simp [Obj.live,blkV] at hb
     subst hb
     exact ⟨(Array.getElem?_eq_some_iff.1 hh).1,h1,h2⟩
   | mp ty a b l=>
     obtain ⟨g',es,c,hV,hh,_,h1,h2⟩:=hR
     rw [hV] at hb
     simp [Obj.live,blkV] at hb
     subst hb
     exact ⟨(Array.getElem?_eq_some_iff.1 hh).1,h1,h2⟩
   | it s p=>
     obtain ⟨g',hV,hh,h1,h2⟩:=hR
     rw [hV] at hb
     simp [Obj.live,blkV] at hb
     subst hb
     exact ⟨(Array.getElem?_eq_some_iff.1 hh).1,h1,h2⟩
theorem OR.new (h:OR fz old ρ w objs) {u:Nat} (hu:oget objs u=none) {o:Obj} {V:Value} (hf:Frm fz old w fz' w') (hs:Stay objs ρ w fz' w')
  (hlt:∀ k,fz' k→k<w'.heap.size) (hn:∀ g,o.live=true→blkV V=some g→∀ i,blkO objs ρ i≠some g)
  (ho:ObjR fz' (upd ρ u V) w' (oset u o objs) old V o):OR fz' old (upd ρ u V) w' (oset u o objs):=by
 have he:=Ext.new (ρ:=ρ) hu o V
 have hb:∀ i,i≠u→blkO (oset u o objs) (upd ρ u V) i=blkO objs ρ i:=by
  intro i hi
  unfold blkO
  rw [qap _ _ (Ne.symm hi),upd_ne ρ V hi]
 have hbu:blkO (oset u o objs) (upd ρ u V) u=if o.live then blkV V else none:=by
  rw [qao (qam u o objs),qa9]
 refine ⟨fun i p hp=>?_,fun i j g hij hi hj=>?_,hlt,fun k hk=>Nat.lt_of_lt_of_le (h.oldlt k hk) hf.size⟩
 ·by_cases hi:i=u
  ·subst hi
   rw [qam] at hp
   cases hp
   rw [qa9]
   exact ho
  ·rw [qap _ _ (Ne.symm hi)] at hp
   exact h.obj_stay he hf hp fun g hg=>hs i g hg
 ·by_cases hi':i=u
  ·subst hi'
   rw [hbu] at hi
   cases hl:o.live<;>simp [hl] at hi
   rw [hb j (Ne.symm hij)] at hj
   exact hn g hl hi j hj
  ·rw [hb i hi'] at hi
   by_cases hj':j=u
   ·subst hj'
    rw [hbu] at hj
    cases hl:o.live<;>simp [hl] at hj
    exact hn g hl hj i hi
   ·rw [hb j hj'] at hj
    exact h.apart i j g hij hi hj
theorem Ext.turn {u:Nat} {o p:Obj} (hu:oget objs u=some o) (hop:o.onto p):Ext objs ρ (oset u p objs) ρ:=⟨fun i q hq=>by
 refine ⟨rfl,?_⟩
 by_cases hi:i=u
 ·subst hi
  rw [hu] at hq
  cases hq
  exact ⟨p,qam _ _ _,hop⟩
 ·exact ⟨q,by rw [qap _ _ (Ne.symm hi)];exact hq,q.onto_refl⟩⟩
theorem OR.turn (h:OR fz old ρ w objs) {u:Nat} {o p:Obj} (hu:oget objs u=some o) (hop:o.onto p) (hf:Frm fz old w fz' w')
  (hs:∀ i,i≠u→∀ g,blkO objs ρ i=some g→w'.heap[g]?=w.heap[g]?∧¬ fz' g) (hlt:∀ k,fz' k→k<w'.heap.size)
  (ho:ObjR fz' ρ w' (oset u p objs) old (ρ u) p):OR fz' old ρ w' (oset u p objs):=by
 have he:=Ext.turn (ρ:=ρ) hu hop
 have hb:∀ i,i≠u→blkO (oset u p objs) ρ i=blkO objs ρ i:=by
  intro i hi
  unfold blkO
  rw [qap _ _ (Ne.symm hi)]
 have hbu:∀ g,blkO (oset u p objs) ρ u=some g→blkO objs ρ u=some g:=by
  intro g hg
  rw [qao (qam u p objs)] at hg
  rw [qao hu]
  cases hp:p.live<;>simp [hp] at hg
  have:o.live=true:=by
   cases o with
   | dead=>cases hop;simp [Obj.live] at hp
   | froz e t xs=>cases hop;simp [Obj.live] at hp
   | row=>rfl
   | box=>rfl
   | mp=>rfl
   | it=>rfl
  simp [this,hg]
 refine ⟨fun i q hq=>?_,fun i j g hij hi hj=>?_,hlt,fun k hk=>Nat.lt_of_lt_of_le (h.oldlt k hk) hf.size⟩
 ·by_cases hi:i=u
  ·subst hi
   rw [qam] at hq
   cases hq
   exact ho
  ·rw [qap _ _ (Ne.symm hi)] at hq
   exact h.obj_stay he hf hq (hs i hi)
 ·refine h.apart i j g hij ?_ ?_
  ·by_cases hi':i=u
   ·subst hi';exact hbu g hi
   ·rw [hb i hi'] at hi;exact hi
  ·by_cases hj':j=u
   ·subst hj';exact hbu g hj
   ·rw [hb j hj'] at hj;exact hj
theorem OR.world (h:OR fz old ρ w objs) (hf:Frm fz old w fz' w') (hs:Stay objs ρ w fz' w') (hlt:∀ k,fz' k→k<w'.heap.size):OR fz' old ρ w' objs:=
 ⟨fun i o ho=>h.obj_stay (Ext.refl _ _) hf ho (fun g hg=>hs i g hg),h.apart,hlt,fun k hk=>Nat.lt_of_lt_of_le (h.oldlt k hk) hf.size⟩
end
end Go.Proofs.YtkmpkebaloejhaaGreatDoor.Av
