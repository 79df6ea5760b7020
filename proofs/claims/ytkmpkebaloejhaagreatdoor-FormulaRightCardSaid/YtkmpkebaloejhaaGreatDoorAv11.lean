/- New keys for what is reached;calls. Conditions: none. -/
import Derived.Test.YtkmpkebaloejhaaGreatDoorAv10
import Derived.Calls
namespace Go.Proofs.YtkmpkebaloejhaaGreatDoor.Av
open Go
theorem qd7:∀ {l:List Nat},nodup l=true→l.Nodup
 | [],_=>List.nodup_nil
 | x::r,h=>by
   simp only [nodup,Bool.and_eq_true,Bool.not_eq_true',List.contains_eq_mem,decide_eq_false_iff_not] at h
   exact List.nodup_cons.2 ⟨h.1,qd7 h.2⟩
theorem nodup_snd {m:Ren} (h:(m.map (·.2)).Nodup) {a b i:Nat} (ha:(a,i)∈m) (hb:(b,i)∈m):a=b:=by
 induction m with
 | nil=>simp at ha
 | cons p m ih=>
   simp only [List.map_cons,List.nodup_cons] at h
   rcases List.mem_cons.1 ha with ha' | ha'
   ·rcases List.mem_cons.1 hb with hb' | hb'
    ·rw [←ha'] at hb';cases hb';rfl
    ·exact (h.1 (List.mem_map.2 ⟨_,hb',by rw [←ha']⟩)).elim
   ·rcases List.mem_cons.1 hb with hb' | hb'
    ·exact (h.1 (List.mem_map.2 ⟨_,ha',by rw [←hb']⟩)).elim
    ·exact ih h.2 ha' hb'
theorem nodup_fst {m:Ren} (h:(m.map (·.1)).Nodup) {a b i:Nat} (ha:(i,a)∈m) (hb:(i,b)∈m):a=b:=by
 induction m with
 | nil=>simp at ha
 | cons p m ih=>
   simp only [List.map_cons,List.nodup_cons] at h
   rcases List.mem_cons.1 ha with ha' | ha'
   ·rcases List.mem_cons.1 hb with hb' | hb'
    ·rw [←ha'] at hb';cases hb';rfl
    ·exact (h.1 (List.mem_map.2 ⟨_,hb',by rw [←ha']⟩)).elim
   ·rcases List.mem_cons.1 hb with hb' | hb'
    ·exact (h.1 (List.mem_map.2 ⟨_,ha',by rw [←hb']⟩)).elim
    ·exact ih h.2 ha' hb'
theorem Ren.fine_ok {m:Ren} (h:m.fine=true):(m.map (·.1)).Nodup∧(m.map (·.2)).Nodup:=by
 simp only [Ren.fine,Bool.and_eq_true] at h
 exact ⟨qd7 h.1,qd7 h.2⟩
theorem Ren.new_some {m:Ren} {old n:Nat} (h:m.new old=some n):(n,old)∈m:=by
 simp only [Ren.new,Option.map_eq_some_iff] at h
 obtain ⟨p,hp,rfl⟩:=h
 have h1:=List.mem_of_find?_eq_some hp
 have h2:=List.find?_some hp
 have:=Nat.eq_of_beq_eq_true h2
 rw [←this]
 exact h1
theorem Ren.has_iff {m:Ren} {old:Nat}:m.has old=true↔∃ n,(n,old)∈m:=by
 simp only [Ren.has,List.any_eq_true]
 constructor
 ·rintro ⟨p,hp,h⟩
  have:=Nat.eq_of_beq_eq_true h
  exact ⟨p.1,by rw [←this];exact hp⟩
 ·rintro ⟨n,h⟩
  exact ⟨_,h,Nat.beq_refl _⟩
theorem qeo (g:Obj→Obj) (objs:Objs) (n:Nat):∀ (m:Ren) (acc:Objs),(∀ i,(n,i) ∉ m)→oget (layObjs g objs m acc) n=oget acc n
 | [],acc,_=>rfl
 | p::m,acc,h=>by
   have hp:p.1≠n:=fun e=>h p.2 (by rw [←e];exact List.mem_cons_self)
   rw [layObjs,qeo g objs n m _ fun i hi=>h i (List.mem_cons_of_mem _ hi)]
   split
   ·exact qap _ _ hp
   ·rfl
theorem lay_in (g:Obj→Obj) (objs:Objs) {n i:Nat}:∀ (m:Ren) (acc:Objs),(m.map (·.1)).Nodup→(n,i)∈m→oget (layObjs g objs m acc) n=match oget objs i with
  | some o=>some (g o)
  | none=>oget acc n
 | [],acc,_,h=>by simp at h
 | p::m,acc,hn,h=>by
   simp only [List.map_cons,List.nodup_cons] at hn
   rw [layObjs]
   rcases List.mem_cons.1 h with rfl | h
   ·rw [qeo g objs n m _ fun i hi=>hn.1 (List.mem_map.2 ⟨_,hi,rfl⟩)]
    cases ho:oget objs i with
    | none=>rfl
    | some o=>exact qam _ _ _
   ·have hp:p.1≠n:=fun e=>hn.1 (List.mem_map.2 ⟨_,h,by simp [e]⟩)
    rw [lay_in g objs m _ hn.2 h]
    cases oget objs i with
    | some o=>rfl
    | none=>
      show oget (match oget objs p.2 with | some o=>oset p.1 (g o) acc | none=>acc) n=oget acc n
      cases oget objs p.2 with
      | some q=>exact qap _ _ hp
      | none=>rfl
theorem qbo {m:Ren} (hm:(m.map (·.1)).Nodup) {objs:Objs} {n i:Nat} (h:(n,i)∈m):oget (renObjs m objs) n=(oget objs i).map (renO m objs):=by
 rw [renObjs,lay_in _ _ m [] hm h]
 cases oget objs i<;>rfl
theorem qdz {m:Ren} (hm:(m.map (·.1)).Nodup) {objs:Objs} {n:Nat} {o:Obj} (h:oget (renObjs m objs) n=some o):∃ i p,(n,i)∈m∧oget objs i=some p∧o=renO m objs p:=by
 by_cases hx:∃ i,(n,i)∈m
 ·obtain ⟨i,hi⟩:=hx
  rw [qbo hm hi] at h
  simp only [Option.map_eq_some_iff] at h
  obtain ⟨p,h1,h2⟩:=h
  exact ⟨i,p,hi,h1,h2.symm⟩
 ·rw [renObjs,qeo _ _ _ _ _ fun i hi=>hx ⟨i,hi⟩] at h
  cases h
section
variable {R:Type} {old fz:Nat→Prop} {ρ ρ':Nat→Value} {w:World} {objs objs':Objs} {m:Ren} {r:R} {P:Program} {τ:Nat→Option TI} {B:Ops}
structure RenTo (m:Ren) (objs:Objs) (ρ:Nat→Value) (objs':Objs) (ρ':Nat→Value):Prop where
 to:∀ n i o,(n,i)∈m→oget objs i=some o→oget objs' n=some (renO m objs o)∧ρ' n=ρ i
def FrozOk (fz:Nat→Prop) (ρ:Nat→Value) (w:World) (objs:Objs):Prop:=∀ i e t xs,oget objs i=some (.froz e t xs)→Ty.K fz w (.list e t) xs [ρ i]
theorem OR.froz (h:OR fz old ρ w objs):FrozOk fz ρ w objs:=fun i e t xs hi=>h.obj i _ hi
theorem CVR.ren (hf:FrozOk fz ρ w objs) (ht:RenTo m objs ρ objs' ρ'):∀ {c:CV} {v:Value},CVR fz ρ w objs c v→CVR fz ρ' w objs' (renC m objs c) v
 | .bot,_,_=>trivial
 | .nil,_,h=>h
 | .int _ _,_,h=>h
 | .bool _,_,h=>h
 | .str _,_,h=>h
 | .list ..,_,h=>h
 | .own i,v,h=>by
   simp only [renC]
   cases hn:m.new i with
   | none=>
     simp only [frozC]
     split
     ·rename_i e t xs ho
      simp only [CVR,ho] at h
      rw [h]
      exact hf i e t xs ho
     ·trivial
   | some n=>
     have hm:=Ren.new_some hn
     simp only [CVR] at h ⊢
     cases ho:oget objs i with
     | none=>simp [ho] at h
     | some o=>
       obtain ⟨h1,h2⟩:=ht.to n i o hm ho
       rw [h1]
       rw [ho] at h
       cases o with
       | dead=>trivial
       | row e t xs=>exact h.trans h2.symm
       | froz e t xs=>exact h.trans h2.symm
       | box ty cs=>exact h.elim
       | mp ty a b l=>exact h.trans h2.symm
       | it s0 p0=>exact h.trans h2.symm
 | .ptr i off,v,h=>by
   simp only [renC]
   cases hn:m.new i with
   | none=>trivial
   | some n=>
     have hm:=Ren.new_some hn
     simp only [CVR] at h ⊢
     cases ho:oget objs i with
     | none=>simp [ho] at h
     | some o=>
       obtain ⟨h1,h2⟩:=ht.to n i o hm ho
       rw [h1]
       rw [ho] at h
       cases o with
       | dead=>trivial
       | row e t xs=>exact h.elim
       | froz e t xs=>exact h.elim
       | box ty cs=>rw [h2];exact h
       | mp ty a b l=>exact h.elim
       | it s p=>exact h.elim
theorem All2.map_l {α β γ:Type} {Q:α→β→Prop} {f:γ→α}:∀ {l:List γ} {m:List β},All2 (fun a b=>Q (f a) b) l m→All2 Q (l.map f) m
 | [],[],_=>trivial
 | _::_,_::_,h=>⟨h.1,All2.map_l h.2⟩
 | [],_::_,h=>h.elim
 | _::_,[],h=>h.elim
theorem CVR.ren_all (hf:FrozOk fz ρ w objs) (ht:RenTo m objs ρ objs' ρ') {l:List CV} {vs:List Value} (h:All2 (CVR fz ρ w objs) l vs):All2 (CVR fz ρ' w objs') (l.map (renC m objs)) vs:=
 All2.map_l (h.imp fun _ _ hc=>CVR.ren hf ht hc)
theorem AVR.ren (hf:FrozOk fz ρ w objs) (ht:RenTo m objs ρ objs' ρ'):∀ {a:AV} {v:Value},AVR fz ρ w objs a v→AVR fz ρ' w objs' (renA m objs a) v
 | .c x,v,h=>CVR.ren hf ht h
 | .agg l,v,h=>by
   obtain ⟨cs,rfl,h,h1⟩:=h
   exact ⟨cs,rfl,CVR.ren_all hf ht h,h1⟩
 | .view i lo hi b,v,h=>by
   simp only [renA]
   cases hn:m.new i with
   | none=>trivial
   | some n=>
     have hm:=Ren.new_some hn
     simp only [AVR] at h ⊢
     cases ho:oget objs i with
     | none=>simp [ho] at h
     | some o=>
       obtain ⟨h1,h2⟩:=ht.to n i o hm ho
       rw [h1]
       rw [ho] at h
       cases o with
       | dead=>trivial
       | row e t xs=>rw [h2];exact h
       | froz e t xs=>rw [h2];exact h
       | box ty cs=>exact h.elim
       | mp ty a b l=>exact h.elim
       | it s p=>exact h.elim
 | .elt i j off,v,h=>by
   simp only [renA]
   cases hn:m.new i with
   | none=>trivial
   | some n=>
     have hm:=Ren.new_some hn
     simp only [AVR] at h ⊢
     cases ho:oget objs i with
     | none=>simp [ho] at h
     | some o=>
       obtain ⟨h1,h2⟩:=ht.to n i o hm ho
       rw [h1]
       rw [ho] at h
       cases o with
       | dead=>trivial
       | row e t xs=>rw [h2];exact h
       | froz e t xs=>rw [h2];exact h
       | box ty cs=>exact h.elim
       | mp ty a b l=>exact h.elim
       | it s p=>exact h.elim
 | .eltv l,v,h=>by
   obtain ⟨ad,cs,rfl,ha,hb,h,h1⟩:=h
   exact ⟨ad,cs,rfl,ha,hb,CVR.ren_all hf ht h,h1⟩
 | .aelt i off k j,v,h=>by
   simp only [renA]
   cases hn:m.new i with
   | none=>trivial
   | some n=>
     have hm:=Ren.new_some hn
     simp only [AVR] at h ⊢
     cases ho:oget objs i with
     | none=>simp [ho] at h
     | some o=>
       obtain ⟨h1,h2⟩:=ht.to n i o hm ho
       rw [h1]
       rw [ho] at h
       cases o with
       | dead=>trivial
       | row e t xs=>exact h.elim
       | froz e t xs=>exact h.elim
       | box ty cs=>rw [h2];exact h
       | mp ty a b l=>exact h.elim
       | it s p=>exact h.elim
 | .tup l,v,h=>by
   obtain ⟨vs,rfl,h⟩:=h
   refine ⟨vs,rfl,All2.map_l (h.imp fun x u h=>?_)⟩
   split at h
   ·rename_i hx
    obtain ⟨cs,rfl,h,h1⟩:=h
    rw [if_pos hx]
    exact ⟨cs,rfl,CVR.ren_all hf ht h,h1⟩
   ·rename_i hx
    obtain ⟨c,hc,h⟩:=h
    rw [if_neg hx]
    exact ⟨renC m objs c,by simp [hc],CVR.ren hf ht h⟩
 | .fn f caps,v,h=>by
   obtain ⟨cs,rfl,h⟩:=h
   exact ⟨cs,rfl,CVR.ren_all hf ht h⟩
 | .bm f caps,v,h=>by
   obtain ⟨cs,rfl,h⟩:=h
   exact ⟨cs,rfl,CVR.ren_all hf ht h⟩
 | .t0 _ _,_,h=>h
 | .und,_,h=>h
 | .nz _ _ _,_,h=>h
theorem ObjR.ren (hf:FrozOk fz ρ w objs) (ht:RenTo m objs ρ objs' ρ') {old':Nat→Prop} {V:Value}:∀ {o:Obj},(∀ g,o.live=true→V.ownBlock=some g∨V=.pointer (some ⟨g,0,none⟩)∨V=.map (some g)→¬ old' g)→ObjR fz ρ w objs old V o→ObjR fz ρ' w objs' old' V (renO m objs o)
 | .dead,_,_=>trivial
 | .froz e t xs,_,h=>h
 | .row e t xs,ho,h=>by
   obtain ⟨css,h1,h2,h3⟩:=h
   exact ⟨css,h1,h2,fun g hg=>⟨(h3 g hg).1,ho g rfl (.inl hg)⟩⟩
 | .box ty cs,ho,h=>by
   obtain ⟨g,vs,h1,h2,h3,h4,h5,h6⟩:=h
   exact ⟨g,vs,h1,h2,CVR.ren_all hf ht h3,h4,ho g rfl (.inr (.inl h1)),h6⟩
 | .mp ty a b l,ho,h=>by
   obtain ⟨g,es,c,h1,h2,h3,h4,h5⟩:=h
   exact ⟨g,es,c,h1,h2,h3,h4,ho g rfl (.inr (.inr h1))⟩
 | .it s p,ho,h=>by
   obtain ⟨g,h1,h2,h3,h4⟩:=h
   exact ⟨g,h1,h2,h3,ho g rfl (.inr (.inl h1))⟩
theorem blkV_of {V:Value} {g:Nat} (h:V.ownBlock=some g∨V=.pointer (some ⟨g,0,none⟩)∨V=.map (some g)):blkV V=some g:=by
 rcases h with h | h | h
 ·cases V<;>simp [Value.ownBlock] at h
  rw [←qay];simpa [Value.ownBlock] using h
 ·rw [h];rfl
 ·rw [h];rfl
theorem renO_live (o:Obj):(renO m objs o).live=o.live:=by cases o<;>rfl
def renρ (m:Ren) (ρ:Nat→Value) (n:Nat):Value:=
 match m.find? fun p=>Nat.beq p.1 n with
 | some p=>ρ p.2
 | none=>ρ n
theorem qep (hm:(m.map (·.1)).Nodup) {n i:Nat} (h:(n,i)∈m):renρ m ρ n=ρ i:=by
 unfold renρ
 cases hf:m.find? fun p=>Nat.beq p.1 n with
 | none=>exact absurd (List.find?_eq_none.1 hf _ h) (by simp)
 | some p=>
   have h1:=List.mem_of_find?_eq_some hf
   have h2:p.1=n:=Nat.eq_of_beq_eq_true (by have:=List.find?_some hf;exact this)
   have:p.2=i:=nodup_fst hm (i:=n) (by rw [←h2];exact h1) h
   simp [this]
theorem qb5 (hm:(m.map (·.1)).Nodup):RenTo m objs ρ (renObjs m objs) (renρ m ρ):=⟨fun n i o hn ho=>⟨by rw [qbo hm hn,ho];rfl,qep hm hn⟩⟩
theorem blk_ren (hm:(m.map (·.1)).Nodup) {n g:Nat} (h:blkO (renObjs m objs) (renρ m ρ) n=some g):∃ i,(n,i)∈m∧blkO objs ρ i=some g:=by
 cases ho:oget (renObjs m objs) n with
 | none=>rw [qcu ho] at h;cases h
 | some o=>
   obtain ⟨i,p,hi,hp,rfl⟩:=qdz hm ho
   refine ⟨i,hi,?_⟩
   rw [qao ho,renO_live,qep hm hi] at h
   rw [qao hp];exact h
theorem OR.ren (h:OR fz old ρ w objs) (hm:m.fine=true) {fz' old':Nat→Prop} (hup:∀ k,fz k→fz' k) (hlt':∀ k,fz' k→k<w.heap.size) (hlt:∀ k,old' k→k<w.heap.size) (ho:∀ n i g,(n,i)∈m→blkO objs ρ i=some g→¬ old' g∧¬ fz' g) :
  OR fz' old' (renρ m ρ) w (renObjs m objs):=by
 obtain ⟨h1,h2⟩:=Ren.fine_ok hm
 refine ⟨fun n o hn=>?_,fun n n' g hne hn hn'=>?_,hlt',hlt⟩
 ·obtain ⟨i,p,hi,hp,rfl⟩:=qdz h1 hn
  rw [qep h1 hi]
  refine ObjR.ren (fun i e t xs hx=>Ty.K_mono hup (fun _ _=>rfl) _ _ _ (h.froz i e t xs hx)) (qb5 h1) (fun g hl hg=>(ho n i g hi ?_).1) (ObjR.mono (Ext.refl _ _) hup (fun _ _=>rfl) ?_ (h.obj i p hp))
  ·rw [qao hp,hl];exact blkV_of hg
  ·cases p with
   | dead=>exact .inl rfl
   | froz e t xs=>exact .inr (.inl ⟨e,t,xs,rfl⟩)
   | row e t xs=>exact .inr (.inr fun g hg=>⟨rfl,(ho n i g hi (by rw [qao hp];exact hg)).2⟩)
   | box ty cs=>exact .inr (.inr fun g hg=>⟨rfl,(ho n i g hi (by rw [qao hp];exact hg)).2⟩)
   | mp ty a b l=>exact .inr (.inr fun g hg=>⟨rfl,(ho n i g hi (by rw [qao hp];exact hg)).2⟩)
   | it s p=>exact .inr (.inr fun g hg=>⟨rfl,(ho n i g hi (by rw [qao hp];exact hg)).2⟩)
 ·obtain ⟨i,hi,hb⟩:=blk_ren h1 hn
  obtain ⟨i',hi',hb'⟩:=blk_ren h1 hn'
  by_cases he:i=i'
  ·subst he;exact hne (nodup_snd h2 hi hi')
  ·exact h.apart i i' g he hb hb'
end
end Go.Proofs.YtkmpkebaloejhaaGreatDoor.Av
