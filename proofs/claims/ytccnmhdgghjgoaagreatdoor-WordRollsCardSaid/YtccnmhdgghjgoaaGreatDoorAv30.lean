/- A region's order with operations that only make objects: the theorem. Conditions: none. -/
import Derived.Test.YtccnmhdgghjgoaaGreatDoorAv29
namespace Go.Proofs.YtccnmhdgghjgoaaGreatDoor.Av
open Go
section
variable {R:Type} {old fz0:Nat→Prop} {ρ0:Nat→Value} {w0:World} {objs0:Objs} {r:R} {P:Program} {τ:Nat→Option TI} {B:Ops} {gl:Nat→Option (List CV)}
 {G:Nat→List AV→Objs→(AV→Objs→Option R)→Option R} {owns:Nat→Nat→Bool}
theorem qbb {D:List Fr} {p:Nat×Obj}:p∈rowsOf D↔∃ f∈D,p∈f.2.2.2:=by
 unfold rowsOf
 rw [List.mem_flatMap]
theorem MS.make {ops:Array Oper} {base:Nat} {watch:List (Nat×Nat)} {T:Nat→Nat→Prop} {ds:List Nat} {D:List Fr} {Lc La:Array Bool} {env envC:List AV} {objs objsC:Objs} {a a':Act} {w w':World} {fz fz':Nat→Prop} {ρ ρ':Nat→Value}
  (s:MS gl old fz0 ρ0 w0 objs0 τ ops base watch T ds D Lc La env envC objs objsC a w fz ρ) (f:Fr) (hf:f∈D)
  (s':St gl old fz0 ρ0 w0 objs0 fz' ρ' (eput (some f.2.1) f.2.2.1 envC) (addR f.2.2.2 objsC) a' w') (he:Ext objsC ρ (addR f.2.2.2 objsC) ρ') (hfm:Frm fz old w fz' w') :
  MS gl old fz0 ρ0 w0 objs0 τ ops base watch T ds (D.filter fun g=>!Nat.beq g.1 f.1) (Lc.setIfInBounds f.1 true) La env (eput (some f.2.1) f.2.2.1 envC) objs (addR f.2.2.2 objsC) a' w' fz' ρ':=by
 have hp:=qe9 D s.ndi f hf
 have hsub:∀ g∈D.filter (fun g=>!Nat.beq g.1 f.1),g∈D∧g.1≠f.1:=fun g hg=>by
  obtain ⟨h1,h2⟩:=List.mem_filter.1 hg
  exact ⟨h1,fun e=>by rw [e] at h2;simp at h2⟩
 have hrows:(rowsOf D).Perm (f.2.2.2++rowsOf (D.filter fun g=>!Nat.beq g.1 f.1)):=by
  have:=hp.flatMap_right (fun g:Fr=>g.2.2.2)
  simpa [rowsOf] using this
 have hndk:((f.2.2.2++rowsOf (D.filter fun g=>!Nat.beq g.1 f.1)).map (·.1)).Nodup:=(hrows.map _).nodup_iff.1 s.ndk
 have hdst:∀ g∈D.filter (fun g=>!Nat.beq g.1 f.1),g.2.1≠f.2.1:=fun g hg e=>by
  have:=(hp.map (·.2.1)).nodup_iff.1 s.ndd
  rw [List.map_cons,List.nodup_cons] at this
  exact this.1 (List.mem_map.2 ⟨g,hg,e⟩)
 rw [List.map_append,List.nodup_append] at hndk
 obtain ⟨nd1,nd2,nd3⟩:=hndk
 refine ⟨s',fun p hp=>?_,by simp [s.sz],fun x=>?_,?_,fun x hx g hg=>?_,fun g hg=>?_,fun g hg=>s.inn g (hsub g hg).1,nd2,fun p hp=>?_,?_,by rw [←s.len];simp [eput],fun d=>?_,fun g hg=>s.ev g (hsub g hg).1,?_,fun g hg=>?_,fun g hg b hb=>Nat.lt_of_lt_of_le (s.hts g (hsub g hg).1 b hb) hfm.size,fun j g hj ht=>(s.htp j g (unl_set hj).1 ht).mono s.hw he hfm⟩
 ·obtain ⟨q,hq⟩:=s.hw p hp
  obtain ⟨_,q',hq',_⟩:=he.at_ _ q hq
  exact ⟨q',hq'⟩
 ·by_cases e:f.1=x
  ·subst e
   have hin:=s.inn f hf
   have hlt:f.1<La.size:=by
    by_cases h:f.1<La.size
    ·exact h
    ·rw [Array.getD_eq_getD_getElem?,Array.getElem?_eq_none (by omega)] at hin;cases hin
   have h1:(Lc.setIfInBounds f.1 true).getD f.1 false=true:=by
    rw [Array.getD_eq_getD_getElem?];simp [s.sz,hlt]
   have h2:((D.filter fun g=>!Nat.beq g.1 f.1).map (·.1)).contains f.1=false:=by
    rw [Bool.eq_false_iff]
    intro h
    obtain ⟨g,hg,e⟩:=List.mem_map.1 (List.contains_iff_mem.1 h)
    exact (hsub g hg).2 e
   rw [h1,h2,hin];rfl
  ·rw [getD_set_ne false e,s.li x]
   congr 2
   rw [Bool.eq_iff_iff,List.contains_iff_mem,List.contains_iff_mem,List.mem_map,List.mem_map]
   constructor
   ·rintro ⟨g,hg,rfl⟩
    refine ⟨g,List.mem_filter.2 ⟨hg,?_⟩,rfl⟩
    have:Nat.beq g.1 f.1=false:=by rw [Bool.eq_false_iff];intro hb;exact e (Nat.eq_of_beq_eq_true hb).symm
    rw [this];rfl
   ·rintro ⟨g,hg,rfl⟩
    exact ⟨g,(hsub g hg).1,rfl⟩
 ·exact (List.Sublist.map _ List.filter_sublist).nodup s.ndi
 ·by_cases e:f.1=x
  ·subst e
   obtain ⟨_,o,ho,hafter⟩:=mem_ready.1 (s.rdy f hf)
   rw [Bool.eq_false_iff]
   intro hx'
   obtain ⟨ed,h1,h2,h3⟩:=aftL_ok ho hx'
   have h4:=hafter ed h1 h2
   rcases h3 with h3 | h3
   ·rw [h3,s.li g.1,show (D.map (·.1)).contains g.1=true from List.contains_iff_mem.2 (List.mem_map.2 ⟨g,(hsub g hg).1,rfl⟩)] at h4
    simp at h4
   ·rw [s.aft _ h4 g (hsub g hg).1] at h3;cases h3
  ·rw [getD_set_ne false e] at hx
   exact s.aft x hx g (hsub g hg).1
 ·obtain ⟨h1,o,ho,h2⟩:=mem_ready.1 (s.rdy g (hsub g hg).1)
  refine mem_ready.2 ⟨by rw [getD_set_ne true (Ne.symm (hsub g hg).2)];exact h1,o,ho,fun ed h3 h4=>?_⟩
  have h5:=h2 ed h3 h4
  by_cases e:f.1=ed.on
  ·rw [←e] at h5
   have:=(mem_ready.1 (s.rdy f hf)).1
   rw [qd0] at this
   rw [this.2] at h5;cases h5
  ·rw [getD_set_ne false e];exact h5
 ·obtain ⟨g,hg,hgp⟩:=qbb.1 hp
  rw [qa2 _ _ fun q hq e=>nd3 q.1 (List.mem_map.2 ⟨q,hq,rfl⟩) p.1 (List.mem_map.2 ⟨p,hp,rfl⟩) e]
  exact s.ab p (qbb.2 ⟨g,(hsub g hg).1,hgp⟩)
 ·rw [s.ob,addR_perm hrows s.ndk,qc3]
 ·by_cases e:d=f.2.1
  ·subst e
   left
   rw [s.ev f hf]
   obtain ⟨_,o,_,_,_,_,_,_,p,hp1,hp2⟩:=s.fr f hf
   have hlt:f.2.1<envC.length:=by
    rw [s.len]
    have:=s.ev f hf
    by_cases h:f.2.1<env.length
    ·exact h
    ·rw [List.getD_eq_getElem?_getD,List.getElem?_eq_none (by omega)] at this
     rcases hp2 with h2 | h2<;>rw [h2] at this<;>cases this
   show (envC.set f.2.1 f.2.2.1).getD f.2.1 (.c .bot)=_
   simp [List.getD_eq_getElem?_getD,hlt]
  ·rw [qbj e]
   rcases s.en d with h | ⟨h,g,hg,hgd⟩
   ·exact .inl h
   ·refine .inr ⟨h,g,List.mem_filter.2 ⟨hg,?_⟩,hgd⟩
    have:Nat.beq g.1 f.1=false:=by
     rw [Bool.eq_false_iff]
     intro hb
     have hgf:g.1=f.1:=Nat.eq_of_beq_eq_true hb
     rcases List.mem_cons.1 (hp.subset hg) with rfl | hg2
     ·exact e hgd.symm
     ·exact (hsub g hg2).2 hgf
    rw [this];rfl
 ·exact (List.Sublist.map _ List.filter_sublist).nodup s.ndd
 ·obtain ⟨h0,o,h1,h2,h3,h4,h5,h6,h7⟩:=s.fr g (hsub g hg).1
  exact ⟨h0,o,h1,h2,h3,h4,by rw [qc4 h4 (s.fr f hf).1];exact h5,h6,h7⟩
end
end Go.Proofs.YtccnmhdgghjgoaaGreatDoor.Av
