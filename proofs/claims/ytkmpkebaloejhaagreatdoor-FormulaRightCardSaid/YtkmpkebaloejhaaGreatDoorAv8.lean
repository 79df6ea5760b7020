/- New variables and rows;what is written. Conditions: none. -/
import Derived.Test.YtkmpkebaloejhaaGreatDoorAv7
namespace Go.Proofs.YtkmpkebaloejhaaGreatDoor.Av
open Go
section
variable {R:Type} {old fz:Nat→Prop} {ρ:Nat→Value} {w:World} {objs:Objs} {r:R} {P:Program} {τ:Nat→Option TI} {B:Ops}
theorem qbf (h:OR fz old ρ w objs) (o:Go.Obj):Frm fz old w fz (w.alloc o):=
 ⟨fun _ hk=>hk,fun _ _ hk=>hk,fun k hk=>heap_alloc_old w o k (h.fzlt k hk),fun k hk=>heap_alloc_old w o k (h.oldlt k hk),by simp,rfl,rfl,rfl⟩
theorem qcf (h:OR fz old ρ w objs) (o:Go.Obj):Stay objs ρ w fz (w.alloc o):=fun i g hg=>⟨heap_alloc_old w o g (h.blk_lt hg).1,(h.blk_lt hg).2.1⟩
theorem qd6 (h:OR fz old ρ w objs) (o:Go.Obj):∀ k,fz k→k<(w.alloc o).heap.size:=fun k hk=>by have:=h.fzlt k hk;simp;omega
theorem new_nil (h:OR fz old ρ w objs) {u:Nat} (hu:oget objs u=none) (e:Nat) (t:Ty):OR fz old (upd ρ u (.slice none 0 0)) w (oset u (.row e t []) objs)∧Ext objs ρ (oset u (.row e t []) objs) (upd ρ u (.slice none 0 0)):=by
 refine ⟨h.new hu (Frm.refl _ _ _) (fun i g hg=>⟨rfl,(h.blk_lt hg).2.1⟩) h.fzlt (fun g _ hg=>by simp [blkV] at hg) ?_,Ext.new hu _ _⟩
 exact ⟨[],trivial,World.ownsRow_nil _ _ _ _,fun g hg=>by simp [Value.ownBlock] at hg⟩
theorem qbt (u:Nat):∀ (cells:List CV) (j:Nat) (cty:List (Option (Nat×Ty))) {objs:Objs} {ρ:Nat→Value} {vs:List Value},OR fz old ρ w objs→All2 (CVR fz ρ w objs) cells vs→(∀ i,j≤i→i<j+cells.length→oget objs (u+i)=none)→
  ∃ ρ',OR fz old ρ' w (boxCells u j cells cty objs).2∧Ext objs ρ (boxCells u j cells cty objs).2 ρ'∧All2 (CVR fz ρ' w (boxCells u j cells cty objs).2) (boxCells u j cells cty objs).1 vs∧
   ∀ i,(∀ m,j≤m→m<j+cells.length→i≠u+m)→oget (boxCells u j cells cty objs).2 i=oget objs i
 | [],j,cty,objs,ρ,vs,h,ha,hn=>by
  cases vs with
  | cons=>exact ha.elim
  | nil=>exact ⟨ρ,by simpa [boxCells] using h,by simpa [boxCells] using Ext.refl _ _,by simp [boxCells,All2],fun _ _=>by simp [boxCells]⟩
 | c::cells,j,[],objs,ρ,vs,h,ha,hn=>by
   have hbc:boxCells u j (c::cells) [] objs=(c::cells,objs):=by
    cases c<;>rfl
   rw [hbc]
   exact ⟨ρ,h,Ext.refl _ _,ha,fun _ _=>rfl⟩
 | c::cells,j,y::cty,objs,ρ,vs,h,ha,hn=>by
   cases vs with
   | nil=>exact ha.elim
   | cons v vs=>
     by_cases hc:∃ e t,c=.nil∧y=some (e,t)
     ·obtain ⟨e,t,rfl,rfl⟩:=hc
      have hu:=hn j (Nat.le_refl _) (by simp)
      obtain ⟨h1,e1⟩:=new_nil h hu e t
      have hv:v=.slice none 0 0:=ha.1
      obtain ⟨ρ',g1,g2,g3,g4⟩:=qbt u cells (j+1) cty h1 (ha.2.imp fun _ _ hc=>CVR.mono e1 (fun _ hk=>hk) (fun _ _=>rfl) hc) (fun i hi hi'=>by
       rw [qap _ _ (by omega)]
       exact hn i (by omega) (by simp at hi' ⊢;omega))
      refine ⟨ρ',g1,e1.trans g2,⟨?_,g3⟩,fun i hi=>?_⟩
      ·obtain ⟨h2,o',ho',hc'⟩:=g2.at_ (u+j) _ (qam _ _ _)
       simp only [CVR]
       show match oget (boxCells u (j+1) cells cty (oset (u+j) (.row e t []) objs)).2 (u+j) with
        | some (.row ..)=>v=ρ' (u+j)
        | some (.froz ..)=>v=ρ' (u+j)
        | some (.mp ..)=>v=ρ' (u+j)
        | some (.it ..)=>v=ρ' (u+j)
        | some .dead=>True
        | _=>False
       rw [ho',h2,qa9]
       rcases hc' with rfl | ⟨xs',_,rfl | rfl⟩
       ·trivial
       ·exact hv
       ·exact hv
      ·show oget (boxCells u (j+1) cells cty (oset (u+j) (.row e t []) objs)).2 i=_
       rw [g4 i (fun m hm hm'=>hi m (by omega) (by simp at hm' ⊢;omega)),qap _ _ (fun he=>hi j (Nat.le_refl _) (by simp) he.symm)]
     ·have hbc:boxCells u j (c::cells) (y::cty) objs=(c::(boxCells u (j+1) cells cty objs).1,(boxCells u (j+1) cells cty objs).2):=by
       cases c<;>try rfl
       cases y with
       | none=>rfl
       | some p=>exact absurd ⟨p.1,p.2,rfl,rfl⟩ hc
      rw [hbc]
      obtain ⟨ρ',g1,g2,g3,g4⟩:=qbt u cells (j+1) cty h ha.2 (fun i hi hi'=>hn i (by omega) (by simp at hi' ⊢;omega))
      exact ⟨ρ',g1,g2,⟨CVR.mono g2 (fun _ hk=>hk) (fun _ _=>rfl) ha.1,g3⟩,fun i hi=>g4 i (fun m hm hm'=>hi m (by omega) (by simp at hm' ⊢;omega))⟩
theorem newBox_ok (h:OR fz old ρ w objs) {u t:Nat} {ti:TI} {cells:List CV} {V:Value} {k:AV→Objs→Option R} (ha:All2 (CVR fz ρ w objs) cells V.cells.toList) (h1:∀ x∈V.cells,x.oneCell'=true) (hk:newBox u t ti cells objs k=some r) :
  Lands old fz ρ w objs k r (.pointer (some ⟨w.heap.size,0,none⟩)) (w.alloc (.cells V.cells t)):=by
 unfold newBox at hk
 simp only at hk
 cases hc:(List.range (cells.length+1)).all fun j=>(oget objs (u+j)).isNone with
 | false=>simp [hc] at hk
 | true=>
   simp only [hc,cond_true] at hk
   have hn:∀ j,j≤cells.length→oget objs (u+j)=none:=by
    intro j hj
    rw [List.all_eq_true] at hc
    simpa using hc j (List.mem_range.2 (by omega))
   obtain ⟨ρ',g1,g2,g3,g4⟩:=qbt (u+1) cells 0 ti.cty h ha (fun i _ hi=>by
    have:=hn (i+1) (by omega)
    rwa [show u+(i+1)=u+1+i by omega] at this)
   have hu:oget (boxCells (u+1) 0 cells ti.cty objs).2 u=none:=by
    rw [g4 u (fun m _ _=>by omega)]
    simpa using hn 0 (by omega)
   refine ⟨_,_,fz,upd ρ' u (.pointer (some ⟨w.heap.size,0,none⟩)),hk,?_,?_,g2.trans (Ext.new hu _ _),qbf h _⟩
   ·simp only [AVR,CVR,qam]
    exact ⟨w.heap.size,qa9 _ _ _,by rw [Addr.add_zero']⟩
   ·have hf:=qbf g1 (.cells V.cells t)
    refine g1.new hu hf (qcf g1 _) (qd6 g1 _) (fun g _ hg i hi=>?_) ?_
    ·simp [blkV] at hg
     have:=(g1.blk_lt hi).1
     omega
    ·refine ⟨w.heap.size,V.cells,rfl,heap_alloc_new w _,g3.imp fun _ _ hc=>CVR.mono (Ext.new hu _ _) hf.up hf.fzw hc,fun hk=>?_,fun hk=>?_,h1⟩
     ·have:=g1.fzlt _ hk;omega
     ·have:=g1.oldlt _ hk;omega
theorem alloc_ok (hT:TOk P τ) (h:OR fz old ρ w objs) {u t:Nat} {ti:TI} (hti:τ t=some ti) {k:AV→Objs→Option R} (hk:newBox u t ti ti.zero objs k=some r) :
  ∃ V w',(Instr.alloc t true (.tuple #[])).run P w=.ok V w'∧Lands old fz ρ w objs k r V w'∧∃ c,w'=w.alloc c:=by
 obtain ⟨z,hz,hz2,hz3⟩:=(hT t ti hti).run_zero
 refine ⟨_,_,?_,newBox_ok (V:=z) h (hz2.imp fun _ _ hc=>CVR.of_zero hc) hz3 hk,_,rfl⟩
 simp [Instr.alloc,hz,newVar,newRow]
theorem box_ok (h:OR fz old ρ w objs) {u t:Nat} {ti:TI} {l:List CV} {v:AV} {V:Value} (hv:AVR fz ρ w objs v V) (hl:cellsOf objs v=some l) {k:AV→Objs→Option R} (hk:newBox u t ti l objs k=some r) :
  ∃ V' w',(Instr.box t V).run P w=.ok V' w'∧Lands old fz ρ w objs k r V' w':=by
 obtain ⟨h1,h2⟩:=qce h hv hl
 refine ⟨_,_,?_,newBox_ok (V:=V) h h1 h2 hk⟩
 simp [Instr.box,newVar,newRow]
theorem qav {u:Nat} {k:Option R} (h:freshly u objs k=some r):oget objs u=none∧k=some r:=by
 unfold freshly at h
 split at h
 ·rename_i ho;exact ⟨ho,h⟩
 ·cases h
theorem amove_ok (h:OR fz old ρ w objs) {u t:Nat} {v:AV} {V:Value} {k:AV→Objs→Option R} (hv:AVR fz ρ w objs v V) (hk:amove τ u t v objs k=some r):Lands old fz ρ w objs k r V w:=by
 unfold amove at hk
 split at hk
 ·have hV:V=.slice none 0 0:=hv
  split at hk
  ·split at hk
   ·rename_i ty hty
    obtain ⟨hu,hk⟩:=qav hk
    obtain ⟨h1,h2⟩:=new_nil h hu _ ty
    refine ⟨_,_,fz,_,hk,?_,h1,h2,Frm.refl _ _ _⟩
    simp only [AVR,CVR,qam]
    rw [qa9,hV]
   ·exact Lands.same h hk hv
  ·exact Lands.same h hk hv
 ·exact Lands.same h hk hv
end
end Go.Proofs.YtkmpkebaloejhaaGreatDoor.Av
