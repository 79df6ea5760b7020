/- A region's order with operations that only make objects: they may be done at any time. Conditions: none. -/
import Derived.Test.YtccnmhdgghjgoaaGreatDoorAv27
namespace Go.Proofs.YtccnmhdgghjgoaaGreatDoor.Av
open Go
theorem addR_perm {a b:Objs} (hp:a.Perm b):(a.map (·.1)).Nodup→∀ objs,addR a objs=addR b objs:=by
 induction hp with
 | nil=>intro _ objs;rfl
 | cons p _ ih=>
   intro nd objs
   rw [List.map_cons,List.nodup_cons] at nd
   exact ih nd.2 _
 | swap p q l=>
   intro nd objs
   have hne:q.1≠p.1:=by
    simp only [List.map_cons,List.nodup_cons,List.mem_cons,not_or] at nd
    exact nd.1.1
   show addR l (oset p.1 p.2 (oset q.1 q.2 objs))=addR l (oset q.1 q.2 (oset p.1 p.2 objs))
   rw [qde (Ne.symm hne)]
 | trans h1 _ ih1 ih2=>
   intro nd objs
   rw [ih1 nd objs]
   exact ih2 ((h1.map _).nodup_iff.1 nd) objs
section
variable {R:Type} {old fz0:Nat→Prop} {ρ0:Nat→Value} {w0:World} {objs0:Objs} {r:R} {P:Program} {τ:Nat→Option TI} {B:Ops} {gl:Nat→Option (List CV)}
 {G:Nat→List AV→Objs→(AV→Objs→Option R)→Option R} {owns:Nat→Nat→Bool}
theorem fresh_ok (hT:TOk P τ) {env:List AV} {a:Act} {w:World} {fz:Nat→Prop} {ρ:Nat→Value} {objs rows:Objs} {v:AV} (hg:GlR fz w gl) (h:OR fz old ρ w objs) (he:EnvR fz ρ w objs env a.tmps) {u:Nat} {o:Oper} (hl:freshOf τ gl u o env=some (v,rows)) (habs:∀ p∈rows,oget objs p.1=none) (r:R) :
  ∃ V c,(execOp a.eval o).run P w=.ok (.value V) (w.alloc c)∧Lands old fz ρ w objs (fun v' o'=>@ite _ (v'=v∧o'=addR rows objs) (Classical.propDecidable _) (some r) none) r V (w.alloc c):=by
 have hk:=freshOf_aop (R:=R) τ (Ops.std) gl (fun _ _ _ _=>none) (fun _ _=>false) hl habs (fun v' o'=>@ite _ (v'=v∧o'=addR rows objs) (Classical.propDecidable _) (some r) none)
 rw [if_pos ⟨rfl,rfl⟩] at hk
 obtain ⟨dst,op,type,pos,after,guard⟩:=o
 have fin:∀ {x:Sem Value} {V:Value} {w':World},(execOp a.eval ⟨dst,op,type,pos,after,guard⟩=(do pure (.value (←x))))→x.run P w=.ok V w'→(execOp a.eval ⟨dst,op,type,pos,after,guard⟩).run P w=.ok (.value V) w':=by
  intro x V w' hx h1
  rw [hx];simp [h1]
 unfold freshOf at hl
 split at hl
 ·rename_i t len parts hop
  simp only at hop
  subst hop
  simp only [aop] at hk
  obtain ⟨V,w',h1,h2,c,rfl⟩:=qcx (qs:=parts.map fun p=>(p.1,a.eval p.2)) hT h (by simpa [Array.toList_map] using qcv hg he parts.toList) hk
  exact ⟨V,c,fin rfl h1,h2⟩
 ·rename_i t hop
  simp only at hop
  subst hop
  simp only [aop] at hk
  split at hk
  ·rename_i ti hti
   obtain ⟨V,w',h1,h2,c,rfl⟩:=alloc_ok hT h hti hk
   exact ⟨V,c,fin rfl h1,h2⟩
  ·cases hk
 ·cases hl
theorem fresh_step (r:R) (hT:TOk P τ) {ops:Array Oper} {i:Nat} {o:Oper} (ho:ops[i]?=some o) {Q:Exit→Act→World→Prop} {env:List AV} {objs rows:Objs} {v:AV} {a:Act} {w:World} {fz:Nat→Prop} {ρ:Nat→Value}
  (s:St gl old fz0 ρ0 w0 objs0 fz ρ env objs a w) (hgu:o.guard=none) {u:Nat} (hl:freshOf τ gl u o env=some (v,rows)) (habs:∀ p∈rows,oget objs p.1=none)
  {T:Nat→Prop} (hT':∀ g,T g→g<w.heap.size) {K:Act→World→Prop}
  (hK:∀ a' w' fz' ρ',St gl old fz0 ρ0 w0 objs0 fz' ρ' (eput o.dst v env) (addR rows objs) a' w'→Ext objs ρ (addR rows objs) ρ'→Frm fz old w fz' w'→K a' w') :
  wpOp P ops Q i (fun a' w'=>(∀ g,T g→w'.heap[g]?=w.heap[g]?)∧K a' w') a w:=by
 obtain ⟨V,c,h1,v',objs',fz',ρ',h2,h3,h4,h5,h6⟩:=fresh_ok hT s.gl_ s.or_ s.env_ hl habs r
 have hv:v'=v∧objs'=addR rows objs:=Classical.byContradiction fun hc=>by
  replace h2:@ite _ (v'=v∧objs'=addR rows objs) (Classical.propDecidable _) (some r) none=some r:=h2
  rw [if_neg hc] at h2;cases h2
 obtain ⟨rfl,rfl⟩:=hv
 simp only [wpOp,ho]
 rw [if_pos (by simp [Region.wanted,hgu])]
 left
 unfold Oper.wp
 rw [h1,Oper.upon_value]
 exact ⟨fun g hg=>heap_alloc_old w c g (hT' g hg),hK _ _ fz' ρ' ⟨h4,(s.env_.mono h5 h6.up h6.fzw).put h3 o.dst,s.gl_.mono h6.up h6.fzw,s.frm.trans h6,s.bk.ext h5,by rw [put_defers];exact s.nd⟩ h5 h6⟩
end
end Go.Proofs.YtccnmhdgghjgoaaGreatDoor.Av
