/- New rows: literals,make,append. Conditions: none. -/
import Derived.Test.YtkmpkebaloejhaaGreatDoorAv9
import Derived.Maps.AppendAt
namespace Go.Proofs.YtkmpkebaloejhaaGreatDoor.Av
open Go
section
variable {R:Type} {old fz:Nat→Prop} {ρ:Nat→Value} {w:World} {objs:Objs} {r:R} {P:Program} {τ:Nat→Option TI} {B:Ops}
theorem elems_ok {t:Ty}:∀ {ps:List (Nat×AV)} {qs:List (Nat×Value)} {j:Nat} {fz:Nat→Prop} {objs objs':Objs} {xs:List t.den},OR fz old ρ w objs→All2 (fun p q=>p.1=q.1∧AVR fz ρ w objs p.2 q.2) ps qs→elems t ps j objs=some (xs,objs')→
  ∃ fz',OR fz' old ρ w objs'∧Ext objs ρ objs' ρ∧Frm fz old w fz' w∧All2 (fun x (q:Nat×Value)=>t.K fz' w x q.2.cells.toList) xs qs∧∀ m q,qs[m]?=some q→q.1=j+m
 | [],qs,j,fz,objs,objs',xs,h,hq,he=>by
  cases qs with
  | cons=>exact hq.elim
  | nil=>
    simp only [elems,Option.some.injEq,Prod.mk.injEq] at he
    obtain ⟨rfl,rfl⟩:=he
    exact ⟨fz,h,Ext.refl _ _,Frm.refl _ _ _,trivial,fun m q hm=>by simp at hm⟩
 | (i,v)::ps,qs,j,fz,objs,objs',xs,h,hq,he=>by
   cases qs with
   | nil=>exact hq.elim
   | cons q qs=>
     obtain ⟨⟨hi,hv⟩,hq⟩:=hq
     simp only [elems] at he
     cases hb:Nat.beq i j with
     | false=>simp [hb] at he
     | true=>
       simp only [hb,cond_true] at he
       have hij:=Nat.eq_of_beq_eq_true hb
       split at he
       ·rename_i x objs1 hx
        split at he
        ·rename_i xs' objs2 hxs
         cases he
         obtain ⟨fz1,h1,e1,f1,k1,_⟩:=intoElem_ok h hv hx
         obtain ⟨fz2,h2,e2,f2,k2,n2⟩:=elems_ok h1 (hq.imp fun p q hpq=>⟨hpq.1,AVR.mono e1 f1.up f1.fzw hpq.2⟩) hxs
         refine ⟨fz2,h2,e1.trans e2,f1.trans f2,⟨Ty.K_mono f2.up f2.fzw _ _ _ k1,k2⟩,fun m q' hm=>?_⟩
         cases m with
         | zero=>
           simp at hm
           subst hm
           simp only at hi
           omega
         | succ m=>
           have:=n2 m q' (by simpa using hm)
           omega
        ·cases he
       ·cases he
theorem fill_seq {n:Nat}:∀ {qs:List (Nat×Value)} {j:Nat} {CS:Array Value},(∀ m q,qs[m]?=some q→q.1=j+m)→(∀ q∈qs,q.2.cells.size=n)→CS.size=(j+qs.length)*n→
  ∃ CS',Instr.fill (fun i=>some (i*n,n)) CS qs=some CS'∧CS'.toList=CS.toList.take (j*n)++(qs.map fun q=>q.2.cells.toList).flatten
 | [],j,CS,_,_,hs=>by
  refine ⟨CS,rfl,?_⟩
  have:CS.toList.length=j*n:=by simpa using hs
  simp [List.take_of_length_le (Nat.le_of_eq this)]
 | q::qs,j,CS,hi,hn,hs=>by
   have h0:=hi 0 q rfl
   have hq:=hn q List.mem_cons_self
   have hm:(j+(qs.length+1))*n=j*n+n+qs.length*n:=by rw [←Nat.add_assoc,Nat.add_mul,Nat.add_mul,Nat.one_mul];omega
   have hsz:CS.size=j*n+n+qs.length*n:=by rw [hs,List.length_cons,hm]
   have hfit:j*n+q.2.cells.size≤CS.size:=by omega
   have hone:=fill_one hfit
   have hcl:CS.toList.length=CS.size:=Array.length_toList
   have hs1:(q.2.cells.zipIdx.foldl (fun cs (x:Value×Nat)=>cs.setIfInBounds (j*n+x.2) x.1) CS).size=(j+1+qs.length)*n:=by
    have:=congrArg List.length hone
    rw [Array.length_toList] at this
    rw [this]
    have hvl:q.2.cells.toList.length=q.2.cells.size:=Array.length_toList
    simp only [List.length_append,List.length_take,List.length_drop]
    rw [show j+1+qs.length=j+(qs.length+1) by omega,hm]
    omega
   obtain ⟨CS',g1,g2⟩:=fill_seq (qs:=qs) (j:=j+1) (fun m q' hq'=>by
    have:=hi (m+1) q' (by simpa using hq')
    omega) (fun q' hq'=>hn q' (List.mem_cons_of_mem _ hq')) hs1
   refine ⟨CS',?_,?_⟩
   ·have hp:q.1=j:=by omega
    simp only [Instr.fill,hp,hq]
    have hno:¬ ((n≠n || decide (j*n+n > CS.size))=true):=by simp;omega
    rw [if_neg hno]
    exact g1
   ·rw [g2,hone]
    have e1:((j+1)*n)=j*n+n:=by rw [Nat.add_mul,Nat.one_mul]
    rw [e1]
    have hvl:q.2.cells.toList.length=n:=by rw [Array.length_toList];exact hq
    rw [List.take_append_of_le_length (by simp only [List.length_append,List.length_take];omega)]
    rw [List.take_of_length_le (by simp only [List.length_append,List.length_take];omega)]
    simp
theorem new_row (h:OR fz old ρ w objs) {u e:Nat} (hu:oget objs u=none) {t:Ty} {xs:List t.den} {css:List (List Value)} (hk:All2 (fun x cs=>t.K fz w x cs) xs css) (cells:Array Value) {cap:Nat} (hcap:xs.length≤cap) (hm:cap≤maxLen) (hsz:cells.size=cap*t.sz)
  (htake:cells.toList.take (xs.length*t.sz)=css.flatten) :
  OR fz old (upd ρ u (.slice (some ⟨w.heap.size,0,none⟩) xs.length cap)) (w.alloc (.cells cells e)) (oset u (.row e t xs) objs)∧Ext objs ρ (oset u (.row e t xs) objs) (upd ρ u (.slice (some ⟨w.heap.size,0,none⟩) xs.length cap))∧
   AVR fz (upd ρ u (.slice (some ⟨w.heap.size,0,none⟩) xs.length cap)) (w.alloc (.cells cells e)) (oset u (.row e t xs) objs) (.c (.own u)) (.slice (some ⟨w.heap.size,0,none⟩) xs.length cap):=by
 have hf:=qbf h (.cells cells e)
 refine ⟨h.new hu hf (qcf h _) (qd6 h _) (fun g _ hg i hi=>?_) ?_,Ext.new hu _ _,?_⟩
 ·simp [blkV] at hg
  have:=(h.blk_lt hi).1
  omega
 ·refine ⟨css,hk.imp fun _ _ hx=>Ty.K_mono hf.up hf.fzw _ _ _ hx,?_,fun g hg=>?_⟩
  ·have hlen:css.flatten.length=xs.length*t.sz:=by
    have h1:=congrArg List.length htake
    have h2:cells.toList.length=cells.size:=Array.length_toList
    have h3:xs.length*t.sz≤cap*t.sz:=Nat.mul_le_mul_right _ hcap
    rw [List.length_take] at h1
    omega
   exact ⟨hlen,.inr ⟨w.heap.size,cap,cells,rfl,Nat.zero_le _,heap_alloc_new w _,hcap,hm,hsz,htake⟩⟩
  ·simp [Value.ownBlock] at hg
   subst hg
   exact ⟨fun hk=>by have:=h.fzlt _ hk;omega,fun hk=>by have:=h.oldlt _ hk;omega⟩
 ·simp only [AVR,CVR,qam]
  rw [qa9]
theorem qda {u i:Nat} (h:oget objs u=none):oget (freeze1 i objs) u=none:=by
 by_cases hi:i=u
 ·subst hi
  unfold freeze1
  rw [h]
  exact h
 ·rw [qdy hi,h]
theorem qaz {u:Nat}:∀ (l:List Nat) {objs:Objs},oget objs u=none→oget (freezeAll l objs) u=none
 | [],_,h=>h
 | i::l,objs,h=>qaz l (objs:=freeze1 i objs) (qda h)
theorem qfh {t:Ty} {u:Nat}:∀ {ps:List (Nat×AV)} {j:Nat} {objs objs':Objs} {xs:List t.den},oget objs u=none→elems t ps j objs=some (xs,objs')→oget objs' u=none
 | [],j,objs,objs',xs,h,he=>by
  simp only [elems,Option.some.injEq,Prod.mk.injEq] at he
  rw [←he.2];exact h
 | (i,v)::ps,j,objs,objs',xs,h,he=>by
   simp only [elems] at he
   cases hb:Nat.beq i j with
   | false=>simp [hb] at he
   | true=>
     simp only [hb,cond_true] at he
     split at he
     ·rename_i x objs1 hx
      split at he
      ·rename_i xs' objs2 hxs
       cases he
       refine qfh ?_ hxs
       unfold intoElem at hx
       split at hx
       ·split at hx
        ·split at hx
         ·cases hx;exact qaz _ h
         ·cases hx
        ·cases hx
       ·cases hx
      ·cases he
     ·cases he
theorem All2.map_right {α β γ:Type} {R:α→γ→Prop} {f:β→γ}:∀ {l:List α} {m:List β},All2 (fun a b=>R a (f b)) l m→All2 R l (m.map f)
 | [],[],_=>trivial
 | _::l,_::m,h=>⟨h.1,All2.map_right h.2⟩
 | [],_::_,h=>h.elim
 | _::_,[],h=>h.elim
theorem flat_len {n:Nat}:∀ {css:List (List Value)},(∀ c∈css,c.length=n)→css.flatten.length=css.length*n
 | [],_=>by simp
 | d::css,h=>by
   have:=flat_len (css:=css) fun c hc=>h c (List.mem_cons_of_mem _ hc)
   simp only [List.flatten_cons,List.length_append,h d List.mem_cons_self,this,List.length_cons,Nat.add_mul]
   omega
theorem tiTy (hT:TOk P τ) {e:Nat} {te:TI} (h:τ e=some te) {ty:Ty} (hty:te.ty=some ty):ty.sz=te.size∧0<te.size∧0<te.bytes∧implode ty te.zero=some (ty.dflt,[]):=(hT e te h).ty ty hty
theorem qfd (hT:TOk P τ) (h:OR fz old ρ w objs) {u t len:Nat} {ps:List (Nat×AV)} {qs:Array (Nat×Value)} {k:AV→Objs→Option R} (hq:All2 (fun p q=>p.1=q.1∧AVR fz ρ w objs p.2 q.2) ps qs.toList) (hk:abuildSlice τ u t len ps objs k=some r) :
  ∃ V w',(Instr.buildSlice t len qs).run P w=.ok V w'∧Lands old fz ρ w objs k r V w'∧∃ c,w'=w.alloc c:=by
 unfold abuildSlice at hk
 split at hk
 ·rename_i e a1 a2 a3 a4 a5 a6 a7 ht
  have hu:=(hT t _ ht).kind
  simp only at hu
  split at hk
  ·rename_i ty hty
   cases hte:τ e with
   | none=>simp [hte] at hty
   | some te=>
     simp only [hte,Option.bind_some] at hty
     obtain ⟨t1,t2,t3,t4⟩:=tiTy hT hte hty
     cases hc:(Nat.beq len ps.length && Nat.ble (len*ty.sz) 16777216) with
     | false=>simp [hc] at hk
     | true=>
       simp only [hc,cond_true] at hk
       simp only [Bool.and_eq_true] at hc
       have hlen:=Nat.eq_of_beq_eq_true hc.1
       have hle:=Nat.le_of_ble_eq_true hc.2
       split at hk
       ·rename_i xs objs1 hxs
        obtain ⟨fz1,h1,e1,f1,k1,n1⟩:=elems_ok h hq hxs
        obtain ⟨hun,hk⟩:=qav hk
        have hun1:oget objs1 u=none:=qfh hun hxs
        have hxl:=k1.length
        have hql:=hq.length
        have hqs:qs.toList.length=len:=by omega
        have hqn:∀ q∈qs.toList,q.2.cells.size=ty.sz:=by
         intro q hqm
         obtain ⟨m,hm⟩:=List.getElem?_of_mem hqm
         have:m<xs.length:=by rw [hxl];exact (List.getElem?_eq_some_iff.1 hm).1
         obtain ⟨q',hq',hK⟩:=k1.get m _ (List.getElem?_eq_getElem this)
         rw [hm] at hq'
         cases hq'
         have:=Ty.K_len _ _ _ _ _ hK
         simpa using this
        have key:∀ Z:Array Value,∃ CS',Instr.fill (fun i=>some (i*ty.sz,ty.sz)) ((Array.range (len*ty.sz)).map (Z[· % Z.size]!)) qs.toList=some CS'∧CS'.toList=(qs.toList.map fun q=>q.2.cells.toList).flatten:=by
         intro Z
         obtain ⟨CS',g1,g2⟩:=fill_seq (n:=ty.sz) (qs:=qs.toList) (j:=0) (CS:=(Array.range (len*ty.sz)).map (Z[· % Z.size]!)) n1 hqn (by simp;rw [←hqs,Array.length_toList])
         exact ⟨CS',g1,by rw [g2];simp⟩
        obtain ⟨z,hz,_⟩:=(hT e te hte).run_zero
        have hsize:∀ w:World,(sizeOf e).run P w=.ok ty.sz w:=fun w=>by rw [(hT e te hte).run_size,t1]
        obtain ⟨CS',g1,g2⟩:=key (if len*ty.sz=0 then #[] else z.cells)
        have hall:All2 (fun x cs=>ty.K fz1 w x cs) xs (qs.toList.map fun q=>q.2.cells.toList):=All2.map_right k1
        have hCSl:CS'.size=len*ty.sz:=by
         have h5:=congrArg List.length g2
         rw [Array.length_toList,flat_len (qba hall),List.length_map,hqs] at h5
         exact h5
        obtain ⟨r1,r2,r3⟩:=new_row h1 hun1 hall CS' (cap:=len) (e:=e) (by omega) (by have:len≤len*ty.sz:=Nat.le_mul_of_pos_right _ ty.sz_pos;simp only [maxLen];omega) hCSl (by
         rw [←g2,List.take_of_length_le]
         have h6:CS'.toList.length=CS'.size:=Array.length_toList
         rw [h6,hCSl,hxl,hqs]
         exact Nat.le_refl _)
        refine ⟨_,_,?_,⟨_,_,fz1,_,hk,r3,r1,e1.trans r2,f1.trans (qbf h1 _)⟩,_,rfl⟩
        have hno:¬ (len*ty.sz > 2 ^ 24):=by simp;omega
        simp only [Instr.buildSlice,Sem.run_bind,run_underlying hu,Result.andThen_ok,hsize,Sem.run_ite,if_neg hno,Sem.run_pure]
        by_cases h0:len*ty.sz=0
        ·rw [if_pos h0] at g1
         simp only [if_pos h0,Result.andThen_ok,g1]
         simp [newRow]
         omega
        ·rw [if_neg h0] at g1
         simp only [if_neg h0,Sem.run_bind,hz,Result.andThen_ok,Sem.run_pure,g1]
         simp [newRow]
         omega
       ·cases hk
  ·cases hk
 ·cases hk
theorem wrap_id {n:Int} (h1:-9223372036854775808≤n) (h2:n≤9223372036854775807):IntKind.i64.wrap n=n:=by
 have e1:(2:Int) ^ IntKind.i64.bits=18446744073709551616:=by decide
 have e2:(2:Int) ^ (IntKind.i64.bits-1)=9223372036854775808:=by decide
 have e3:IntKind.i64.signed=true:=rfl
 simp only [IntKind.wrap,e1,e2,e3,Bool.true_and,decide_eq_true_eq]
 split<;>omega
theorem run_askRoom (n:Nat):(askRoom n).run P w=.ok () w:=by
 unfold askRoom
 split
 ·simp [mark,Sem.run]
 ·rfl
theorem amake_ok (hB:B.ok) (hT:TOk P τ) (h:OR fz old ρ w objs) {u t:Nat} {l c:AV} {L C:Value} {k:AV→Objs→Option R} (hl:AVR fz ρ w objs l L) (hc:AVR fz ρ w objs c C) (hk:amake τ B u t l c objs k=some r) :
  ∃ V w',(Instr.makeSlice t L C).run P w=.ok V w'∧Lands old fz ρ w objs k r V w':=by
 unfold amake at hk
 split at hk
 ·rename_i e a1 a2 a3 a4 a5 a6 a7 n m ht
  have hu:=(hT t _ ht).kind
  simp only at hu
  have hL:L=.int .i64 n:=hl
  have hC:C=.int .i64 m:=hc
  subst hL;subst hC
  split at hk
  ·rename_i ek b2 ag z2 cty2 ty eqf hte
   obtain ⟨t1,t2,t3,t4⟩:=tiTy hT hte (ty:=ty) rfl
   simp only at t1 t2 t3 t4
   cases hb:cond (B.eq n m) (cond (B.le 0 n) (B.lim n.toNat b2) false) false with
   | false=>rw [hb] at hk;cases hk
   | true=>
     rw [hb] at hk
     simp only [cond_true] at hk
     have hnm:n=m:=by
      cases he:B.eq n m with
      | false=>simp [he] at hb
      | true=>rw [hB.eq] at he;simpa using he
     subst hnm
     have hnn:0≤n:=by
      cases he:B.eq n n with
      | false=>simp [he] at hb
      | true=>
        simp only [he,cond_true,Ops.le,hB.lt] at hb
        by_cases c0:n<0
        ·simp [c0] at hb
        ·omega
     have hlim:n.toNat*b2≤140737488355328:=by
      cases he:B.eq n n with
      | false=>simp [he] at hb
      | true=>
        simp only [he,cond_true,Ops.le,hB.lt] at hb
        have c0:¬ n<0:=by omega
        simp [c0,hB.lim] at hb
        exact hb
     obtain ⟨hun,hk⟩:=qav hk
     obtain ⟨i,z,hi,hs,hby,hz,hzr,hzo⟩:=(hT e _ hte).info
     simp only at hs hby
     have hzs:z.cells.size=1:=by
      have:=hzr.length
      have h2:=(hT e _ hte).zlen
      simp at this h2
      omega
     obtain ⟨c0,c1,hcc,hK0,hrest⟩:=qa7 (fz:=fz) (ρ:=ρ) (w:=w) (objs:=objs) ty _ _ _ z.cells.toList t4 (hzr.imp fun _ _ hc=>CVR.of_zero hc)
     have hc1:c1=[]:=by
      cases c1 with
      | nil=>rfl
      | cons=>exact hrest.elim
     subst hc1
     rw [List.append_nil] at hcc
     have hnle:n.toNat≤140737488355328:=Nat.le_trans (Nat.le_mul_of_pos_right _ t3) hlim
     let CS:Array Value:=(Array.range (n.toNat*1)).map (z.cells[· % z.cells.size]!)
     have hCS:CS.toList=(List.replicate n.toNat z.cells.toList).flatten:=by
      simp only [CS,Nat.mul_one,hzs,Nat.mod_one]
      obtain ⟨z0,hz0⟩:∃ z0,z.cells=#[z0]:=by
       have:z.cells.toList.length=1:=by rw [Array.length_toList];exact hzs
       cases hzl:z.cells.toList with
       | nil=>rw [hzl] at this;cases this
       | cons x rest=>
         rw [hzl] at this
         have hr:rest=[]:=by cases rest with
          | nil=>rfl
          | cons=>simp at this
         subst hr
         exact ⟨x,by apply Array.ext';rw [hzl]⟩
      rw [hz0]
      simp only [Array.toList_map,Array.toList_range]
      generalize n.toNat=q
      induction q with
      | zero=>rfl
      | succ q ih=>rw [List.range_succ_eq_map,List.replicate_succ];simp at ih ⊢;exact ih
     have hall:All2 (fun x cs=>ty.K fz w x cs) (List.replicate n.toNat ty.dflt) (List.replicate n.toNat z.cells.toList):=All2.replicate (by rw [hcc];exact hK0) _
     have hsz1:ty.sz=1:=t1
     have hCSz:CS.size=n.toNat*ty.sz:=by
      rw [hsz1]
      simp only [CS,Array.size_map,Array.size_range]
     have hti:(typeInfo e).run P w=.ok i w:=by simp [typeInfo,hi]
     obtain ⟨r1,r2,r3⟩:=new_row h hun hall CS (cap:=n.toNat) (e:=e) (by simp) (by simp only [maxLen];omega) hCSz (by
      rw [←hCS,List.take_of_length_le]
      rw [Array.length_toList,hCSz]
      simp)
     refine ⟨_,_,?_,_,_,fz,_,hk,r3,r1,r2,qbf h _⟩
     have hw:IntKind.i64.wrap n=n:=wrap_id (by omega) (by omega)
     have hbig:(b2:Int)*n≤140737488355328:=by
      have h7:((n.toNat*b2:Nat):Int)≤((140737488355328:Nat):Int):=Int.ofNat_le.2 hlim
      rw [Int.natCast_mul,Int.toNat_of_nonneg hnn,Int.mul_comm] at h7
      exact h7
     have h8:decide (n<0)=false:=decide_eq_false (by omega)
     have h9:decide ((b2:Int)*n > 2 ^ 48)=false:=by
      have e48:(2:Int) ^ 48=281474976710656:=by decide
      rw [e48]
      exact decide_eq_false (by omega)
     have h10:decide (n > n)=false:=decide_eq_false (by omega)
     simp only [Instr.makeSlice,Sem.run_bind,run_underlying hu,Result.andThen_ok,asInt,asIntOf,Sem.run_pure,hti,hw,hby,h8,h9,h10,Bool.or_self,Bool.or_false,Bool.false_eq_true,if_false,run_askRoom,(hT e _ hte).run_size]
     have hzero:(zeroValue e).run P w=.ok z w:=by simp [zeroValue,typeInfo,hi,hz]
     have hrl:(List.replicate n.toNat ty.dflt).length=n.toNat:=List.length_replicate
     rw [hrl]
     by_cases h0:n.toNat*1=0
     ·have h00:n.toNat=0:=by omega
      have hCS0:CS=#[]:=by
       apply Array.ext'
       simp [CS,h00]
      have hz0:(Array.range 0)=#[]:=by
       apply Array.ext'
       simp
      rw [if_pos h0,hCS0]
      simp [newRow,h00,hz0]
     ·rw [if_neg h0]
      simp only [Sem.run_bind,hzero,Result.andThen_ok,Sem.run_pure]
      simp [newRow,CS]
  ·cases hk
 ·cases hk
def RdRow (fz:Nat→Prop) (w:World) (t:Ty) (ys:List t.den) (X:Value):Prop:=
 ∃ A c,X=.slice A ys.length c∧(ys=[]∨∃ ad css,A=some ad∧All2 (fun y cs=>t.K fz w y cs) ys css∧AtCells w ad css.flatten)
theorem list_cells {e:Nat} {t:Ty} {ys:List t.den} {X:Value} (h:Ty.K fz w (.list e t) ys [X]):∃ A c,X=.slice A ys.length c∧(ys=[]∨∃ ad css,A=some ad∧All2 (fun y cs=>t.K fz w y cs) ys css∧AtCells w ad css.flatten):=by
 obtain ⟨A,c,hX,hl,hm,hr⟩:=h
 simp only [List.cons.injEq,and_true] at hX
 refine ⟨A,c,hX,?_⟩
 rcases hr with hr | ⟨ad,rfl,_,hx⟩
 ·exact .inl hr
 ·refine .inr ⟨ad,?_⟩
  have key:∀ (zs:List t.den) (off:Nat),(∀ j x,zs[j]?=some x→∃ cs,t.K fz w x cs∧AtCells w (ad.add ((off+j)*t.sz)) cs)→∃ css,All2 (fun y cs=>t.K fz w y cs) zs css∧AtCells w (ad.add (off*t.sz)) css.flatten:=by
   intro zs
   induction zs with
   | nil=>exact fun off _=>⟨[],trivial,fun i u hu=>by simp at hu⟩
   | cons z zs ih=>
     intro off hz
     obtain ⟨c0,hk0,ha0⟩:=hz 0 z rfl
     obtain ⟨css,hk,ha⟩:=ih (off+1) (fun j x hj=>by
      have:=hz (j+1) x (by simpa using hj)
      rwa [show off+(j+1)=off+1+j by omega] at this)
     refine ⟨c0::css,⟨hk0,hk⟩,fun i u hu=>?_⟩
     have hl0:=Ty.K_len fz w t z c0 hk0
     simp only [List.flatten_cons,List.getElem?_append] at hu
     split at hu
     ·have:=ha0 i u hu
      rwa [Nat.add_zero] at this
     ·have:=ha (i-c0.length) u hu
      rw [Addr.add_add] at this ⊢
      rwa [show (off+1)*t.sz+(i-c0.length)=off*t.sz+i by rw [Nat.add_mul,Nat.one_mul];omega] at this
  obtain ⟨css,h1,h2⟩:=key ys 0 (by simpa using hx)
  refine ⟨css,rfl,h1,?_⟩
  rw [Nat.zero_mul,Addr.add_zero'] at h2
  exact h2
theorem all2_one {t:Ty} {xs:List t.den} {css:List (List Value)} (h:All2 (fun x cs=>t.K fz w x cs) xs css):∀ u∈css.flatten,u.oneCell'=true:=by
 induction xs generalizing css with
 | nil=>cases css with
   | nil=>simp
   | cons=>exact h.elim
 | cons x xs ih=>cases css with
   | nil=>exact h.elim
   | cons d css=>
     intro u hu
     simp only [List.flatten_cons,List.mem_append] at hu
     rcases hu with hu | hu
     ·exact Ty.K_one fz w t x _ h.1 u hu
     ·exact ih h.2 u hu
theorem qbe (hT:TOk P τ) {t e ty':Nat} {te:TI} (hu:P.underlying t=some (.slice e)) (hte:τ e=some te) {ty:Ty} (hty:te.ty=some ty) {V X:Value} {xs ys:List ty.den} {css:List (List Value)}
  (hk:All2 (fun x cs=>ty.K fz w x cs) xs css) (hown:w.ownsRow 0 e ty.sz V xs.length css.flatten) (hX:RdRow fz w ty ys X) (hlim:(xs.length+ys.length)*te.bytes≤140737488355328) :
  ∃ V' w',(Builtin.append_ #[t,t] ty' #[V,X]).run P w=.ok V' w'∧∃ css',All2 (fun x cs=>ty.K fz w x cs) (xs++ys) css'∧w'.ownsRow 0 e ty.sz V' (xs++ys).length css'.flatten∧w.grownBy w' V.ownBlock∧(V'.ownBlock=V.ownBlock∨∃ b,V'.ownBlock=some b∧w.heap.size≤b):=by
 obtain ⟨t1,t2,t3,t4⟩:=tiTy hT hte hty
 obtain ⟨i,z,hi,hs,hby,hz,hzr,hzo⟩:=(hT e te hte).info
 have hzs:z.cells.size=ty.sz:=by
  have:=hzr.length
  have h2:=(hT e te hte).zlen
  rw [Array.length_toList] at this
  omega
 obtain ⟨A,c,rfl,hr⟩:=hX
 have hle:xs.length+ys.length≤140737488355328:=Nat.le_trans (Nat.le_mul_of_pos_right _ t3) hlim
 rcases hr with hr | ⟨ad,css2,rfl,hk2,hat⟩
 ·subst hr
  refine ⟨V,w,?_,css,by simpa using hk,by simpa using hown,⟨rfl,rfl,rfl,Nat.le_refl _,fun _ _ _=>rfl⟩,.inl rfl⟩
  have hfc:∀ size:Nat,(Builtin.firstCells size 0 (.slice A 0 c)).run P w=.ok #[] w:=by
   intro size
   cases A with
   | none=>rfl
   | some a=>simp [Builtin.firstCells,loadCells,loadCellsFrom]
  rcases hown.2 with ⟨rfl,h0⟩ | ⟨g,cap,cur,rfl,_,hh,hnc,_⟩
  ·simp [Builtin.append_,run_underlying hu,sizeOf,typeInfo,hi,Builtin.lenOf,hfc]
  ·simp [Builtin.append_,run_underlying hu,sizeOf,typeInfo,hi,Builtin.lenOf,hfc,hnc,storeCells]
 ·have hlen2:css2.flatten.length=ys.length*ty.sz:=by rw [flat_len (qba hk2),←hk2.length]
  obtain ⟨V',w',h1,h2,h3,_,h4⟩:=run_append_own_at (P:=P) w 0 t ty' e i z ty.sz te.bytes hu hi hz (by rw [hs,t1]) hby hzs ty.sz_pos V xs.length css.flatten hown ad ys.length c css2.flatten hlen2 hat (all2_one hk2) (by simp only [maxLen];omega) hlim (Nat.zero_le _)
  refine ⟨V',w',h1,css++css2,All2.append hk hk2,by rw [List.flatten_append,List.length_append];exact h2,h3,?_⟩
  rcases h4 with h4 | h4
  ·exact .inl h4
  ·exact .inr ⟨_,h4,Nat.le_refl _⟩
theorem run_append_t0 (hT:TOk P τ) {t e ty':Nat} {te:TI} (hu:P.underlying t=some (.slice e)) (hte:τ e=some te) {ty:Ty} (hty:te.ty=some ty) {A:Option Addr} {X:Value}
  (hX:RdRow fz w ty [] X):(Builtin.append_ #[t,t] ty' #[.slice A 0 0,X]).run P w=.ok (.slice A 0 0) w:=by
 obtain ⟨i,z,hi,hs,hby,hz,hzr,hzo⟩:=(hT e te hte).info
 obtain ⟨A',c,hV,_⟩:=hX
 simp only [List.length_nil] at hV
 subst hV
 have hfc:∀ size:Nat,(Builtin.firstCells size 0 (.slice A' 0 c)).run P w=.ok #[] w:=by
  intro size
  cases A' with
  | none=>rfl
  | some a=>simp [Builtin.firstCells,loadCells,loadCellsFrom]
 cases A with
 | none=>simp [Builtin.append_,run_underlying hu,sizeOf,typeInfo,hi,Builtin.lenOf,hfc]
 | some a=>simp [Builtin.append_,run_underlying hu,sizeOf,typeInfo,hi,Builtin.lenOf,hfc,storeCells]
theorem qb4 {n:Nat}:∀ {css:List (List Value)} (h:Nat),(∀ c∈css,c.length=n)→(css.take h).flatten=css.flatten.take (h*n)
 | [],h,_=>by simp
 | d::css,0,_=>by simp
 | d::css,h+1,hl=>by
   have hd:=hl d List.mem_cons_self
   simp only [List.take_succ_cons,List.flatten_cons,qb4 h fun c hc=>hl c (List.mem_cons_of_mem _ hc)]
   rw [show (h+1)*n=d.length+h*n by rw [hd,Nat.add_mul,Nat.one_mul];omega,List.take_length_add_append]
theorem qb0 (hT:TOk P τ) {t e ty':Nat} {te:TI} (hu:P.underlying t=some (.slice e)) (hte:τ e=some te) {ty:Ty} (hty:te.ty=some ty) {ad0:Addr} {X:Value} {xs ys:List ty.den} {css:List (List Value)}
  (hk:All2 (fun x cs=>ty.K fz w x cs) xs css) (holds:∀ j u,css.flatten[j]?=some u→w.cell? (ad0.add j)=some u) (hX:RdRow fz w ty ys X) (hne:0<ys.length) (hlim:(xs.length+ys.length)*te.bytes≤140737488355328) (row:Option Nat) :
  ∃ V' w',(Builtin.append_ #[t,t] ty' #[.slice (some ad0) xs.length xs.length,X]).run P w=.ok V' w'∧∃ css',All2 (fun x cs=>ty.K fz w x cs) (xs++ys) css'∧w'.ownsRow 0 e ty.sz V' (xs++ys).length css'.flatten∧w.grownBy w' row∧(∃ b,V'.ownBlock=some b∧w.heap.size≤b):=by
 obtain ⟨t1,t2,t3,t4⟩:=tiTy hT hte hty
 obtain ⟨i,z,hi,hs,hby,hz,hzr,hzo⟩:=(hT e te hte).info
 have hzs:z.cells.size=ty.sz:=by
  have:=hzr.length
  have h2:=(hT e te hte).zlen
  rw [Array.length_toList] at this
  omega
 obtain ⟨A,c,rfl,hr⟩:=hX
 have hle:xs.length+ys.length≤140737488355328:=Nat.le_trans (Nat.le_mul_of_pos_right _ t3) hlim
 rcases hr with hr | ⟨ad,css2,rfl,hk2,hat⟩
 ·subst hr;simp at hne
 ·have hlen2:css2.flatten.length=ys.length*ty.sz:=by rw [flat_len (qba hk2),←hk2.length]
  have hlen1:css.flatten.length=xs.length*ty.sz:=by rw [flat_len (qba hk),←hk.length]
  have hsz:i.size=ty.sz:=by rw [hs,t1]
  have hr:=run_append_grow (P:=P) w t ty' e i z hu hi hz ad0 xs.length xs.length css.flatten (by rw [hsz];exact hlen1) holds ad ys.length c css2.flatten (by rw [hsz];exact hlen2) hat (by omega) (by omega) (by rw [hby];exact growslice_fits (by omega) hlim)
  refine ⟨_,_,hr,css++css2,All2.append hk hk2,?_,⟨rfl,rfl,rfl,by simp,fun k hk _=>heap_alloc_old w.drew _ k hk⟩,w.heap.size,rfl,Nat.le_refl _⟩
  have hge:=grownCap_ge w (xs.length+ys.length) xs.length e
  have hcm:grownCap w (xs.length+ys.length) xs.length e≤maxLen:=grownCap_le_maxLen w (xs.length+ys.length) xs.length e (by simp only [maxLen];omega)
  have hlen:(css.flatten++css2.flatten).length=(xs.length+ys.length)*ty.sz:=by rw [List.length_append,hlen1,hlen2,Nat.add_mul]
  rw [List.flatten_append,List.length_append]
  refine ⟨hlen,.inr ⟨w.heap.size,_,_,rfl,Nat.zero_le _,heap_alloc_new w.drew _,hge,hcm,?_,?_⟩⟩
  ·simp only [Array.size_append,List.size_toArray,size_zeroCells,hzs,hlen1,hlen2,←Nat.add_mul]
   congr 1
   omega
  ·simp only [Array.toList_append,List.append_assoc]
   rw [←List.append_assoc,←hlen]
   exact List.take_left
theorem qbj (h:OR fz old ρ w objs) {fz1:Nat→Prop} {objs1 objs2:Objs} (h1:OR fz1 old ρ w objs1) (e1:Ext objs ρ objs1 ρ) (f1:Frm fz old w fz1 w) {u e:Nat} {t:Ty} {zs:List t.den} {V V':Value} {w':World}
  (hu:oget objs2 u=none) (h2:OR fz1 old ρ w objs2) (e2:Ext objs1 ρ objs2 ρ) (hg:w.grownBy w' V.ownBlock) (hnot:∀ g,V.ownBlock=some g→¬ fz1 g∧¬ old g∧g<w.heap.size∧∀ i,blkO objs2 ρ i≠some g)
  (hV':V'.ownBlock=V.ownBlock∨∃ b,V'.ownBlock=some b∧w.heap.size≤b) {css:List (List Value)} (hk:All2 (fun x cs=>t.K fz1 w x cs) zs css) (hown:w'.ownsRow 0 e t.sz V' zs.length css.flatten)
  {k:AV→Objs→Option R} (hkr:k (.c (.own u)) (oset u (.row e t zs) objs2)=some r):Lands old fz ρ w objs k r V' w':=by
 have hf:Frm fz1 old w fz1 w':=⟨fun _ h=>h,fun _ _ h=>h,fun k hk=>hg.block k (h1.fzlt k hk) (fun he=>(hnot k he.symm).1 hk),fun k hk=>hg.block k (h1.oldlt k hk) (fun he=>(hnot k he.symm).2.1 hk),hg.size,hg.os,hg.tape,hg.output⟩
 have hstay:Stay objs2 ρ w fz1 w':=fun i g hi=>⟨hg.block g (h2.blk_lt hi).1 (fun he=>(hnot g he.symm).2.2.2 i hi),(h2.blk_lt hi).2.1⟩
 have hblk:∀ g,V'.ownBlock=some g→¬ fz1 g∧¬ old g∧∀ i,blkO objs2 ρ i≠some g:=by
  intro g hg'
  rcases hV' with hV' | ⟨b,hb,hle⟩
  ·rw [hV'] at hg'
   obtain ⟨a1,a2,_,a4⟩:=hnot g hg'
   exact ⟨a1,a2,a4⟩
  ·rw [hb] at hg'
   cases hg'
   refine ⟨fun hk=>?_,fun hk=>?_,fun i hi=>?_⟩
   ·have:=h1.fzlt _ hk;omega
   ·have:=h1.oldlt _ hk;omega
   ·have:=(h2.blk_lt hi).1;omega
 have hVs:∃ A n c,V'=.slice A n c:=by
  rcases hown.2 with ⟨h3,_⟩ | ⟨_,_,_,h3,_⟩
  ·exact ⟨_,_,_,h3⟩
  ·exact ⟨_,_,_,h3⟩
 obtain ⟨A,n,c,rfl⟩:=hVs
 refine ⟨_,_,fz1,upd ρ u (.slice A n c),hkr,?_,?_,(e1.trans e2).trans (Ext.new hu _ _),f1.trans hf⟩
 ·simp only [AVR,CVR,qam]
  rw [qa9]
 ·refine h2.new hu hf hstay (fun k hk=>Nat.lt_of_lt_of_le (h1.fzlt k hk) hg.size) (fun g _ hg' i=>(hblk g (by rw [qay];exact hg')).2.2 i) ?_
  exact ⟨css,hk.imp fun _ _ hx=>Ty.K_mono hf.up hf.fzw _ _ _ hx,hown,fun g hg'=>⟨(hblk g hg').1,(hblk g hg').2.1⟩⟩
theorem qbg (h:OR fz old ρ w objs) {fz1:Nat→Prop} {objs1:Objs} (h1:OR fz1 old ρ w objs1) (e1:Ext objs ρ objs1 ρ) (f1:Frm fz old w fz1 w) {u i e:Nat} {t:Ty} {xs zs:List t.den} {V':Value} {w':World}
  (hu:oget objs u=none) (ho1:oget objs1 i=some (.row e t xs)) (hg:w.grownBy w' (ρ i).ownBlock)
  (hV':V'.ownBlock=(ρ i).ownBlock∨∃ b,V'.ownBlock=some b∧w.heap.size≤b) {css:List (List Value)} (hk:All2 (fun x cs=>t.K fz1 w x cs) zs css) (hown:w'.ownsRow 0 e t.sz V' zs.length css.flatten)
  {k:AV→Objs→Option R} (hun1:oget objs1 u=none) (hkr:k (.c (.own u)) (oset u (.row e t zs) (oset i .dead objs1))=some r):Lands old fz ρ w objs k r V' w':=by
 have hne:i≠u:=by rintro rfl;rw [ho1] at hun1;cases hun1
 have h2:OR fz1 old ρ w (oset i .dead objs1):=h1.turn ho1 (.inl rfl) (Frm.refl _ _ _) (fun j _ g hg'=>⟨rfl,(h1.blk_lt hg').2.1⟩) h1.fzlt trivial
 have e2:Ext objs1 ρ (oset i .dead objs1) ρ:=Ext.turn ho1 (.inl rfl)
 have hVi:∃ A n c,ρ i=.slice A n c:=by
  obtain ⟨_,_,ho,_⟩:=h1.obj i _ ho1
  rcases ho.2 with ⟨h3,_⟩ | ⟨_,_,_,h3,_⟩
  ·exact ⟨_,_,_,h3⟩
  ·exact ⟨_,_,_,h3⟩
 refine qbj h h1 e1 f1 (by rw [qap _ _ hne];exact hun1) h2 e2 hg (fun g hg'=>?_) hV' hk hown hkr
 obtain ⟨A,n,c,hVi⟩:=hVi
 have hb:blkO objs1 ρ i=some g:=by
  rw [qao ho1,hVi,←qay,←hVi]
  simpa [Obj.live] using hg'
 refine ⟨(h1.blk_lt hb).2.1,(h1.blk_lt hb).2.2,(h1.blk_lt hb).1,fun j hj=>?_⟩
 by_cases hji:j=i
 ·subst hji
  rw [qao (qam _ _ _)] at hj
  simp [Obj.live] at hj
 ·have:blkO (oset i .dead objs1) ρ j=blkO objs1 ρ j:=by
   unfold blkO
   rw [qap _ _ (Ne.symm hji)]
  rw [this] at hj
  exact h1.apart i j g (Ne.symm hji) hb hj
theorem app_ok (h:OR fz old ρ w objs) {t:Ty} {e:Nat} {ys:List t.den} {x:AV} {X:Value} (hx:AVR fz ρ w objs x X) (hax:asVal objs x=some (.c (.list e t ys))) :
  ∃ fz1,OR fz1 old ρ w (appObjs t x objs)∧Ext objs ρ (appObjs t x objs) ρ∧Frm fz old w fz1 w∧RdRow fz1 w t ys X:=by
 obtain ⟨fz1,h1,e1,f1,hX,hkeys⟩:=asVal_ok h hx hax
 have hX':RdRow fz1 w t ys X:=list_cells hX
 unfold appObjs
 cases hs:scalarTy t with
 | false=>exact ⟨fz1,h1,e1,f1,hX'⟩
 | true=>
   obtain ⟨A,c,hV,hr⟩:=hX'
   refine ⟨fz,h,Ext.refl _ _,Frm.refl _ _ _,A,c,hV,?_⟩
   rcases hr with hr | ⟨ad,css,hA,hk,hat⟩
   ·exact .inl hr
   ·exact .inr ⟨ad,css,hA,hk.imp fun y cs hy=>Ty.K_scalar t y cs hs hy,hat⟩
theorem oget_app {t:Ty} {x:AV} {i:Nat} (hi:i ∉ keyOf x):oget (appObjs t x objs) i=oget objs i:=by
 unfold appObjs
 cases scalarTy t with
 | true=>rfl
 | false=>exact qbb _ hi
theorem qa0 {t:Ty} {x:AV} {u:Nat} (hu:oget objs u=none):oget (appObjs t x objs) u=none:=by
 unfold appObjs
 cases scalarTy t with
 | true=>exact hu
 | false=>exact qaz _ hu
theorem qfi (hB:B.ok) (hT:TOk P τ) (h:OR fz old ρ w objs) {u t ty':Nat} {s x:AV} {S X:Value} {k:AV→Objs→Option R} (hs:AVR fz ρ w objs s S) (hx:AVR fz ρ w objs x X) (hk:aappend τ B u t s x objs k=some r) :
  ∃ V w',(Builtin.append_ #[t,t] ty' #[S,X]).run P w=.ok V w'∧Lands old fz ρ w objs k r V w':=by
 unfold aappend at hk
 split at hk
 ·rename_i e a1 a2 a3 a4 a5 a6 a7 ht
  have hu:=(hT t _ ht).kind
  simp only at hu
  split at hk
  ·rename_i ek sz2 b ag z2 cty2 ty eqf hte
   split at hk
   ·rename_i e' t' ys hax
    split at hk
    ·rename_i hsame heq
     subst hsame
     simp only at hk
     obtain ⟨fz1,h1,e1,f1,hX⟩:=app_ok h hx hax
     cases hbe:Nat.beq e e' with
     | false=>simp [hbe] at hk
     | true=>
       simp only [hbe,cond_true] at hk
       split at hk
       ·
        have hS:S=.slice none 0 0:=hs
        subst hS
        cases hl:B.lim (([]:List t'.den).length+ys.length) b with
        | false=>rw [hl] at hk;cases hk
        | true=>
          rw [hl] at hk
          simp only [cond_true] at hk
          obtain ⟨hun,hk⟩:=qav hk
          have hlim:(([]:List t'.den).length+ys.length)*b≤140737488355328:=by rw [hB.lim] at hl;simpa using hl
          obtain ⟨V',w',r1,css,r2,r3,r4,r5⟩:=qbe (P:=P) (ty':=ty') hT hu hte (ty:=t') rfl (V:=.slice none 0 0) (xs:=[]) (css:=[]) (fz:=fz1) trivial (World.ownsRow_nil _ _ _ _) hX hlim
          exact ⟨V',w',r1,qbj h h1 e1 f1 (qa0 hun) h1 (Ext.refl _ _) r4 (fun g hg=>by simp [Value.ownBlock] at hg) r5 r2 r3 hk⟩
       ·
        obtain ⟨A,rfl⟩:=hs
        cases hne:B.lt 0 ys.length with
        | false=>
          rw [hne] at hk
          simp only [cond_false] at hk
          have hy:ys=[]:=by
           rw [hB.lt] at hne
           have:¬ ((0:Int)<ys.length):=by simpa using hne
           exact List.eq_nil_of_length_eq_zero (by omega)
          subst hy
          refine ⟨_,_,run_append_t0 (P:=P) (ty':=ty') hT hu hte (ty:=t') rfl hX,_,objs,fz,ρ,hk,?_,h,Ext.refl _ _,Frm.refl _ _ _⟩
          exact ⟨A,rfl⟩
        | true=>
          rw [hne] at hk
          simp only [cond_true] at hk
          have hne':0<ys.length:=by rw [hB.lt] at hne;simpa using hne
          cases hl:B.lim (([]:List t'.den).length+ys.length) b with
          | false=>rw [hl] at hk;cases hk
          | true=>
            rw [hl] at hk
            simp only [cond_true] at hk
            obtain ⟨hun,hk⟩:=qav hk
            have hlim:(([]:List t'.den).length+ys.length)*b≤140737488355328:=by rw [hB.lim] at hl;simpa using hl
            cases A with
            | none=>
              obtain ⟨V',w',r1,css,r2,r3,r4,r5⟩:=qbe (P:=P) (ty':=ty') hT hu hte (ty:=t') rfl (V:=.slice none 0 0) (xs:=[]) (css:=[]) (fz:=fz1) trivial (World.ownsRow_nil _ _ _ _) hX hlim
              exact ⟨V',w',r1,qbj h h1 e1 f1 (qa0 hun) h1 (Ext.refl _ _) r4 (fun g hg=>by simp [Value.ownBlock] at hg) r5 r2 r3 hk⟩
            | some ad0=>
              obtain ⟨V',w',r1,css,r2,r3,r4,r5⟩:=qb0 (P:=P) (ty':=ty') hT hu hte (ty:=t') rfl (ad0:=ad0) (xs:=[]) (css:=[]) (fz:=fz1) trivial (fun j u hj=>by simp at hj) hX hne' hlim none
              exact ⟨V',w',r1,qbj (V:=.slice none 0 0) h h1 e1 f1 (qa0 hun) h1 (Ext.refl _ _) r4 (fun g hg=>by simp [Value.ownBlock] at hg) (.inr r5) r2 r3 hk⟩
       ·rename_i i
        split at hk
        ·rename_i e1' t1 xs ho
         split at hk
         ·rename_i hsame1 heq1
          subst hsame1
          cases hc:(Nat.beq e e1' && !(keyOf x).contains i) with
          | false=>rw [hc] at hk;cases hk
          | true=>
            rw [hc] at hk
            simp only [cond_true] at hk
            simp only [Bool.and_eq_true,Bool.not_eq_true'] at hc
            have hee:=Nat.eq_of_beq_eq_true hc.1
            subst hee
            cases hl:B.lim (xs.length+ys.length) b with
            | false=>rw [hl] at hk;cases hk
            | true=>
              rw [hl] at hk
              simp only [cond_true] at hk
              obtain ⟨hun,hk⟩:=qav hk
              have hlim:(xs.length+ys.length)*b≤140737488355328:=by rw [hB.lim] at hl;simpa using hl
              have hS:S=ρ i:=by simpa [AVR,CVR,ho] using hs
              subst hS
              have ho1:oget (appObjs t1 x objs) i=some (.row e t1 xs):=by
               rw [oget_app (by simpa using hc.2),ho]
              obtain ⟨css0,hk0,hown0,hn0⟩:=h1.obj i _ ho1
              obtain ⟨V',w',r1,css,r2,r3,r4,r5⟩:=qbe (P:=P) (ty':=ty') hT hu hte (ty:=t1) rfl hk0 hown0 hX hlim
              exact ⟨V',w',r1,qbg h h1 e1 f1 hun ho1 r4 r5 r2 r3 (qa0 hun) hk⟩
         ·cases hk
        ·cases hk
       ·rename_i i lo hi tight
        cases hlo:Nat.beq lo 0 with
        | false=>rw [hlo] at hk;cases hk
        | true=>
        rw [hlo] at hk
        simp only [cond_true] at hk
        have hlo0:=Nat.eq_of_beq_eq_true hlo
        subst hlo0
        split at hk
        ·rename_i e1' t1 xs ho
         split at hk
         ·rename_i hsame1 heq1
          subst hsame1
          cases hc:(Nat.beq e e1' && !(keyOf x).contains i) with
          | false=>rw [hc] at hk;cases hk
          | true=>
            rw [hc] at hk
            simp only [cond_true] at hk
            simp only [Bool.and_eq_true,Bool.not_eq_true'] at hc
            have hee:=Nat.eq_of_beq_eq_true hc.1
            subst hee
            have hview:ViewR t1 xs.length (ρ i) 0 hi tight S:=by simpa [AVR,ho] using hs
            have ho1:oget (appObjs t1 x objs) i=some (.row e t1 xs):=by
             rw [oget_app (by simpa using hc.2),ho]
            obtain ⟨css0,hk0,hown0,hn0⟩:=h1.obj i _ ho1
            obtain ⟨v1,v2,A,m',c1,c',hV,hc',v3,hSv⟩:=hview
            have hA:∀ (n:Nat),(if n=0 then A else A.map (·.add (0*t1.sz)))=A:=by
             intro n
             split
             ·rfl
             ·rw [Nat.zero_mul]
              cases A with
              | none=>rfl
              | some a=>simp [Addr.add_zero']
            rw [hA,Nat.sub_zero] at hSv
            rw [Nat.sub_zero] at hc'
            have hkt:All2 (fun x cs=>t1.K fz1 w x cs) (xs.take hi) (css0.take hi):=All2.take hi hk0
            have hlt:(xs.take hi).length=hi:=by simp [List.length_take,Nat.min_eq_left v1]
            have hft:(css0.take hi).flatten=css0.flatten.take (hi*t1.sz):=qb4 hi (qba hk0)
            have hSb:S.ownBlock=(ρ i).ownBlock:=by rw [hSv,hV,qay,qay];cases A<;>rfl
            cases tight with
            | false=>
              simp only [cond_false,Bool.false_eq_true,if_false] at hk hc'
              have hc2:=hc'.symm
              subst hc2
              cases hl:B.lim ((xs.take hi).length+ys.length) b with
              | false=>rw [hl] at hk;cases hk
              | true=>
                rw [hl] at hk
                simp only [cond_true] at hk
                obtain ⟨hun,hk⟩:=qav hk
                have hlim:((xs.take hi).length+ys.length)*b≤140737488355328:=by rw [hB.lim] at hl;simpa using hl
                have hownt:w.ownsRow 0 e t1.sz S (xs.take hi).length (css0.take hi).flatten:=by
                 rw [hlt,hft]
                 rcases hown0.2 with ⟨h3,h4⟩ | ⟨g,cap,cur,h3,h4,h5,h6,h7,h8,h9⟩
                 ·have:hi=0:=by omega
                  subst this
                  rw [hV] at h3
                  cases h3
                  rw [hSv]
                  simpa using World.ownsRow_nil w 0 e t1.sz
                 ·rw [hV] at h3
                  cases h3
                  have h10:hi*t1.sz≤xs.length*t1.sz:=Nat.mul_le_mul_right _ v1
                  refine ⟨?_,.inr ⟨g,c1,cur,hSv,h4,h5,v3,h7,h8,?_⟩⟩
                  ·rw [List.length_take,hown0.1];omega
                  ·rw [←h9,List.take_take,Nat.min_eq_left h10]
                obtain ⟨V',w',r1,css,r2,r3,r4,r5⟩:=qbe (P:=P) (ty':=ty') hT hu hte (ty:=t1) rfl hkt hownt hX hlim
                rw [hSb] at r4 r5
                exact ⟨V',w',r1,qbg h h1 e1 f1 hun ho1 r4 r5 r2 r3 (qa0 hun) hk⟩
            | true=>
              simp only [cond_true,if_true] at hk hc'
              have hc2:=hc'.symm
              subst hc2
              cases hne:B.lt 0 ys.length with
              | false=>rw [hne] at hk;cases hk
              | true=>
              rw [hne] at hk
              simp only [cond_true] at hk
              have hne':0<ys.length:=by rw [hB.lt] at hne;simpa using hne
              cases hl:B.lim ((xs.take hi).length+ys.length) b with
              | false=>rw [hl] at hk;cases hk
              | true=>
                rw [hl] at hk
                simp only [cond_true] at hk
                obtain ⟨hun,hk⟩:=qav hk
                have hlim:((xs.take hi).length+ys.length)*b≤140737488355328:=by rw [hB.lim] at hl;simpa using hl
                cases A with
                | none=>
                  have h0:hi=0:=by
                   rcases hown0.2 with ⟨h3,h4⟩ | ⟨g,cap,cur,h3,_⟩
                   ·omega
                   ·rw [hV] at h3;cases h3
                  subst h0
                  have hownt:w.ownsRow 0 e t1.sz S (xs.take 0).length (css0.take 0).flatten:=by
                   rw [hSv]
                   simpa using World.ownsRow_nil w 0 e t1.sz
                  obtain ⟨V',w',r1,css,r2,r3,r4,r5⟩:=qbe (P:=P) (ty':=ty') hT hu hte (ty:=t1) rfl hkt hownt hX hlim
                  rw [hSb] at r4 r5
                  exact ⟨V',w',r1,qbg h h1 e1 f1 hun ho1 r4 r5 r2 r3 (qa0 hun) hk⟩
                | some ad0=>
                  have holds:∀ j u,(css0.take hi).flatten[j]?=some u→w.cell? (ad0.add j)=some u:=by
                   intro j u hj
                   rcases hown0.2 with ⟨h3,h4⟩ | ⟨g,cap,cur,h3,h4,h5,h6,h7,h8,h9⟩
                   ·rw [hV] at h3;cases h3
                   ·rw [hV] at h3
                    cases h3
                    refine hown0.cells (g:=g) (by rw [hV];rfl) j u ?_
                    rw [hft,List.getElem?_take] at hj
                    split at hj
                    ·exact hj
                    ·cases hj
                  obtain ⟨V',w',r1,css,r2,r3,r4,r5⟩:=qb0 (P:=P) (ty':=ty') hT hu hte (ty:=t1) rfl (ad0:=ad0) hkt holds hX hne' hlim (ρ i).ownBlock
                  rw [hlt] at r1
                  rw [hSv]
                  exact ⟨V',w',r1,qbg h h1 e1 f1 hun ho1 r4 (.inr r5) r2 r3 (qa0 hun) hk⟩
         ·cases hk
        ·cases hk
       ·cases hk
    ·cases hk
   ·cases hk
  ·cases hk
 ·cases hk
theorem flat_drop {n:Nat}:∀ {css:List (List Value)} (h:Nat),(∀ c∈css,c.length=n)→(css.drop h).flatten=css.flatten.drop (h*n)
 | css,0,_=>by simp
 | [],h+1,_=>by simp
 | c::css,h+1,hl=>by
   have h1:=hl c (List.mem_cons_self ..)
   rw [List.drop_succ_cons,flat_drop h fun d hd=>hl d (List.mem_cons_of_mem _ hd),List.flatten_cons,Nat.add_mul,Nat.one_mul,Nat.add_comm (h*n) n,←List.drop_drop,←h1,List.drop_left]
theorem view_rd (h:OR fz old ρ w objs) {i lo hi e:Nat} {t:Ty} {xs:List t.den} {b:Bool} {X:Value} (ho:oget objs i=some (.row e t xs)) (hx:ViewR t xs.length (ρ i) lo hi b X):RdRow fz w t ((xs.drop lo).take (hi-lo)) X:=by
 obtain ⟨css0,hk0,hown0,hn0⟩:=h.obj i _ ho
 obtain ⟨v1,v2,A,m',c1,c',hV,hc',v3,hSv⟩:=hx
 have hl:((xs.drop lo).take (hi-lo)).length=hi-lo:=by simp;omega
 refine ⟨_,_,by rw [hl];exact hSv,?_⟩
 by_cases hlt:lo<hi
 ·right
  have hne:¬ (if b=true then hi else c1)=lo:=by cases b<;>simp<;>omega
  rw [if_neg hne]
  rcases hown0.2 with ⟨h3,h4⟩ | ⟨g,cap,cur,h3,h4,h5,h6,h7,h8,h9⟩
  ·omega
  ·rw [hV] at h3
   cases h3
   have hlen:=qba hk0
   refine ⟨_,(css0.drop lo).take (hi-lo),rfl,All2.take _ (All2.drop _ hk0),fun j u hj=>?_⟩
   have hlen2:∀ c∈css0.drop lo,c.length=t.sz:=fun c hc=>hlen c (List.mem_of_mem_drop hc)
   rw [qb4 _ hlen2,flat_drop _ hlen] at hj
   have hj2:css0.flatten[lo*t.sz+j]?=some u:=by
    rw [List.getElem?_take] at hj
    split at hj
    ·rwa [List.getElem?_drop] at hj
    ·cases hj
   have:=hown0.cells (g:=g) (by rw [hV];rfl) (lo*t.sz+j) u hj2
   rw [Addr.add_add]
   simpa [Addr.add] using this
 ·left
  have:hi-lo=0:=by omega
  rw [this,List.take_zero]
theorem adel_ok (hB:B.ok) (hT:TOk P τ) (h:OR fz old ρ w objs) {u t ty' i hi lo2 hi2:Nat} {b2:Bool} {S X:Value} {k:AV→Objs→Option R} (hs:AVR fz ρ w objs (.view i 0 hi false) S) (hx:AVR fz ρ w objs (.view i lo2 hi2 b2) X) (hk:adel τ B u t i hi lo2 hi2 objs k=some r) :
  ∃ V w',(Builtin.append_ #[t,t] ty' #[S,X]).run P w=.ok V w'∧Lands old fz ρ w objs k r V w':=by
 unfold adel at hk
 split at hk
 ·rename_i e a1 a2 a3 a4 a5 a6 a7 ht
  have hu:=(hT t _ ht).kind
  simp only at hu
  split at hk
  ·rename_i ek sz2 b ag z2 cty2 ty eqf hte
   split at hk
   ·rename_i e1 t1 xs ho
    split at hk
    ·rename_i hsame heq
     obtain ⟨hsame'⟩:=hsame
     subst hsame'
     cases hbe:Nat.beq e e1 with
     | false=>simp [hbe] at hk
     | true=>
       simp only [hbe,cond_true] at hk
       have hee:=Nat.eq_of_beq_eq_true hbe
       subst hee
       cases hl:B.lim ((xs.take hi).length+((xs.drop lo2).take (hi2-lo2)).length) b with
       | false=>rw [hl] at hk;cases hk
       | true=>
         rw [hl] at hk
         simp only [cond_true] at hk
         obtain ⟨hun,hk⟩:=qav hk
         have hlim:((xs.take hi).length+((xs.drop lo2).take (hi2-lo2)).length)*b≤140737488355328:=by rw [hB.lim] at hl;simpa using hl
         have hview:ViewR t1 xs.length (ρ i) 0 hi false S:=by simpa [AVR,ho] using hs
         have hX:RdRow fz w t1 ((xs.drop lo2).take (hi2-lo2)) X:=view_rd h ho (by simpa [AVR,ho] using hx)
         obtain ⟨css0,hk0,hown0,hn0⟩:=h.obj i _ ho
         obtain ⟨v1,v2,A,m',c1,c',hV,hc',v3,hSv⟩:=hview
         have hA:∀ (n:Nat),(if n=0 then A else A.map (·.add (0*t1.sz)))=A:=by
          intro n
          split
          ·rfl
          ·rw [Nat.zero_mul]
           cases A with
           | none=>rfl
           | some a=>simp [Addr.add_zero']
         simp only [Bool.false_eq_true,if_false] at hc' hSv
         rw [hA,Nat.sub_zero] at hSv
         rw [Nat.sub_zero] at hc'
         have hc2:=hc'.symm
         subst hc2
         have hkt:All2 (fun x cs=>t1.K fz w x cs) (xs.take hi) (css0.take hi):=All2.take hi hk0
         have hlt:(xs.take hi).length=hi:=by simp [List.length_take,Nat.min_eq_left v1]
         have hft:(css0.take hi).flatten=css0.flatten.take (hi*t1.sz):=qb4 hi (qba hk0)
         have hSb:S.ownBlock=(ρ i).ownBlock:=by rw [hSv,hV,qay,qay];cases A<;>rfl
         have hownt:w.ownsRow 0 e t1.sz S (xs.take hi).length (css0.take hi).flatten:=by
          rw [hlt,hft]
          rcases hown0.2 with ⟨h3,h4⟩ | ⟨g,cap,cur,h3,h4,h5,h6,h7,h8,h9⟩
          ·have:hi=0:=by omega
           subst this
           rw [hV] at h3
           cases h3
           rw [hSv]
           simpa using World.ownsRow_nil w 0 e t1.sz
          ·rw [hV] at h3
           cases h3
           have h10:hi*t1.sz≤xs.length*t1.sz:=Nat.mul_le_mul_right _ v1
           refine ⟨?_,.inr ⟨g,c1,cur,hSv,h4,h5,v3,h7,h8,?_⟩⟩
           ·rw [List.length_take,hown0.1];omega
           ·rw [←h9,List.take_take,Nat.min_eq_left h10]
         obtain ⟨V',w',r1,css,r2,r3,r4,r5⟩:=qbe (P:=P) (ty':=ty') hT hu hte (ty:=t1) rfl hkt hownt hX hlim
         rw [hSb] at r4 r5
         exact ⟨V',w',r1,qbg h h (Ext.refl _ _) (Frm.refl _ _ _) hun ho r4 r5 r2 r3 hun hk⟩
    ·cases hk
   ·cases hk
  ·cases hk
 ·cases hk
theorem aappendD_ok (hB:B.ok) (hT:TOk P τ) (h:OR fz old ρ w objs) {u t ty':Nat} {s x:AV} {S X:Value} {k:AV→Objs→Option R} (hs:AVR fz ρ w objs s S) (hx:AVR fz ρ w objs x X) (hk:aappendD τ B u t s x objs k=some r) :
  ∃ V w',(Builtin.append_ #[t,t] ty' #[S,X]).run P w=.ok V w'∧Lands old fz ρ w objs k r V w':=by
 unfold aappendD at hk
 split at hk
 ·rename_i i hi j lo2 hi2 b2
  cases hb:Nat.beq i j with
  | true=>
    rw [hb,cond_true] at hk
    have:=Nat.eq_of_beq_eq_true hb
    subst this
    exact adel_ok hB hT h hs hx hk
  | false=>rw [hb,cond_false] at hk;exact qfi hB hT h hs hx hk
 ·exact qfi hB hT h hs hx hk
theorem acut_ok (h:OR fz old ρ w objs) {u i hi:Nat} {V:Value} {k:AV→Objs→Option R} (hv:AVR fz ρ w objs (.view i 0 hi false) V) (hk:acut u i hi objs k=some r):Lands old fz ρ w objs k r V w:=by
 unfold acut at hk
 split at hk
 ·rename_i e t xs ho
  obtain ⟨hun,hk⟩:=qav hk
  have hne:i≠u:=fun e=>by rw [e,hun] at ho;cases ho
  have hview:ViewR t xs.length (ρ i) 0 hi false V:=by simpa [AVR,ho] using hv
  obtain ⟨css0,hk0,hown0,hn0⟩:=h.obj i _ ho
  obtain ⟨v1,v2,A,m',c1,c',hV,hc',v3,hSv⟩:=hview
  have hA:∀ (n:Nat),(if n=0 then A else A.map (·.add (0*t.sz)))=A:=by
   intro n
   split
   ·rfl
   ·rw [Nat.zero_mul]
    cases A with
    | none=>rfl
    | some a=>simp [Addr.add_zero']
  simp only [Bool.false_eq_true,if_false] at hc' hSv
  rw [hA,Nat.sub_zero] at hSv
  rw [Nat.sub_zero] at hc'
  have hc2:=hc'.symm
  subst hc2
  have hkt:All2 (fun x cs=>t.K fz w x cs) (xs.take hi) (css0.take hi):=All2.take hi hk0
  have hlt:(xs.take hi).length=hi:=by simp [List.length_take,Nat.min_eq_left v1]
  have hft:(css0.take hi).flatten=css0.flatten.take (hi*t.sz):=qb4 hi (qba hk0)
  have hSb:V.ownBlock=(ρ i).ownBlock:=by rw [hSv,hV,qay,qay];cases A<;>rfl
  have hownt:w.ownsRow 0 e t.sz V (xs.take hi).length (css0.take hi).flatten:=by
   rw [hlt,hft]
   rcases hown0.2 with ⟨h3,h4⟩ | ⟨g,cap,cur,h3,h4,h5,h6,h7,h8,h9⟩
   ·have:hi=0:=by omega
    subst this
    rw [hV] at h3
    cases h3
    rw [hSv]
    simpa using World.ownsRow_nil w 0 e t.sz
   ·rw [hV] at h3
    cases h3
    have h10:hi*t.sz≤xs.length*t.sz:=Nat.mul_le_mul_right _ v1
    refine ⟨?_,.inr ⟨g,c1,cur,hSv,h4,h5,v3,h7,h8,?_⟩⟩
    ·rw [List.length_take,hown0.1];omega
    ·rw [←h9,List.take_take,Nat.min_eq_left h10]
  have hf:=Frm.refl fz old w
  have hbi:∀ g,V.ownBlock=some g→blkO objs ρ i=some g:=fun g hg=>by
   rw [qao ho]
   simp only [Obj.live,if_true]
   rw [hSb] at hg
   cases hV2:ρ i<;>rw [hV2] at hg<;>simp [Value.ownBlock] at hg
   rw [←qay];simpa [Value.ownBlock] using hg
  have h1:OR fz old ρ w (oset i .dead objs):=h.turn ho (.inl rfl) hf (fun j hj g hg=>⟨rfl,(h.blk_lt hg).2.1⟩) h.fzlt trivial
  have hu1:oget (oset i .dead objs) u=none:=by rw [qap _ _ hne];exact hun
  refine ⟨_,_,fz,upd ρ u V,hk,?_,?_,(Ext.turn (ρ:=ρ) ho (.inl rfl)).trans (Ext.new hu1 _ _),hf⟩
  ·simp only [AVR,CVR,qam]
   rw [qa9]
  ·refine h1.new hu1 hf (fun j g hg=>⟨rfl,(h1.blk_lt hg).2.1⟩) h.fzlt (fun g _ hg j hj=>?_) ?_
   ·have hgV:V.ownBlock=some g:=by rw [hSv] at hg ⊢;rw [←qay] at hg;exact hg
    by_cases hji:j=i
    ·subst hji
     rw [qao (qam _ _ _)] at hj
     simp [Obj.live] at hj
    ·have:blkO objs ρ j=some g:=by
      unfold blkO at hj ⊢
      rw [qap _ _ (Ne.symm hji)] at hj
      exact hj
     exact h.apart j i g hji this (hbi g hgV)
   ·exact ⟨_,hkt,hownt,fun g hg=>hn0 g (by rw [←hSb];exact hg)⟩
 ·cases hk
theorem aassign_ok {τ:Nat→Option TI} (h:OR fz old ρ w objs) {u t:Nat} {was:Option AV} {v:AV} {V:Value} {k:AV→Objs→Option R} (hv:AVR fz ρ w objs v V) (hk:aassign τ u t was v objs k=some r):Lands old fz ρ w objs k r V w:=by
 unfold aassign at hk
 split at hk
 ·rename_i i hi j
  cases hb:Nat.beq i j with
  | true=>rw [hb,cond_true] at hk;exact acut_ok h hv hk
  | false=>rw [hb,cond_false] at hk;exact amove_ok h hv hk
 ·exact amove_ok h hv hk
end
end Go.Proofs.YtkmpkebaloejhaaGreatDoor.Av
