/- Conversions of strings and bytes. Conditions: none. -/
import Derived.Test.YtkmpkebaloejhaaGreatDoorAv13
import Derived.Lib.ConvBytes
import Derived.Laws.BytesArg
namespace Go.Proofs.YtkmpkebaloejhaaGreatDoor.Av
open Go
section
variable {R:Type} {old fz:Nat→Prop} {ρ:Nat→Value} {w:World} {objs:Objs} {r:R} {P:Program} {τ:Nat→Option TI} {B:Ops}
theorem isU8_ok (hT:TOk P τ) {t:Nat} (h:isU8 τ t=true):P.underlying t=some (.int .u8):=by
 unfold isU8 at h
 split at h
 ·rename_i heq;exact (hT t _ heq).kind
 ·cases h
theorem isStrT_ok (hT:TOk P τ) {t:Nat} (h:isStrT τ t=true):P.underlying t=some .string:=by
 unfold isStrT at h
 split at h
 ·rename_i heq;exact (hT t _ heq).kind
 ·cases h
theorem qdd (hT:TOk P τ) {t e:Nat} (h:sliceOf τ t=some e):P.underlying t=some (.slice e):=by
 unfold sliceOf at h
 split at h
 ·rename_i heq;cases h;exact (hT t _ heq).kind
 ·cases h
theorem cell_freeze (w:World) (a:Addr) (n:Nat) (b:Addr):(w.freeze a n).cell? b=w.cell? b:=by
 unfold World.freeze
 split
 ·rfl
 ·unfold World.cell?
  simp only [Array.getElem?_modify]
  by_cases h:a.block=b.block
  ·simp only [h,if_true]
   cases w.heap[b.block]? with
   | none=>rfl
   | some o=>cases o<;>rfl
  ·simp only [h,if_false]
theorem qes (w:World) (a:Addr) (n:Nat) {k:Nat} (h:k≠a.block):(w.freeze a n).heap[k]?=w.heap[k]?:=by
 unfold World.freeze
 split
 ·rfl
 ·simp only [Array.getElem?_modify]
  rw [if_neg (Ne.symm h)]
theorem qet (w:World) (a:Addr) (n:Nat):(w.freeze a n).heap.size=w.heap.size:=by
 unfold World.freeze
 split
 ·rfl
 ·simp
theorem aconv_ok (hB:B.ok) (hT:TOk P τ) (h:OR fz old ρ w objs) {src dst:Nat} {x:AV} {X:Value} {k:AV→Objs→Option R} (hx:AVR fz ρ w objs x X) (hk:aconv τ B src dst x objs k=some r) :
  ∃ V w',(convert src dst X).run P w=.ok V w'∧Lands old fz ρ w objs k r V w':=by
 unfold aconv at hk
 split at hk
 ·
  rename_i e hs hd
  split at hk
  ·rename_i s
   have hX:X=strV s:=hx
   subst hX
   cases hc:(isStrT τ src && isU8 τ e) with
   | false=>rw [hc] at hk;cases hk
   | true=>
     rw [hc] at hk
     simp only [cond_true] at hk
     simp only [Bool.and_eq_true] at hc
     cases hl:B.lim s.length 1 with
     | false=>rw [hl] at hk;cases hk
     | true=>
       rw [hl] at hk
       simp only [cond_true] at hk
       have hlen:s.length*1≤140737488355328:=by rw [hB.lim] at hl;simpa using hl
       have hsz:(⟨s.toArray⟩:ByteArray).size=s.length:=by simp [ByteArray.size]
       have hrun:=Lib.run_convert_string_bytes (P:=P) w src dst e ⟨s.toArray⟩ (isStrT_ok hT hc.1) (qdd hT hd) (isU8_ok hT hc.2)
       let fz':Nat→Prop:=fun k=>fz k∨k=w.heap.size
       have hf:Frm fz old w fz' (Lib.bytesWorld w e ⟨s.toArray⟩):=by
        refine ⟨fun _ hk=>.inl hk,fun k ho hk=>?_,fun k hk=>Lib.bytesWorld_at_old w e _ k (h.fzlt k hk),fun k hk=>Lib.bytesWorld_at_old w e _ k (h.oldlt k hk),by rw [Lib.bytesWorld_size];omega,?_,?_,?_⟩
        ·rcases hk with hk | hk
         ·exact hk
         ·have:=h.oldlt k ho;omega
        all_goals (simp [Lib.bytesWorld,World.freeze,World.alloc,World.drew,-World.alloc_eq,-World.drew_eq])
       have ho:OR fz' old ρ (Lib.bytesWorld w e ⟨s.toArray⟩) objs:=by
        refine h.world hf (fun i g hg=>⟨Lib.bytesWorld_at_old w e _ g (h.blk_lt hg).1,fun hk=>?_⟩) (fun k hk=>?_)
        ·rcases hk with hk | hk
         ·exact (h.blk_lt hg).2.1 hk
         ·have:=(h.blk_lt hg).1;omega
        ·rw [Lib.bytesWorld_size]
         rcases hk with hk | hk
         ·have:=h.fzlt k hk;omega
         ·omega
       refine ⟨_,_,hrun,_,objs,fz',ρ,hk,?_,ho,Ext.refl _ _,hf⟩
       have hcap:=grownCap_le_maxLen w s.length 0 e (by simp only [maxLen];omega)
       have hge:=grownCap_ge w s.length 0 e
       rw [hsz]
       refine ⟨some ⟨w.heap.size,0,none⟩,grownCap w s.length 0 e,by simp,by simpa using hge,hcap,.inr ⟨_,rfl,.inr rfl,fun j y hy=>⟨[.int .u8 y],rfl,fun i v hv=>?_⟩⟩⟩
       cases i with
       | succ i=>simp at hv
       | zero=>
         simp at hv
         subst hv
         have hj:j<s.length:=by
          have:=(List.getElem?_eq_some_iff.1 hy).1
          simpa using this
         have h1:=Lib.bytesWorld_cell w e ⟨s.toArray⟩ j (by rw [hsz];exact hj)
         rw [Addr.add_lit,Addr.add_lit]
         simp only [Ty.sz,Nat.mul_one,Nat.zero_add,Nat.add_zero]
         rw [h1]
         simp only [List.getElem?_map,List.getElem?_eq_getElem hj,Option.map_some,Option.some.injEq] at hy
         subst hy
         simp [List.getD_eq_getElem?_getD,List.getElem?_eq_getElem hj]
  ·cases hk
 ·
  rename_i e hs hd
  split at hk
  ·rename_i e' xs hv
   cases hc:(isStrT τ dst && isU8 τ e) with
   | false=>rw [hc] at hk;cases hk
   | true=>
     rw [hc] at hk
     simp only [cond_true] at hk
     simp only [Bool.and_eq_true] at hc
     obtain ⟨fz',h1,h2,h3,h4,_⟩:=asVal_ok h hx hv
     obtain ⟨A,c,hV,hl,hm,hr⟩:=h4
     simp only [List.cons.injEq,and_true] at hV
     subst hV
     refine ⟨strV (xs.map fun (n:Int)=>UInt8.ofNat n.toNat),w,?_,Lands.same h hk rfl⟩
     have hus:=qdd hT hs
     have hue:=isU8_ok hT hc.2
     have hud:=isStrT_ok hT hc.1
     cases xs with
     | nil=>
       cases A with
       | none=>rw [run_convert_bytes_string w src dst e none _ c hus hue hud];rfl
       | some ad=>
         rw [run_convert_bytes_string w src dst e _ _ c hus hue hud]
         simp only [List.length_nil]
         rw [run_bytesToString w ad 0 c [] (by simp [loadCells,loadCellsFrom])]
         rfl
     | cons x0 xs=>
       rcases hr with hr | ⟨ad,rfl,_,hcell⟩
       ·cases hr
       ·obtain ⟨b,off,spot⟩:=ad
        have hsp:spot=none:=by
         obtain ⟨cs,hK,hat⟩:=hcell 0 x0 rfl
         have hK:cs=[.int .u8 x0]:=hK
         subst hK
         have h5:=hat 0 _ rfl
         rw [Addr.add_zero',Nat.zero_mul,Addr.add_zero'] at h5
         cases spot with
         | none=>rfl
         | some q=>
           unfold World.cell? at h5
           split at h5
           ·simp at h5
           ·cases h5
        subst hsp
        rw [run_convert_bytes_arg w src e hus hue b off _ c (x0::xs) rfl (fun i hi=>?_) dst hud]
        ·rfl
        ·obtain ⟨cs,hK,hat⟩:=hcell i ((x0::xs).getD i 0) (by simp only [List.getD_eq_getElem?_getD,List.getElem?_eq_getElem hi,Option.getD_some])
         have hK:cs=[.int .u8 ((x0::xs).getD i 0)]:=hK
         subst hK
         have h5:=hat 0 _ rfl
         rw [Addr.add_zero',Addr.add_lit] at h5
         simpa [Ty.sz] using h5
  ·cases hk
 ·
  rename_i e e2 hs hd
  cases hc:(Nat.beq src dst && isU8 τ e) with
  | false=>rw [hc] at hk;cases hk
  | true=>
    rw [hc] at hk
    simp only [cond_true] at hk
    simp only [Bool.and_eq_true] at hc
    have hsd:=Nat.eq_of_beq_eq_true hc.1
    subst hsd
    split at hk
    ·rename_i i
     split at hk
     ·rename_i e' x0 xs ho
      have hX:X=ρ i:=by simpa [AVR,CVR,ho] using hx
      obtain ⟨css,hck,hown,hnb⟩:=h.obj i _ ho
      rcases hown.2 with ⟨_,h0⟩ | ⟨g,cap,cur,hV,_,hh,hn,hm,hcs,htk⟩
      ·simp at h0
      have hus:=qdd hT hs
      have hue:=isU8_ok hT hc.2
      have hg:blkO objs ρ i=some g:=by rw [qao ho,hV];rfl
      obtain ⟨g1,g2,g3⟩:=h.blk_lt hg
      let w':World:=w.freeze ⟨g,cur.size,none⟩ 1
      let fz':Nat→Prop:=fun k=>fz k∨k=g
      have hf:Frm fz old w fz' w':=by
       refine ⟨fun _ hk=>.inl hk,fun k ho hk=>?_,fun k hk=>qes _ _ _ fun he=>g2 (by rw [←show k=g from he];exact hk),fun k hk=>qes _ _ _ fun he=>g3 (by rw [←show k=g from he];exact hk),by rw [qet];exact Nat.le_refl _,rfl,rfl,rfl⟩
       rcases hk with hk | hk
       ·exact hk
       ·subst hk;exact absurd ho g3
      have hK:Ty.K fz' w' (.list e' (.int .u8)) (x0::xs) [ρ i]:=by
       obtain ⟨_,A,c,hV',hl,hm',hr⟩:=qar h (i:=i) (e:=e') (t:=.int .u8) (xs:=x0::xs) (by simp [rowOf,ho])
       refine ⟨A,c,by rw [hV'],hl,hm',?_⟩
       rcases hr with hr | ⟨ad,rfl,hx⟩
       ·exact .inl hr
       ·refine .inr ⟨ad,rfl,.inr ?_,fun j x hj=>?_⟩
        ·rw [hV] at hV';cases hV';rfl
        ·obtain ⟨cs,k1,k2⟩:=hx j x hj
         exact ⟨cs,k1,fun i v hv=>by rw [cell_freeze];exact k2 i v hv⟩
      have hor:OR fz' old ρ w' (oset i (.froz e' (.int .u8) (x0::xs)) objs):=by
       refine h.turn ho (.inr ⟨x0::xs,rfl,.inr rfl⟩) hf (fun j hj g' hg'=>?_) (fun k hk=>?_) hK
       ·have hne:g'≠g:=fun he=>h.apart j i g hj (by rw [←he];exact hg') hg
        refine ⟨qes _ _ _ hne,fun hk=>?_⟩
        rcases hk with hk | hk
        ·exact (h.blk_lt hg').2.1 hk
        ·exact hne hk
       ·rw [qet]
        rcases hk with hk | hk
        ·exact h.fzlt k hk
        ·subst hk;exact g1
      refine ⟨ρ i,w',?_,.c (.own i),_,fz',ρ,hk,?_,hor,Ext.turn ho (.inr ⟨x0::xs,rfl,.inr rfl⟩),hf⟩
      ·rw [hX,hV]
       have hsh:w.shape? g=some (e',cur.size):=by simp [World.shape?,hh]
       simp [convert,run_underlying hus,run_underlying hue,markStringish,hsh,w']
      ·simp only [AVR,CVR,qam]
     ·cases hk
    ·cases hk
 ·obtain ⟨v,V,h1,h2,h3⟩:=qem (P:=P) hT hx hk
  exact ⟨V,w,h1 w,Lands.same h h2 h3⟩
end
end Go.Proofs.YtkmpkebaloejhaaGreatDoor.Av
