/- What a row's reading of an argument says: the argument's data. Conditions: none. -/
import Derived.Test.YtkmpkebaloejhaaGreatDoorGen0
import Derived.ChangeArms
import Derived.ChangeOld
import Derived.ChangeShapes
import Derived.DataReads
namespace Go.Proofs.YtkmpkebaloejhaaGreatDoor.Av
open Go
def tyB (P:Program):(ty:Ty)→Nat→Bool
 | .int k,t=>match P.underlying t with
   | some (.int k')=>decide (k=k') && Nat.beq (P.cellsOf t) 1
   | _=>false
 | .bool,t=>match P.underlying t with
   | some .bool=>Nat.beq (P.cellsOf t) 1
   | _=>false
 | .str,t=>match P.underlying t with
   | some .string=>Nat.beq (P.cellsOf t) 1
   | _=>false
 | .list e ty,t=>match P.underlying t with
   | some (.slice e')=>Nat.beq e e' && (Nat.beq (P.cellsOf t) 1 && (Nat.beq (P.cellsOf e) ty.sz && tyB P ty e))
   | _=>false
 | .pair _ _,_=>false
def Ty.wf:(ty:Ty)→ty.den→Prop
 | .int k,n=>(Lit.int k n).wf=true
 | .bool,_=>True
 | .str,s=>s.length≤maxLen
 | .list _ ty,xs=>xs.length≤maxLen∧∀ x∈xs,ty.wf x
 | .pair a b,x=>a.wf x.1∧b.wf x.2
theorem qex {α:Type} {Q:Nat→α→Prop}:∀ (n:Nat),(∀ i,i<n→∃ x,Q i x)→∃ xs:List α,xs.length=n∧∀ i x,xs[i]?=some x→Q i x
 | 0,_=>⟨[],rfl,fun i x h=>by simp at h⟩
 | n+1,h=>by
   obtain ⟨xs,h1,h2⟩:=qex n fun i hi=>h i (by omega)
   obtain ⟨x,hx⟩:=h n (by omega)
   refine ⟨xs++[x],by simp [h1],fun i y hy=>?_⟩
   by_cases hi:i<n
   ·rw [List.getElem?_append_left (by omega)] at hy
    exact h2 i y hy
   ·rw [List.getElem?_append_right (by omega)] at hy
    have:i-xs.length=0:=by
     by_cases h0:i-xs.length=0
     ·exact h0
     ·rw [List.getElem?_eq_none (by simp;omega)] at hy;cases hy
    rw [this] at hy
    simp at hy
    subst hy
    have:i=n:=by omega
    subst this
    exact hx
theorem read_ok {H:Type} {enc:TypeId×Value→H} {P:Program} {w:World} {spare:Nat→Bool} {held:Bool}:∀ (ty:Ty) (t:Nat) (fuel:Nat) (cs:List Value) (x:DataW H×List MemPlace),tyB P ty t=true→DataW.trod enc P w 0 spare held fuel t cs=some x→
  ∃ y:ty.den,ty.K (fun k=>k<w.heap.size) w y cs∧ty.wf y
 | .int k,t,fuel,cs,x,hb,h=>by
   simp only [tyB] at hb
   split at hb
   ·rename_i k' hu
    simp only [Bool.and_eq_true] at hb
    have:=of_decide_eq_true hb.1
    subst this
    obtain ⟨n,h1,h2,h3⟩:=DataW.trod_int hu h
    exact ⟨n,h1,h3⟩
   ·cases hb
 | .bool,t,fuel,cs,x,hb,h=>by
   simp only [tyB] at hb
   split at hb
   ·rename_i hu
    cases fuel with
    | zero=>simp [DataW.trod] at h
    | succ n=>
      unfold DataW.trod at h
      rw [hu] at h
      cases cs with
      | nil=>simp at h
      | cons c l=>
        cases l with
        | cons=>cases c<;>simp at h
        | nil=>cases c<;>simp at h;rename_i b;exact ⟨b,rfl,trivial⟩
   ·cases hb
 | .str,t,fuel,cs,x,hb,h=>by
   simp only [tyB] at hb
   split at hb
   ·rename_i hu
    cases fuel with
    | zero=>simp [DataW.trod] at h
    | succ n=>
      unfold DataW.trod at h
      rw [hu] at h
      cases cs with
      | nil=>simp at h
      | cons c l=>
        cases l with
        | cons=>cases c<;>simp at h
        | nil=>
          cases c<;>simp at h
          rename_i s
          exact ⟨s.data.toList,by rw [Ty.K,strV],by have:=h.1;show s.data.toList.length≤maxLen;rw [Array.length_toList];exact this⟩
   ·cases hb
 | .list e ty,t,fuel,cs,x,hb,h=>by
   simp only [tyB] at hb
   split at hb
   ·rename_i e' hu
    simp only [Bool.and_eq_true] at hb
    obtain ⟨h1,_,h2,h3⟩:=hb
    have h1:=Nat.eq_of_beq_eq_true h1
    have h2:=Nat.eq_of_beq_eq_true h2
    subst h1
    rcases DataW.trod_slice hu h with ⟨rfl,_⟩ | ⟨a,len,cap,elems,rest,n,_,rfl,_,_,hl,hm,_,hel,_,_⟩
    ·exact ⟨[],⟨none,0,rfl,Nat.le_refl _,Nat.zero_le _,.inl rfl⟩,Nat.zero_le _,fun x hx=>by cases hx⟩
    ·have hx:∀ i,i<len→∃ (y:ty.den) (cs:List Value),w.cells? 0 (a.add (i*P.cellsOf e)) (P.cellsOf e)=some cs∧ty.K (fun k=>k<w.heap.size) w y cs∧ty.wf y:=by
      intro i hi
      have he:=hel i hi
      cases hc:w.cells? 0 (a.add (i*P.cellsOf e)) (P.cellsOf e) with
      | none=>
        rw [hc] at he
        rw [Option.bind_none,eq_comm,List.getElem?_eq_none_iff] at he
        omega
      | some cs=>
        rw [hc,Option.bind_some] at he
        have hi':i<elems.length:=by omega
        rw [List.getElem?_eq_getElem hi'] at he
        obtain ⟨y,hy,hw⟩:=read_ok ty e n cs _ h3 he
        exact ⟨y,cs,rfl,hy,hw⟩
     obtain ⟨ys,hy1,hy2⟩:=qex (Q:=fun i y=>∃ (cs:List Value),w.cells? 0 (a.add (i*P.cellsOf e)) (P.cellsOf e)=some cs∧ty.K (fun k=>k<w.heap.size) w y cs∧ty.wf y) len hx
     refine ⟨ys,⟨some a,cap,by rw [hy1],by omega,hm,?_⟩,by omega,fun y hy=>?_⟩
     ·cases ys with
      | nil=>exact .inl rfl
      | cons y0 ys=>
        refine .inr ⟨a,rfl,?_,fun j y hj=>?_⟩
        ·obtain ⟨cs,hc,_,_⟩:=hy2 0 y0 rfl
         obtain ⟨_,hcl,hcc⟩:=World.cells?_some hc
         have hsz:=ty.sz_pos
         have h0:=hcc 0 (by omega)
         have hne:cs[0]?≠none:=by rw [Ne,List.getElem?_eq_none_iff];omega
         rw [←h0] at hne
         cases hw:w.cell? ((a.add (0*P.cellsOf e)).add 0) with
         | none=>exact absurd hw hne
         | some v=>
           have hlt:=World.block_lt_of_cell? _ _ hw
           rwa [qa1,qa1] at hlt
        ·obtain ⟨cs,hc,hK,_⟩:=hy2 j y hj
         obtain ⟨_,hcl,hcc⟩:=World.cells?_some hc
         refine ⟨cs,hK,fun i u hi=>?_⟩
         rw [←h2]
         have hlt:i<P.cellsOf e:=by
          have:=List.getElem?_eq_some_iff.1 hi
          obtain ⟨h',_⟩:=this
          omega
         rw [hcc i hlt,hi]
     ·obtain ⟨i,hi,rfl⟩:=List.getElem_of_mem hy
      obtain ⟨_,_,_,hw⟩:=hy2 i _ (List.getElem?_eq_getElem hi)
      exact hw
   ·cases hb
 | .pair _ _,_,_,_,_,hb,_=>by simp [tyB] at hb
theorem read_struct3 {H:Type} {enc:TypeId×Value→H} {P:Program} {w:World} {spare:Nat→Bool} {held:Bool} {t fuel:Nat} {cs:List Value} {x:DataW H×List MemPlace} {f0 f1 f2:Field} (ty0 ty1 ty2:Ty) (ht:P.underlying t=some (.struct #[f0,f1,f2]))
  (o:(f0.offset=0∧f1.offset=1)∧f2.offset=2) (c0:P.cellsOf f0.type=1) (c1:P.cellsOf f1.type=1) (c2:P.cellsOf f2.type=1) (ct:P.cellsOf t=3) (b0:tyB P ty0 f0.type=true) (b1:tyB P ty1 f1.type=true) (b2:tyB P ty2 f2.type=true) (h:DataW.trod enc P w 0 spare held fuel t cs=some x) :
  ∃ (v0 v1 v2:Value) (y0:ty0.den) (y1:ty1.den) (y2:ty2.den),cs=[v0,v1,v2]∧(ty0.K (fun k=>k<w.heap.size) w y0 [v0]∧ty0.wf y0)∧(ty1.K (fun k=>k<w.heap.size) w y1 [v1]∧ty1.wf y1)∧(ty2.K (fun k=>k<w.heap.size) w y2 [v2]∧ty2.wf y2):=by
 obtain ⟨xs,n,_,_,hl,hlen,hf⟩:=DataW.trod_struct ht h
 rw [ct] at hl
 match cs,hl with
 | [v0,v1,v2],_=>
  match xs,hlen with
  | [x0,x1,x2],_=>
   have g0:=hf 0 f0 rfl
   have g1:=hf 1 f1 rfl
   have g2:=hf 2 f2 rfl
   rw [o.1.1,c0] at g0
   rw [o.1.2,c1] at g1
   rw [o.2,c2] at g2
   obtain ⟨y0,k0⟩:=read_ok ty0 f0.type n [v0] x0 b0 g0
   obtain ⟨y1,k1⟩:=read_ok ty1 f1.type n [v1] x1 b1 g1
   obtain ⟨y2,k2⟩:=read_ok ty2 f2.type n [v2] x2 b2 g2
   exact ⟨v0,v1,v2,y0,y1,y2,rfl,k0,k1,k2⟩
theorem avr_struct3 {fz:Nat→Prop} {ρ:Nat→Value} {w:World} {cs:Array Value} {v0 v1 v2:Value} (hc:cs.toList=[v0,v1,v2]) {c0 c1 c2:CV} (h0:CVR fz ρ w [] c0 v0) (h1:CVR fz ρ w [] c1 v1) (h2:CVR fz ρ w [] c2 v2)
  (n0:v0.oneCell'=true) (n1:v1.oneCell'=true) (n2:v2.oneCell'=true):AVR fz ρ w [] (.agg [c0,c1,c2]) (.agg cs):=
 ⟨cs,rfl,by rw [hc];exact ⟨h0,h1,h2,trivial⟩,fun u hu=>by
   have hm:u∈cs.toList:=Array.mem_toList_iff.mpr hu
   rw [hc] at hm
   simp only [List.mem_cons,List.not_mem_nil,or_false] at hm
   rcases hm with rfl | rfl | rfl
   ·exact n0
   ·exact n1
   ·exact n2⟩
end Go.Proofs.YtkmpkebaloejhaaGreatDoor.Av
