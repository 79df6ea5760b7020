/- What a row's reading of an argument says: the argument's data. Conditions: none. -/
import Derived.Test.YtkmpkebaloejhaaDoorGen0
import Derived.ChangeArms
import Derived.ChangeOld
import Derived.ChangeShapes
import Derived.DataReads
namespace Go.Proofs.YtkmpkebaloejhaaDoor.Av
open Go
def tyB (P:Program):(ty:Ty)→Nat→Bool
 | .int k,t=>match P.underlying t with
   | some (.int k')=>decide (k=k') && Nat.beq (P.cellsOf t) 1
   | _=>false
 | .bool,t=>match P.underlying t with
   | some .bool=>Nat.beq (P.cellsOf t) 1
   | _=>false
 | .str,t=>match P.underlying t with
   | some .string=>Nat.beq (P.cellsOf t) 1
   | _=>false
 | .list e ty,t=>match P.underlying t with
   | some (.slice e')=>Nat.beq e e' && (Nat.beq (P.cellsOf t) 1 && (Nat.beq (P.cellsOf e) ty.sz && tyB P ty e))
   | _=>false
 | .pair _ _,_=>false
def Ty.wf:(ty:Ty)→ty.den→Prop
 | .int k,n=>(Lit.int k n).wf=true
 | .bool,_=>True
 | .str,s=>s.length≤maxLen
 | .list _ ty,xs=>xs.length≤maxLen∧∀ x∈xs,ty.wf x
 | .pair a b,x=>a.wf x.1∧b.wf x.2
theorem qea {α:Type} {Q:Nat→α→Prop}:∀ (n:Nat),(∀ i,i<n→∃ x,Q i x)→∃ xs:List α,xs.length=n∧∀ i x,xs[i]?=some x→Q i x
 | 0,_=>⟨[],rfl,fun i x h=>by simp at h⟩
 | n+1,h=>by
   obtain ⟨xs,h1,h2⟩:=qea n fun i hi=>h i (by omega)
   obtain ⟨x,hx⟩:=h n (by omega)
   refine ⟨xs++[x],by simp [h1],fun i y hy=>?_⟩
   by_cases hi:i<n
   ·rw [List.getElem?_append_left (by omega)] at hy
    exact h2 i y hy
   ·rw [List.getElem?_append_right (by omega)] at hy
    have:i-xs.length=0:=by
     by_cases h0:i-xs.length=0
     ·exact h0
     ·rw [List.getElem?_eq_none (by simp;omega)] at hy;cases hy
    rw [this] at hy
    simp at hy
    subst hy
    have:i=n:=by omega
    subst this
    exact hx
theorem read_ok {H:Type} {enc:TypeId×Value→H} {P:Program} {w:World} {spare:Nat→Bool} {held:Bool}:∀ (ty:Ty) (t:Nat) (fuel:Nat) (cs:List Value) (x:DataW H×List MemPlace),tyB P ty t=true→DataW.trod enc P w 0 spare held fuel t cs=some x→
  ∃ y:ty.den,ty.K (fun k=>k<w.heap.size) w y cs∧ty.wf y
 | .int k,t,fuel,cs,x,hb,h=>by
   simp only [tyB] at hb
   split at hb
   ·rename_i k' hu
    simp only [Bool.and_eq_true] at hb
    have:=of_decide_eq_true hb.1
    subst this
    obtain ⟨n,h1,h2,h3⟩:=DataW.trod_int hu h
    exact ⟨n,h1,h3⟩
   ·cases hb
 | .bool,t,fuel,cs,x,hb,h=>by
   simp only [tyB] at hb
   split at hb
   ·rename_i hu
    cases fuel with
    | zero=>simp [DataW.trod] at h
    | succ n=>
      unfold DataW.trod at h
      rw [hu] at h
      cases cs with
      | nil=>simp at h
      | cons c l=>
        cases l with
        | cons=>cases c<;>simp at h
        | nil=>cases c<;>simp at h;rename_i b;exact ⟨b,rfl,trivial⟩
   ·cases hb
 | .str,t,fuel,cs,x,hb,h=>by
   simp only [tyB] at hb
   split at hb
   ·rename_i hu
    cases fuel with
    | zero=>simp [DataW.trod] at h
    | succ n=>
      unfold DataW.trod at h
      rw [hu] at h
      cases cs with
      | nil=>simp at h
      | cons c l=>
        cases l with
        | cons=>cases c<;>simp at h
        | nil=>
          cases c<;>simp at h
          rename_i s
          exact ⟨s.data.toList,by rw [Ty.K,strV],by have:=h.1;show s.data.toList.length≤maxLen;rw [Array.length_toList];exact this⟩
   ·cases hb
 | .list e ty,t,fuel,cs,x,hb,h=>by
   simp only [tyB] at hb
   split at hb
   ·rename_i e' hu
    simp only [Bool.and_eq_true] at hb
    obtain ⟨h1,_,h2,h3⟩:=hb
    have h1:=Nat.eq_of_beq_eq_true h1
    have h2:=Nat.eq_of_beq_eq_true h2
    subst h1
    rcases DataW.trod_slice hu h with ⟨rfl,_⟩ | ⟨a,len,cap,elems,rest,n,_,rfl,_,_,hl,hm,_,hel,_,_⟩
    ·exact ⟨[],⟨none,0,rfl,Nat.le_refl _,Nat.zero_le _,.inl rfl⟩,Nat.zero_le _,fun x hx=>by cases hx⟩
    ·have hx:∀ i,i<len→∃ (y:ty.den) (cs:List Value),w.cells? 0 (a.add (i*P.cellsOf e)) (P.cellsOf e)=some cs∧ty.K (fun k=>k<w.heap.size) w y cs∧ty.wf y:=by
      intro i hi
      have he:=hel i hi
      cases hc:w.cells? 0 (a.add (i*P.cellsOf e)) (P.cellsOf e) with
      | none=>
        rw [hc] at he
        rw [Option.bind_none,eq_comm,List.getElem?_eq_none_iff] at he
        omega
      | some cs=>
        rw [hc,Option.bind_some] at he
        have hi':i<elems.length:=by omega
        rw [List.getElem?_eq_getElem hi'] at he
        obtain ⟨y,hy,hw⟩:=read_ok ty e n cs _ h3 he
        exact ⟨y,cs,rfl,hy,hw⟩
     obtain ⟨ys,hy1,hy2⟩:=qea (Q:=fun i y=>∃ (cs:List Value),w.cells? 0 (a.add (i*P.cellsOf e)) (P.cellsOf e)=some cs∧ty.K (fun k=>k<w.heap.size) w y cs∧ty.wf y) len hx
     refine ⟨ys,⟨some a,cap,by rw [hy1],by omega,hm,?_⟩,by omega,fun y hy=>?_⟩
     ·cases ys with
      | nil=>exact .inl rfl
      | cons y0 ys=>
        refine .inr ⟨a,rfl,?_,fun j y hj=>?_⟩
        ·obtain ⟨cs,hc,_,_⟩:=hy2 0 y0 rfl
         obtain ⟨_,hcl,hcc⟩:=World.cells?_some hc
         have hsz:=ty.sz_pos
         have h0:=hcc 0 (by omega)
         have hne:cs[0]?≠none:=by rw [Ne,List.getElem?_eq_none_iff];omega
         rw [←h0] at hne
         cases hw:w.cell? ((a.add (0*P.cellsOf e)).add 0) with
         | none=>exact absurd hw hne
         | some v=>
           have hlt:=World.block_lt_of_cell? _ _ hw
           rwa [qax,qax] at hlt
        ·obtain ⟨cs,hc,hK,_⟩:=hy2 j y hj
         obtain ⟨_,hcl,hcc⟩:=World.cells?_some hc
         refine ⟨cs,hK,fun i u hi=>?_⟩
         rw [←h2]
         have hlt:i<P.cellsOf e:=by
          have:=List.getElem?_eq_some_iff.1 hi
          obtain ⟨h',_⟩:=this
          omega
         rw [hcc i hlt,hi]
     ·obtain ⟨i,hi,rfl⟩:=List.getElem_of_mem hy
      obtain ⟨_,_,_,hw⟩:=hy2 i _ (List.getElem?_eq_getElem hi)
      exact hw
   ·cases hb
 | .pair _ _,_,_,_,_,hb,_=>by simp [tyB] at hb
end Go.Proofs.YtkmpkebaloejhaaDoor.Av
