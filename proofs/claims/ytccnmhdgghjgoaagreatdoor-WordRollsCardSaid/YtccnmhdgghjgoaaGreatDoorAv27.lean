/- Operations that only make objects. Conditions: none. -/
import Derived.Test.YtccnmhdgghjgoaaGreatDoorAv26
namespace Go.Proofs.YtccnmhdgghjgoaaGreatDoor.Av
open Go
theorem plnC_val {c:CV} (h:plnC c=true) (objs:Objs):cellVal objs c=c∧goodC objs c=true∧asVal objs (.c c)=some (.c c)∧keyOf (.c c)=[]:=by
 cases c<;>first | exact ⟨rfl,rfl,rfl,rfl⟩ | cases h
theorem qcy {ty:Ty} {v:AV} (h:plnV v=true) (objs:Objs):intoElem ty v objs=(intoElem ty v []).map fun x=>(x.1,objs):=by
 have fin:∀ z:Option (ty.den×List CV),(match z with | some (x,[])=>some (x,objs) | _=>none:Option (ty.den×Objs))=((match z with | some (x,[])=>some (x,([]:Objs)) | _=>none:Option (ty.den×Objs))).map (fun x=>(x.1,objs)):=fun z=>by
  cases z with
  | none=>rfl
  | some x=>
    obtain ⟨x,l⟩:=x
    cases l<;>rfl
 unfold plnV at h
 split at h
 ·rename_i c
  obtain ⟨a1,a2,a3,a4⟩:=plnC_val h objs
  obtain ⟨b1,b2,b3,b4⟩:=plnC_val h []
  unfold intoElem
  simp only [a3,b3,cellsOf,a2,b2,cond_true,List.map_cons,List.map_nil,a1,b1,a4]
  exact fin _
 ·rename_i l
  have hl:∀ c∈l,plnC c=true:=fun c hc=>List.all_eq_true.1 h c hc
  have m1:∀ o:Objs,l.map (cellVal o)=l:=fun o=>by
   conv=>rhs;rw [←List.map_id l]
   exact List.map_congr_left fun c hc=>(plnC_val (hl c hc) o).1
  have kk:keyOf (.agg l)=[]:=by
   show l.filterMap _=[]
   rw [List.filterMap_eq_nil_iff]
   intro c hc
   have:=hl c hc
   cases c<;>first | rfl | cases this
  have as:∀ o:Objs,asVal o (.agg l)=some (.agg l):=fun _=>rfl
  have ce:∀ o:Objs,cellsOf o (.agg l)=some l:=fun _=>rfl
  unfold intoElem
  simp only [as,ce,m1,kk]
  exact fin _
 ·cases h
theorem qe8 {ty:Ty} (objs:Objs):∀ (ps:List (Nat×AV)) (j:Nat),(∀ q∈ps,plnV q.2=true)→elems ty ps j objs=(elems ty ps j []).map fun x=>(x.1,objs)
 | [],j,h=>rfl
 | (i,v)::r,j,h=>by
   have hr:∀ q∈r,plnV q.2=true:=fun q hq=>h q (List.mem_cons_of_mem _ hq)
   have hv:=h (i,v) List.mem_cons_self
   have ih:=qe8 (ty:=ty) objs r (j+1) hr
   simp only [elems]
   cases Nat.beq i j with
   | false=>rfl
   | true=>
     simp only [cond_true]
     rw [qcy hv objs,qcy hv []]
     cases intoElem ty v [] with
     | none=>rfl
     | some x=>
       simp only [Option.map_some]
       rw [ih]
       cases elems ty r (j+1) [] with
       | none=>rfl
       | some y=>rfl
theorem qdf (u:Nat):∀ (cells:List CV) (j:Nat) (cty:List (Option (Nat×Ty))) (objs:Objs),boxCells u j cells cty objs=((boxCells u j cells cty []).1,addR (bxRows u j cells cty) objs)
 | [],j,cty,objs=>by simp [boxCells,bxRows,addR]
 | c::r,j,[],objs=>by
   have h1:∀ o,boxCells u j (c::r) [] o=(c::r,o):=fun o=>by cases c<;>rfl
   have h2:bxRows u j (c::r) []=[]:=by cases c<;>rfl
   rw [h1,h1,h2];rfl
 | c::r,j,y::q,objs=>by
   have ih:=qdf u r (j+1) q
   by_cases hn:c=.nil∧∃ e t,y=some (e,t)
   ·obtain ⟨rfl,e,t,rfl⟩:=hn
    show ((CV.own (u+j)::(boxCells u (j+1) r q (oset (u+j) (.row e t []) objs)).1,(boxCells u (j+1) r q (oset (u+j) (.row e t []) objs)).2):List CV×Objs)=((CV.own (u+j)::(boxCells u (j+1) r q (oset (u+j) (.row e t []) [])).1),_)
    rw [ih (oset (u+j) (.row e t []) objs),ih (oset (u+j) (.row e t []) [])]
    rfl
   ·have h1:∀ o,boxCells u j (c::r) (y::q) o=(c::(boxCells u (j+1) r q o).1,(boxCells u (j+1) r q o).2):=fun o=>by
     cases c<;>first | rfl | (cases y with
      | none=>rfl
      | some z=>exact absurd ⟨rfl,z.1,z.2,rfl⟩ hn)
    have h2:bxRows u j (c::r) (y::q)=bxRows u (j+1) r q:=by
     cases c<;>first | rfl | (cases y with
      | none=>rfl
      | some z=>exact absurd ⟨rfl,z.1,z.2,rfl⟩ hn)
    rw [h1,h1,h2,ih objs]
theorem qc3:∀ (a b:Objs) (objs:Objs),addR (a++b) objs=addR b (addR a objs)
 | [],b,objs=>rfl
 | p::r,b,objs=>by
   rw [List.cons_append,addR,addR]
   exact qc3 r b _
theorem freshOf_aop {R:Type} (τ:Nat→Option TI) (B:Ops) (gl:Nat→Option (List CV)) (G:Nat→List AV→Objs→(AV→Objs→Option R)→Option R) (owns:Nat→Nat→Bool) {o:Oper} {u:Nat} {env:List AV} {v:AV} {rows:Objs} (h:freshOf τ gl u o env=some (v,rows)) {objs:Objs} (habs:∀ p∈rows,oget objs p.1=none) (k:AV→Objs→Option R) :
  aop τ B gl G owns u o env objs k=k v (addR rows objs):=by
 unfold freshOf at h
 split at h
 ·rename_i t len parts hop
  split at h
  ·rename_i e0 a1 a2 a3 a4 a5 a6 a7 ht
   split at h
   ·rename_i ty0 hty
    cases hc:((Nat.beq len (parts.toList.map fun p=>(p.1,rdop gl p.2 env)).length && Nat.ble (len*ty0.sz) 16777216) && (parts.toList.map fun p=>(p.1,rdop gl p.2 env)).all fun p=>plnV p.2) with
    | false=>rw [hc] at h;cases h
    | true=>
      rw [hc] at h
      simp only [cond_true] at h
      simp only [Bool.and_eq_true] at hc
      obtain ⟨⟨c1,c2⟩,c3⟩:=hc
      split at h
      ·rename_i xs0 o0 hxs
       cases h
       have hel:=qe8 (ty:=ty0) objs (parts.toList.map fun p=>(p.1,rdop gl p.2 env)) 0 fun q hq=>List.all_eq_true.1 c3 q hq
       rw [hxs] at hel
       unfold aop
       rw [hop]
       simp only
       unfold abuildSlice
       rw [ht]
       simp only [hty,c1,c2,Bool.and_self,cond_true,hel,Option.map_some]
       unfold freshly
       rw [habs _ List.mem_cons_self]
       rfl
      ·cases h
   ·cases h
  ·cases h
 ·rename_i t hop
  cases ht:τ t with
  | none=>rw [ht] at h;cases h
  | some ti=>
    rw [ht] at h
    simp only at h
    cases hc:(List.range (ti.zero.length+1)).all fun j=>Nat.beq j 0 || (bxRows (u+1) 0 ti.zero ti.cty).any fun p=>Nat.beq p.1 (u+j) with
    | false=>rw [hc] at h;cases h
    | true=>
      rw [hc] at h
      simp only [cond_true,Option.some.injEq,Prod.mk.injEq] at h
      obtain ⟨rfl,rfl⟩:=h
      have hroom:((List.range (ti.zero.length+1)).all fun j=>(oget objs (u+j)).isNone)=true:=List.all_eq_true.2 fun j hj=>by
       have h1:=List.all_eq_true.1 hc j hj
       rcases Bool.eq_false_or_eq_true (Nat.beq j 0) with h0 | h0
       ·have:j=0:=Nat.eq_of_beq_eq_true h0
        subst this
        have:=habs (u,.box t (boxCells (u+1) 0 ti.zero ti.cty []).1) (by simp)
        simp only [Nat.add_zero,this];rfl
       ·rw [h0,Bool.false_or] at h1
        obtain ⟨p,hp,h2⟩:=List.any_eq_true.1 h1
        have h3:p.1=u+j:=Nat.eq_of_beq_eq_true h2
        have:=habs p (List.mem_append_left _ hp)
        rw [h3] at this
        rw [this];rfl
      unfold aop
      rw [hop]
      simp only [ht]
      unfold newBox
      simp only [hroom,cond_true]
      rw [qdf (u+1) ti.zero 0 ti.cty objs,qc3]
      rfl
 ·cases h
end Go.Proofs.YtccnmhdgghjgoaaGreatDoor.Av
