/- Operations beside objects that are not there yet. Conditions: none. -/
import Derived.Test.YtccnmhdgghjgoaaGreatDoorAv25
namespace Go.Proofs.YtccnmhdgghjgoaaGreatDoor.Av
open Go
theorem qa2 {i:Nat}:∀ (rows:Objs) (objs:Objs),(∀ p∈rows,p.1≠i)→oget (addR rows objs) i=oget objs i
 | [],objs,h=>rfl
 | p::r,objs,h=>by
   show oget (addR r (oset p.1 p.2 objs)) i=_
   rw [qa2 r _ fun q hq=>h q (List.mem_cons_of_mem _ hq),qao _ _ (h p List.mem_cons_self)]
theorem qcm:∀ (rows:Objs) (objs:Objs),(rows.map (·.1)).Nodup→∀ p∈rows,oget (addR rows objs) p.1=some p.2
 | [],objs,h,p,hp=>by cases hp
 | q::r,objs,h,p,hp=>by
   show oget (addR r (oset q.1 q.2 objs)) p.1=_
   rw [List.map_cons,List.nodup_cons] at h
   rcases List.mem_cons.1 hp with rfl | hp
   ·rw [qa2 r _ fun x hx e=>h.1 (List.mem_map.2 ⟨x,hx,e⟩),qan]
   ·exact qcm r _ h.2 p hp
theorem keys_oset {k:Nat} (x:Obj) (ok:Nat→Bool) (hb:ok k=false):∀ l:Objs,((oset k x l).map (·.1)).filter ok=(l.map (·.1)).filter ok
 | []=>by simp [oset,hb]
 | (j,p)::r=>by
   rw [qav]
   by_cases h:k<j
   ·rw [if_pos h];simp [hb]
   ·rw [if_neg h]
    by_cases e:k=j
    ·rw [if_pos e];subst e;simp [hb]
    ·rw [if_neg e]
     have ih:=keys_oset x ok hb r
     simp only [List.map_cons,List.filter_cons,ih]
theorem keys_addR (ok:Nat→Bool):∀ (rows:Objs) (objs:Objs),(∀ p∈rows,ok p.1=false)→((addR rows objs).map (·.1)).filter ok=(objs.map (·.1)).filter ok
 | [],objs,h=>rfl
 | p::r,objs,h=>by
   show ((addR r (oset p.1 p.2 objs)).map (·.1)).filter ok=_
   rw [keys_addR ok r _ fun q hq=>h q (List.mem_cons_of_mem _ hq),keys_oset _ ok (h p List.mem_cons_self)]
theorem qf3 (g:Obj→Obj) (objs:Objs):∀ (m m':Ren) (acc:Objs),layObjs g objs (m++m') acc=layObjs g objs m' (layObjs g objs m acc)
 | [],m',acc=>rfl
 | p::r,m',acc=>by
   rw [List.cons_append,layObjs,layObjs]
   exact qf3 g objs r m' _
theorem qe7 (g:Obj→Obj) {objs objs':Objs}:∀ (m:Ren) (acc:Objs),(∀ p∈m,oget objs p.2=oget objs' p.2)→layObjs g objs m acc=layObjs g objs' m acc
 | [],acc,h=>rfl
 | p::r,acc,h=>by
   rw [layObjs,layObjs,h p List.mem_cons_self]
   exact qe7 g r _ fun q hq=>h q (List.mem_cons_of_mem _ hq)
theorem lay_perm (g:Obj→Obj) (objs:Objs) {m m':Ren} (hp:m.Perm m'):(m.map (·.1)).Nodup→∀ acc,layObjs g objs m acc=layObjs g objs m' acc:=by
 induction hp with
 | nil=>intro _ acc;rfl
 | cons p _ ih=>
   intro nd acc
   rw [layObjs,layObjs]
   rw [List.map_cons,List.nodup_cons] at nd
   exact ih nd.2 _
 | swap p q l=>
   intro nd acc
   have hne:q.1≠p.1:=by
    simp only [List.map_cons,List.nodup_cons,List.mem_cons,not_or] at nd
    exact nd.1.1
   simp only [layObjs]
   congr 1
   cases oget objs q.2 with
   | none=>rfl
   | some o=>
     cases oget objs p.2 with
     | none=>rfl
     | some o'=>exact qde (Ne.symm hne) _ _ _
 | trans h1 _ ih1 ih2=>
   intro nd acc
   rw [ih1 nd acc]
   exact ih2 ((h1.map _).nodup_iff.1 nd) acc
theorem lay_rows {base:Objs}:∀ (rows:Objs) (acc:Objs),(∀ p∈rows,oget base p.1=some p.2)→layObjs id base (same (rows.map (·.1))) acc=addR rows acc
 | [],acc,h=>rfl
 | p::r,acc,h=>by
   show layObjs id base ((p.1,p.1)::same (r.map (·.1))) acc=addR r (oset p.1 p.2 acc)
   rw [layObjs]
   simp only [h p List.mem_cons_self,id_eq]
   exact lay_rows r _ fun q hq=>h q (List.mem_cons_of_mem _ hq)
theorem nodup_of:∀ {l:List Nat},l.Nodup→nodup l=true
 | [],_=>rfl
 | x::r,h=>by
   rw [List.nodup_cons] at h
   simp only [nodup,Bool.and_eq_true,Bool.not_eq_true']
   exact ⟨by simpa using h.1,nodup_of h.2⟩
theorem new_same {l:List Nat} {κ:Nat} (h:κ ∉ l):Ren.new (same l) κ=none:=by
 unfold Ren.new
 have:(same l).find? (fun p=>Nat.beq p.2 κ)=none:=by
  rw [List.find?_eq_none]
  intro p hp hb
  have h1:=qbn.1 hp
  have h2:p.2=κ:=Nat.eq_of_beq_eq_true hb
  exact h (by rw [←h2,←h1.1];exact h1.2)
 rw [this];rfl
theorem qbv:∀ (n:Nat) (l:List Nat),l.length≤n→l.eraseDups.Nodup
 | _,[],_=>by simp
 | 0,a::r,h=>by simp at h
 | n+1,a::r,h=>by
   rw [List.eraseDups_cons,List.nodup_cons]
   refine ⟨fun hm=>?_,qbv n _ ?_⟩
   ·have:=(List.mem_filter.1 (List.mem_eraseDups.1 hm)).2
    simp at this
   ·have:=List.length_filter_le (fun b=>!b == a) r
    simp only [List.length_cons] at h
    omega
theorem qba (l:List Nat):l.eraseDups.Nodup:=qbv l.length l (Nat.le_refl _)
section
variable {R:Type} {r:R} {τ:Nat→Option TI} {B:Ops} {gl:Nat→Option (List CV)} {G:Nat→List AV→Objs→(AV→Objs→Option R)→Option R} {owns:Nat→Nat→Bool}
theorem frozC_addR {rows objs:Objs} (nd:(rows.map (·.1)).Nodup) (hlv:∀ p∈rows,∀ e t xs,p.2≠.froz e t xs) (habs:∀ p∈rows,oget objs p.1=none) (i:Nat):frozC (addR rows objs) i=frozC objs i:=by
 unfold frozC
 by_cases h:∃ p∈rows,p.1=i
 ·obtain ⟨p,hp,rfl⟩:=h
  rw [qcm rows objs nd p hp,habs p hp]
  cases hq:p.2 with
  | froz e t xs=>exact absurd hq (hlv p hp e t xs)
  | dead=>rfl
  | row e t xs=>rfl
  | box ty cs=>rfl
  | mp ty a b l=>rfl
 ·rw [qa2 rows objs fun p hp e=>h ⟨p,hp,e⟩]
theorem renC_addR {rows objs:Objs} (nd:(rows.map (·.1)).Nodup) (hlv:∀ p∈rows,∀ e t xs,p.2≠.froz e t xs) (habs:∀ p∈rows,oget objs p.1=none) (m:Ren):renC m (addR rows objs)=renC m objs:=by
 funext c
 cases c<;>simp only [renC,frozC_addR nd hlv habs]
theorem aframed_less {u:Nat} {o:Oper} {wt:List Nat} {env env':List AV} {rows objs:Objs} {k:AV→Objs→Option R} (nd:(rows.map (·.1)).Nodup) (hrow:∀ p∈rows,p.1∈wt) (hlv:∀ p∈rows,∀ e t xs,p.2≠.froz e t xs) (habs:∀ p∈rows,oget objs p.1=none)
  (hlen:env'.length=env.length) (henv:∀ d,env'.getD d (.c .bot)=env.getD d (.c .bot)∨(env'.getD d (.c .bot)=.c .bot∧∃ p∈rows,env.getD d (.c .bot)=.c (.own p.1)∨env.getD d (.c .bot)=.c (.ptr p.1 0)))
  (hk:aframed τ B gl G owns u o wt env (addR rows objs) k=some r) :
  aframed τ B gl G owns u o (wt.filter fun i=>!(rows.map (·.1)).contains i) env' objs (fun v O=>bif rows.any (fun p=>(oget O p.1).isSome) then none else k v (addR rows O))=some r:=by
 have hR:∀ i,(rows.map (·.1)).contains i=true↔∃ p∈rows,p.1=i:=fun i=>by simp
 have hkey:∀ i∈objs.map (·.1),¬ ∃ p∈rows,p.1=i:=fun i hi=>by
  rintro ⟨p,hp,rfl⟩
  obtain ⟨q,hq,e⟩:=List.mem_map.1 hi
  have:=habs p hp
  have h2:∀ (l:Objs),q∈l→oget l q.1≠none:=by
   intro l
   induction l with
   | nil=>intro h;cases h
   | cons x l ih=>
     intro h hn
     obtain ⟨x1,x2⟩:=x
     simp only [oget] at hn
     cases hb:Nat.beq x1 q.1 with
     | true=>rw [hb] at hn;cases hn
     | false=>
       rw [hb] at hn
       rcases List.mem_cons.1 h with h | h
       ·subst h;simp at hb
       ·exact ih h hn
  exact h2 objs hq (by rw [e];exact this)
 have hm:((addR rows objs).map (·.1)).filter (fun i=>!wt.contains i)=(objs.map (·.1)).filter (fun i=>!(wt.filter fun i=>!(rows.map (·.1)).contains i).contains i):=by
  rw [keys_addR _ rows objs fun p hp=>by simpa using hrow p hp]
  refine List.filter_congr fun i hi=>?_
  have:=hkey i hi
  congr 1
  rw [Bool.eq_iff_iff]
  simp only [List.contains_iff_mem,List.mem_filter,Bool.not_eq_true',Bool.eq_false_iff,ne_eq]
  exact ⟨fun h=>⟨h,fun hc=>this ((hR i).1 (by simpa using hc))⟩,fun h=>h.1⟩
 unfold aframed at hk ⊢
 simp only [] at hk ⊢
 rw [hm] at hk
 generalize hmm:same ((objs.map (·.1)).filter (fun i=>!(wt.filter fun i=>!(rows.map (·.1)).contains i).contains i))=m at hk ⊢
 have hmin:∀ q∈m,¬ ∃ p∈rows,p.1=q.2:=fun q hq=>by
  rw [←hmm] at hq
  have h1:=qbn.1 hq
  have h2:=(List.mem_filter.1 h1.2).1
  rw [←h1.1]
  exact hkey _ h2
 cases hc:(m.fine && (nodup wt.eraseDups && wt.eraseDups.all (liveKey (addR rows objs)))) with
 | false=>rw [hc] at hk;cases hk
 | true=>
 rw [hc] at hk
 simp only [cond_true] at hk
 simp only [Bool.and_eq_true,List.all_eq_true] at hc
 obtain ⟨hmf,hnd,hlive⟩:=hc
 have hc2:(m.fine && (nodup (wt.filter fun i=>!(rows.map (·.1)).contains i).eraseDups && (wt.filter fun i=>!(rows.map (·.1)).contains i).eraseDups.all (liveKey objs)))=true:=by
  simp only [Bool.and_eq_true,List.all_eq_true]
  refine ⟨hmf,nodup_of (qba _),fun κ hκ=>?_⟩
  have h1:=List.mem_filter.1 (List.mem_eraseDups.1 hκ)
  have h2:=hlive κ (List.mem_eraseDups.2 h1.1)
  have h3:¬ ∃ p∈rows,p.1=κ:=fun h=>by
   have:=(hR κ).2 h
   have h4:=h1.2
   rw [this] at h4;cases h4
  unfold liveKey at h2 ⊢
  rw [qa2 rows objs fun p hp e=>h3 ⟨p,hp,e⟩] at h2
  exact h2
 rw [hc2]
 simp only [cond_true]
 have hperm:(same wt.eraseDups).Perm (same (wt.filter fun i=>!(rows.map (·.1)).contains i).eraseDups++same (rows.map (·.1))):=by
  have:same (wt.filter fun i=>!(rows.map (·.1)).contains i).eraseDups++same (rows.map (·.1))=same ((wt.filter fun i=>!(rows.map (·.1)).contains i).eraseDups++rows.map (·.1)):=by simp [same]
  rw [this]
  refine List.Perm.map _ ?_
  refine (List.perm_ext_iff_of_nodup (qba _) ?_).2 fun κ=>?_
  ·rw [List.nodup_append]
   refine ⟨qba _,nd,fun a ha b hb e=>?_⟩
   subst e
   have h1:=List.mem_filter.1 (List.mem_eraseDups.1 ha)
   have h2:=h1.2
   rw [show (rows.map (·.1)).contains a=true by simpa using hb] at h2
   cases h2
  ·rw [List.mem_append,List.mem_eraseDups,List.mem_eraseDups,List.mem_filter]
   constructor
   ·intro h
    cases hx:(rows.map (·.1)).contains κ with
    | true=>exact .inr (by simpa using hx)
    | false=>exact .inl ⟨h,rfl⟩
   ·rintro (h | h)
    ·exact h.1
    ·obtain ⟨p,hp,rfl⟩:=List.mem_map.1 h
     exact hrow p hp
 have hsnd:((same wt.eraseDups).map (·.1)).Nodup:=by
  have:(same wt.eraseDups).map (·.1)=wt.eraseDups:=by simp [same,List.map_map,Function.comp_def]
  rw [this];exact qba _
 have hcont:(fun v objs'=>bif wt.eraseDups.all fun i=>(oget objs' i).isNone then k v (layObjs id (addR rows objs) (same wt.eraseDups) objs') else none) =
   (fun v objs'=>bif (wt.filter fun i=>!(rows.map (·.1)).contains i).eraseDups.all fun i=>(oget objs' i).isNone then (bif rows.any (fun p=>(oget (layObjs id objs (same (wt.filter fun i=>!(rows.map (·.1)).contains i).eraseDups) objs') p.1).isSome) then none else k v (addR rows (layObjs id objs (same (wt.filter fun i=>!(rows.map (·.1)).contains i).eraseDups) objs'))) else none):=by
  funext v O
  have hO2:∀ p∈rows,oget (layObjs id objs (same (wt.filter fun i=>!(rows.map (·.1)).contains i).eraseDups) O) p.1=oget O p.1:=fun p hp=>qdv id objs p.1 _ _ fun i hi=>by
   have h1:=(qbn.1 hi).2
   have h2:=(List.mem_filter.1 (List.mem_eraseDups.1 h1)).2
   rw [show (rows.map (·.1)).contains p.1=true from (hR _).2 ⟨p,hp,rfl⟩] at h2
   cases h2
  have hlay:layObjs id (addR rows objs) (same wt.eraseDups) O=addR rows (layObjs id objs (same (wt.filter fun i=>!(rows.map (·.1)).contains i).eraseDups) O):=by
   rw [lay_perm id _ hperm hsnd,qf3,lay_rows rows _ fun p hp=>qcm rows objs nd p hp]
   congr 1
   refine qe7 id _ _ fun q hq=>qa2 rows objs fun p hp e=>?_
   have h1:=qbn.1 hq
   have h2:=(List.mem_filter.1 (List.mem_eraseDups.1 h1.2)).2
   rw [show (rows.map (·.1)).contains q.1=true from (hR _).2 ⟨p,hp,e.trans h1.1.symm⟩] at h2
   cases h2
  cases ha:wt.eraseDups.all fun i=>(oget O i).isNone with
  | true=>
    have h1:=List.all_eq_true.1 ha
    have h2:((wt.filter fun i=>!(rows.map (·.1)).contains i).eraseDups.all fun i=>(oget O i).isNone)=true:=List.all_eq_true.2 fun i hi=>h1 i (List.mem_eraseDups.2 (List.mem_filter.1 (List.mem_eraseDups.1 hi)).1)
    have h3:(rows.any fun p=>(oget (layObjs id objs (same (wt.filter fun i=>!(rows.map (·.1)).contains i).eraseDups) O) p.1).isSome)=false:=by
     rw [Bool.eq_false_iff]
     intro h
     obtain ⟨p,hp,h⟩:=List.any_eq_true.1 h
     rw [hO2 p hp] at h
     have:=h1 p.1 (List.mem_eraseDups.2 (hrow p hp))
     cases ho:oget O p.1<;>rw [ho] at h this<;>simp at h this
    rw [h2,h3,hlay]
    rfl
  | false=>
    cases h2:(wt.filter fun i=>!(rows.map (·.1)).contains i).eraseDups.all fun i=>(oget O i).isNone with
    | false=>rfl
    | true=>
      have h3:(rows.any fun p=>(oget (layObjs id objs (same (wt.filter fun i=>!(rows.map (·.1)).contains i).eraseDups) O) p.1).isSome)=true:=by
       rw [Bool.eq_false_iff] at ha
       refine Classical.byContradiction fun hno=>ha (List.all_eq_true.2 fun i hi=>?_)
       cases hx:(rows.map (·.1)).contains i with
       | false=>exact List.all_eq_true.1 h2 i (List.mem_eraseDups.2 (List.mem_filter.2 ⟨List.mem_eraseDups.1 hi,by rw [hx];rfl⟩))
       | true=>
         obtain ⟨p,hp,rfl⟩:=(hR i).1 hx
         cases ho:oget O p.1 with
         | none=>rfl
         | some q=>exact absurd (List.any_eq_true.2 ⟨p,hp,by rw [hO2 p hp,ho];rfl⟩) hno
      rw [h3];rfl
 rw [hcont] at hk
 have hC:=renC_addR nd hlv habs m
 have hA:∀ v,renA m (addR rows objs) v=renA m objs v:=fun v=>by
  cases v<;>simp only [renA,hC]
 have hO:renO m (addR rows objs)=renO m objs:=by
  funext q
  cases q<;>simp only [renO,hC]
 have hobj:renObjs m (addR rows objs)=renObjs m objs:=by
  unfold renObjs
  rw [hO]
  exact qe7 _ _ _ fun q hq=>qa2 rows objs fun p hp e=>hmin q hq ⟨p,hp,e⟩
 have hnew:∀ p∈rows,m.new p.1=none:=fun p hp=>by
  rw [←hmm]
  exact new_same fun h=>hkey p.1 (List.mem_filter.1 h).1 ⟨p,hp,rfl⟩
 have hEnv:env.map (renA m (addR rows objs))=env'.map (renA m objs):=by
  apply List.ext_getElem
  ·simp [hlen]
  ·intro d h1 h2
   rw [List.length_map] at h1 h2
   rw [List.getElem_map,List.getElem_map,hA]
   have g1:env.getD d (.c .bot)=env[d]:=by rw [List.getD_eq_getElem?_getD,List.getElem?_eq_getElem h1];rfl
   have g2:env'.getD d (.c .bot)=env'[d]:=by rw [List.getD_eq_getElem?_getD,List.getElem?_eq_getElem h2];rfl
   rcases henv d with h | ⟨h,p,hp,h' | h'⟩
   ·rw [g1,g2] at h;rw [h]
   ·rw [g1] at h';rw [g2] at h
    rw [h,h']
    have hz:frozC objs p.1=.bot:=by unfold frozC;rw [habs p hp]
    simp only [renA,renC,hnew p hp,hz]
   ·rw [g1] at h';rw [g2] at h
    rw [h,h']
    simp only [renA,renC,hnew p hp]
 rw [hEnv,hobj] at hk
 exact hk
end
end Go.Proofs.YtccnmhdgghjgoaaGreatDoor.Av
