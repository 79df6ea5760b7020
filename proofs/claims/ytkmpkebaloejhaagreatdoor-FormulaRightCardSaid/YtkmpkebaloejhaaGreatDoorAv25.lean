/- Regions whose order is drawn: what qcg leans on. Conditions: none. -/
import Derived.Test.YtkmpkebaloejhaaGreatDoorAv23
namespace Go.Proofs.YtkmpkebaloejhaaGreatDoor.Av
open Go
section
variable {R:Type} {old fz0:Nat→Prop} {ρ0:Nat→Value} {w0:World} {objs0:Objs} {r:R} {P:Program} {τ:Nat→Option TI} {B:Ops} {gl:Nat→Option (List CV)}
 {G:Nat→List AV→Objs→(AV→Objs→Option R)→Option R} {owns:Nat→Nat→Bool}
theorem watch_ok {fz:Nat→Prop} {ρ:Nat→Value} {w:World} {objs:Objs} {t:Nat} {x:AV} {k:AV→Option R} {ad:Addr} {ks:List Nat} (h:OR fz old ρ w objs) (hx:AVR fz ρ w objs x (.pointer (some ad))) (hk:aload τ t x objs k=some r) (hw:watchOf x=some ks) :
  (∀ κ∈ks,∃ o,oget objs κ=some o)∧(fz ad.block∨∃ κ∈ks,blkV (ρ κ)=some ad.block):=by
 unfold aload at hk
 split at hk
 ·rename_i ti hti
  split at hk
  ·rename_i i off n j
   cases hw
   split at hk
   ·rename_i ty cs ho
    simp only [AVR,ho] at hx
    obtain ⟨g,hg,hj,hx⟩:=hx
    refine ⟨fun κ hκ=>by simp at hκ;subst hκ;exact ⟨_,ho⟩,.inr ⟨i,by simp,?_⟩⟩
    rw [hg]
    simp only [Value.pointer.injEq,Option.some.injEq] at hx
    rw [hx,qa1];rfl
   ·cases hk
  ·split at hk
   rotate_left
   ·cases hk
   rename_i l hl
   unfold cellsAt at hl
   split at hl
   ·rename_i i off _
    cases hw
    split at hl
    ·rename_i ty cs ho
     simp only [AVR,CVR,ho] at hx
     obtain ⟨g,hg,hx⟩:=hx
     refine ⟨fun κ hκ=>by simp at hκ;subst hκ;exact ⟨_,ho⟩,.inr ⟨i,by simp,?_⟩⟩
     rw [hg]
     simp only [Value.pointer.injEq,Option.some.injEq] at hx
     rw [hx,qa1];rfl
    ·cases hl
   ·obtain ⟨ad',cs,he,_,hb,_⟩:=hx
    cases he
    cases hw
    exact ⟨fun κ hκ=>by simp at hκ,.inl hb⟩
   ·rename_i i j off _
    cases hw
    split at hl
    ·rename_i e t xs hr
     obtain ⟨ho,A',c,hV,_,_,_⟩:=qar h hr
     have he:EltR t xs.length (ρ i) j off (.pointer (some ad)):=by
      rcases ho with ho | ho<;>simpa [AVR,ho] using hx
     obtain ⟨_,ad0,m,c',hV',hE⟩:=he
     refine ⟨fun κ hκ=>by simp at hκ;subst hκ;rcases ho with ho | ho<;>exact ⟨_,ho⟩,.inr ⟨i,by simp,?_⟩⟩
     ·rw [hV']
      simp only [Value.pointer.injEq,Option.some.injEq] at hE
      rw [hE,qa1];rfl
    ·cases hl
   ·cases hl
 ·cases hk
def Prot (old fz:Nat→Prop) (ρ:Nat→Value) (watch:List (Nat×Nat)) (j g:Nat):Prop:=fz g∨old g∨∃ κ,(j,κ)∈watch∧blkV (ρ κ)=some g
theorem loadOf_ok {o:Op} {x:Operand} (h:loadOf o=some x):∃ t,o=.load t x:=by
 cases o<;>simp [loadOf] at h
 subst h;exact ⟨_,rfl⟩
theorem aftL_ok {ops:Array Oper} {i j:Nat} {oj:Oper} (hj:ops[j]?=some oj) (h:afterOf ops j i=true):∃ e∈oj.after,Region.binds .any e=true∧(e.on=i∨afterOf ops e.on i=true):=by
 have key:∀ (l:List Nat) (acc:List Nat),(∀ k∈acc,∀ ok,ops[k]?=some ok→∃ e∈ok.after,Region.binds .any e=true∧(e.on=i∨e.on∈acc))→
   ∀ k∈l.foldl (aftStep ops i) acc,∀ ok,ops[k]?=some ok→∃ e∈ok.after,Region.binds .any e=true∧(e.on=i∨e.on∈l.foldl (aftStep ops i) acc):=by
  intro l
  induction l with
  | nil=>intro acc hacc;exact hacc
  | cons x l ih=>
    intro acc hacc
    refine ih _ ?_
    unfold aftStep
    cases hc:aftHit ops i acc x with
    | false=>simp only [cond_false];exact hacc
    | true=>
      simp only [cond_true]
      intro k hk ok hok
      rcases List.mem_cons.1 hk with rfl | hk
      ·unfold aftHit at hc
       rw [Array.getElem?_toList,hok] at hc
       simp only [Array.any_eq_true] at hc
       obtain ⟨m,hm,hx⟩:=hc
       simp only [Bool.and_eq_true,Bool.or_eq_true] at hx
       refine ⟨_,Array.getElem_mem hm,hx.1,?_⟩
       rcases hx.2 with h1 | h1
       ·exact .inl (Nat.eq_of_beq_eq_true h1)
       ·exact .inr (List.mem_cons_of_mem _ (by simpa using h1))
      ·obtain ⟨e,h1,h2,h3⟩:=hacc k hk ok hok
       exact ⟨e,h1,h2,h3.imp id (List.mem_cons_of_mem _)⟩
 unfold afterOf at h ⊢
 obtain ⟨e,h1,h2,h3⟩:=key (List.range ops.size) [] (fun k hk=>by cases hk) j (by simpa [aftL] using h) oj hj
 exact ⟨e,h1,h2,h3.imp id fun h=>by simpa [aftL] using h⟩
theorem aftOk_ok {x:Operand} {ops:Array Oper} {i:Nat} {listed:Array Bool} (h:(bif (some (α:=Operand) x).isSome then aftOk ops i listed else true)=true) {k:Nat} (hk:listed.getD k false=true):afterOf ops k i=false:=by
 simp only [Option.isSome_some,cond_true] at h
 cases hx:afterOf ops k i with
 | false=>rfl
 | true=>
   unfold aftOk at h
   unfold afterOf at hx
   have:=List.all_eq_true.1 h k (by simpa using hx)
   rw [hk] at this
   cases this
theorem PT.len_pos {ops:Array Oper} {listed:Array Bool}:∀ {t:PT},planB τ ops t true listed=true→0<t.len
 | .done,h=>by simp [planB] at h
 | .op i t,_=>by simp [PT.len]
 | .alt t u,h=>by
   simp only [planB,Bool.and_eq_true] at h
   exact Nat.lt_of_lt_of_le (PT.len_pos h.2.1) (Nat.le_max_left _ _)
theorem PT.head_ready {ops:Array Oper} {listed:Array Bool}:∀ {t:PT},planB τ ops t true listed=true→∃ i,i∈Region.ready .any ops listed
 | .done,h=>by simp [planB] at h
 | .op i t,h=>by
   simp only [planB] at h
   split at h
   ·cases h
   ·simp only [Bool.and_eq_true] at h
    exact ⟨i,by simpa using h.1⟩
 | .alt t u,h=>by
   simp only [planB,Bool.and_eq_true] at h
   exact PT.head_ready h.2.1
theorem unl_set {listed:Array Bool} {i j:Nat} (hj:(listed.setIfInBounds i true).getD j true=false):listed.getD j true=false∧j≠i:=by
 by_cases hji:i=j
 ·subst hji
  exfalso
  simp only [Array.getD_eq_getD_getElem?] at hj
  by_cases hb:i<listed.size
  ·simp [hb] at hj
  ·simp [Array.getElem?_eq_none (show (listed.setIfInBounds i true).size≤i by simp;omega)] at hj
 ·rw [getD_set_ne true hji] at hj;exact ⟨hj,Ne.symm hji⟩
theorem Prot.mono {old fz fz':Nat→Prop} {ρ ρ':Nat→Value} {watch:List (Nat×Nat)} {objs objs':Objs} {w w':World} (hW:∀ p∈watch,∃ o,oget objs p.2=some o) (he:Ext objs ρ objs' ρ') (hfm:Frm fz old w fz' w') {j g:Nat} (hpr:Prot old fz ρ watch j g):Prot old fz' ρ' watch j g:=by
 rcases hpr with h1 | h1 | ⟨κ,h1,h2⟩
 ·exact .inl (hfm.up g h1)
 ·exact .inr (.inl h1)
 ·obtain ⟨q,hq⟩:=hW _ h1
  obtain ⟨e1,_⟩:=he.at_ κ q hq
  exact .inr (.inr ⟨κ,h1,by rw [e1];exact h2⟩)
theorem qev {d da:Nat} (h:d≠da) (v:AV) (env:List AV):(eput (some da) v env).getD d (.c .bot)=env.getD d (.c .bot):=by
 show (env.set da v).getD d _=_
 rw [List.getD_eq_getElem?_getD,List.getElem?_set_ne (Ne.symm h),List.getD_eq_getElem?_getD]
end
end Go.Proofs.YtkmpkebaloejhaaGreatDoor.Av
