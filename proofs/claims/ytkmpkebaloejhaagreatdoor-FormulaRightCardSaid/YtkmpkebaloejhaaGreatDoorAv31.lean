/- A region's order with operations that only make objects: the theorem. Conditions: none. -/
import Derived.Test.YtkmpkebaloejhaaGreatDoorAv30
namespace Go.Proofs.YtkmpkebaloejhaaGreatDoor.Av
open Go
section
variable {R:Type} {old fz0:Nat→Prop} {ρ0:Nat→Value} {w0:World} {objs0:Objs} {r:R} {P:Program} {τ:Nat→Option TI} {B:Ops} {gl:Nat→Option (List CV)}
 {G:Nat→List AV→Objs→(AV→Objs→Option R)→Option R} {owns:Nat→Nat→Bool}
theorem MS.noaft {ops:Array Oper} {base:Nat} {watch:List (Nat×Nat)} {T:Nat→Nat→Prop} {ds:List Nat} {D:List Fr} {Lc La:Array Bool} {env envC:List AV} {objs objsC:Objs} {a:Act} {w:World} {fz:Nat→Prop} {ρ:Nat→Value}
  (s:MS gl old fz0 ρ0 w0 objs0 τ ops base watch T ds D Lc La env envC objs objsC a w fz ρ) {x:Nat} (hx:x∈Region.ready .any ops Lc) {g:Fr} (hg:g∈D):afterOf ops x g.1=false:=by
 obtain ⟨_,o,ho,hafter⟩:=mem_ready.1 hx
 rw [Bool.eq_false_iff]
 intro hx'
 obtain ⟨ed,h1,h2,h3⟩:=aftL_ok ho hx'
 have h4:=hafter ed h1 h2
 rcases h3 with h3 | h3
 ·rw [h3,s.li g.1,show (D.map (·.1)).contains g.1=true from List.contains_iff_mem.2 (List.mem_map.2 ⟨g,hg,rfl⟩)] at h4
  simp at h4
 ·rw [s.aft _ h4 g hg] at h3;cases h3
theorem MS.other {ops:Array Oper} {base:Nat} {watch:List (Nat×Nat)} {T:Nat→Nat→Prop} {ds:List Nat} {D:List Fr} {Lc La:Array Bool} {env envC:List AV} {objs objsC O:Objs} {a a':Act} {w w':World} {fz fz':Nat→Prop} {ρ ρ':Nat→Value}
  (s:MS gl old fz0 ρ0 w0 objs0 τ ops base watch T ds D Lc La env envC objs objsC a w fz ρ) {x:Nat} (hx:x∈Region.ready .any ops Lc) (hxD:∀ f∈D,f.1≠x) {dst:Option Nat} (hd:∀ d,dst=some d→d∈ds∧∀ f∈D,f.2.1≠d) {v:AV}
  (s':St gl old fz0 ρ0 w0 objs0 fz' ρ' (eput dst v envC) O a' w') (he:Ext objsC ρ O ρ') (hfm:Frm fz old w fz' w') (hab:∀ p∈rowsOf D,oget O p.1=none) :
  MS gl old fz0 ρ0 w0 objs0 τ ops base watch T ds D (Lc.setIfInBounds x true) (La.setIfInBounds x true) (eput dst v env) (eput dst v envC) (addR (rowsOf D) O) O a' w' fz' ρ':=by
 have hun:=getD_tf.1 (mem_ready.1 hx).1
 have hnc:(D.map (·.1)).contains x=false:=by
  rw [Bool.eq_false_iff]
  intro h
  obtain ⟨g,hg,e⟩:=List.mem_map.1 (List.contains_iff_mem.1 h)
  exact hxD g hg e
 have hne:∀ f∈D,∀ e:List AV,(eput dst v e).getD f.2.1 (.c .bot)=e.getD f.2.1 (.c .bot):=fun f hf e=>by
  cases hdd:dst with
  | none=>rfl
  | some d=>exact qev ((hd d hdd).2 f hf) v e
 refine ⟨s',fun p hp=>?_,by simp [s.sz],fun y=>?_,s.ndi,fun y hy g hg=>?_,fun g hg=>?_,fun g hg=>by rw [getD_set_ne false (Ne.symm (hxD g hg))];exact s.inn g hg,s.ndk,hab,rfl,?_,fun d=>?_,fun g hg=>by rw [hne g hg];exact s.ev g hg,s.ndd,fun g hg=>?_,fun g hg b hb=>Nat.lt_of_lt_of_le (s.hts g hg b hb) hfm.size,fun j g hj ht=>(s.htp j g (unl_set hj).1 ht).mono s.hw he hfm⟩
 ·obtain ⟨q,hq⟩:=s.hw p hp
  obtain ⟨_,q',hq',_⟩:=he.at_ _ q hq
  exact ⟨q',hq'⟩
 ·by_cases e:x=y
  ·subst e
   have h1:(Lc.setIfInBounds x true).getD x false=true:=by
    rw [Array.getD_eq_getD_getElem?];simp [hun.1]
   have h2:(La.setIfInBounds x true).getD x false=true:=by
    rw [Array.getD_eq_getD_getElem?];simp [←s.sz,hun.1]
   rw [h1,h2,hnc];rfl
  ·rw [getD_set_ne false e,getD_set_ne false e,s.li y]
 ·by_cases e:x=y
  ·subst e;exact s.noaft hx hg
  ·rw [getD_set_ne false e] at hy
   exact s.aft y hy g hg
 ·obtain ⟨h1,o,ho,h2⟩:=mem_ready.1 (s.rdy g hg)
  refine mem_ready.2 ⟨by rw [getD_set_ne true (Ne.symm (hxD g hg))];exact h1,o,ho,fun ed h3 h4=>?_⟩
  have h5:=h2 ed h3 h4
  by_cases e:x=ed.on
  ·rw [←e,hun.2] at h5;cases h5
  ·rw [getD_set_ne false e];exact h5
 ·cases dst with
  | none=>exact s.len
  | some d=>simp [eput,s.len]
 ·cases hdd:dst with
  | none=>exact s.en d
  | some d0=>
    by_cases e:d=d0
    ·subst e
     left
     show (envC.set d v).getD d _=(env.set d v).getD d _
     simp only [List.getD_eq_getElem?_getD,List.getElem?_set,s.len]
     by_cases hl:d<env.length
     ·simp [hl]
     ·simp [hl]
    ·rw [qev e,qev e]
     exact s.en d
 ·obtain ⟨h0,o,h1,h2,h3,h4,h5,h6,h7⟩:=s.fr g hg
  refine ⟨h0,o,h1,h2,h3,h4,?_,h6,h7⟩
  cases hdd:dst with
  | none=>exact h5
  | some d0=>rw [freshOf_put h4 (hd d0 hdd).1];exact h5
end
end Go.Proofs.YtkmpkebaloejhaaGreatDoor.Av
