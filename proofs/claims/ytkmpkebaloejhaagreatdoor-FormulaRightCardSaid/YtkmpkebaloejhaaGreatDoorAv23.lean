/- States that are reached,and one operation. Conditions: none. -/
import Derived.Test.YtkmpkebaloejhaaGreatDoorAv21
namespace Go.Proofs.YtkmpkebaloejhaaGreatDoor.Av
open Go
section
variable {R:Type} {old fz0:Nat→Prop} {ρ0:Nat→Value} {w0:World} {objs0:Objs} {r:R} {P:Program} {τ:Nat→Option TI} {B:Ops} {gl:Nat→Option (List CV)}
 {G:Nat→List AV→Objs→(AV→Objs→Option R)→Option R} {owns:Nat→Nat→Bool} {keep:List Nat}
structure St (gl:Nat→Option (List CV)) (old fz0:Nat→Prop) (ρ0:Nat→Value) (w0:World) (objs0:Objs) (fz:Nat→Prop) (ρ:Nat→Value) (env:List AV) (objs:Objs) (a:Act) (w:World):Prop where
 or_:OR fz old ρ w objs
 env_:EnvR fz ρ w objs env a.tmps
 gl_:GlR fz w gl
 frm:Frm fz0 old w0 fz w
 bk:Bk objs0 ρ0 objs ρ
 nd:a.defers=[]
def Now (gl:Nat→Option (List CV)) (old fz0:Nat→Prop) (ρ0:Nat→Value) (w0:World) (objs0:Objs) (env:List AV) (objs:Objs) (a:Act) (w:World):Prop:=
 ∃ fz ρ,St gl old fz0 ρ0 w0 objs0 fz ρ env objs a w
theorem Bk.ext {objs objs':Objs} {ρ ρ':Nat→Value} (h:Bk objs0 ρ0 objs ρ) (e:Ext objs ρ objs' ρ'):Bk objs0 ρ0 objs' ρ':=fun n ty cs hn=>by
 obtain ⟨h1,cs',h2⟩:=h n ty cs hn
 obtain ⟨h3,o',h4,h5⟩:=e.at_ n _ h2
 obtain ⟨cs'',rfl⟩:=h5
 exact ⟨h3.trans h1,cs'',h4⟩
theorem put_defers (a:Act) (dst:Option Tmp) (v:Value):(a.put dst v).defers=a.defers:=by cases dst<;>rfl
theorem St.lands {fz:Nat→Prop} {ρ:Nat→Value} {env:List AV} {objs:Objs} {a:Act} {w w':World} {k:AV→Objs→Option R} {V:Value} (s:St gl old fz0 ρ0 w0 objs0 fz ρ env objs a w) (h:Lands old fz ρ w objs k r V w') (dst:Option Tmp) :
  ∃ v objs',k v objs'=some r∧Now gl old fz0 ρ0 w0 objs0 (eput dst v env) objs' (a.put dst V) w':=by
 obtain ⟨v,objs',fz',ρ',h1,h2,h3,h4,h5⟩:=h
 exact ⟨v,objs',h1,fz',ρ',h3,(s.env_.mono h4 h5.up h5.fzw).put h2 dst,s.gl_.mono h5.up h5.fzw,s.frm.trans h5,s.bk.ext h4,by rw [put_defers];exact s.nd⟩
theorem aop_wp (hB:B.ok) (hT:TOk P τ) (hG:GOk P gl G) {env:List AV} {objs:Objs} {a:Act} {w:World} (s:Now gl old fz0 ρ0 w0 objs0 env objs a w) {u:Nat} {o:Oper} {k:AV→Objs→Option R}
  (hk:aop τ B gl G owns u o env objs k=some r) {next:Act→World→Prop} {Q:Exit→Act→World→Prop}
  (hn:∀ v objs' a' w',k v objs'=some r→Now gl old fz0 ρ0 w0 objs0 (eput o.dst v env) objs' a' w'→next a' w'):o.wp P a w next Q:=by
 obtain ⟨fz,ρ,s⟩:=s
 unfold Oper.wp
 rcases aop_ok hB hT hG s.gl_ s.or_ s.env_ hk with ⟨V,w',h1,h2⟩ | ⟨w',h1,h2⟩ | ⟨f,args,h1,h2⟩
 ·rw [h1,Oper.upon_value]
  obtain ⟨v,objs',h3,h4⟩:=s.lands h2 o.dst
  exact hn v objs' _ _ h3 h4
 ·rw [h1,Oper.upon_skip]
  obtain ⟨v,objs',h3,h4⟩:=s.lands h2 o.dst
  exact hn v objs' _ _ h3 h4
 ·rw [h1,Oper.upon_enter]
  refine h2.mono fun e w' he=>?_
  obtain ⟨V,rfl,h2⟩:=he
  obtain ⟨v,objs',h3,h4⟩:=s.lands h2 o.dst
  exact hn v objs' _ _ h3 h4
theorem qbv {fz:Nat→Prop} {ρ:Nat→Value} {objs:Objs} {w:World} {env:List AV} {a:Act} {d:Nat} {b:Bool} (h:EnvR fz ρ w objs env a.tmps) (hd:env.getD d (.c .bot)=.c (.bool b)):a.tmps[d]?=some (.bool b):=by
 have:=h.2 d
 rw [hd] at this
 have this:a.tmps.getD d undef=.bool b:=this
 rw [Array.getD_eq_getD_getElem?] at this
 cases ht:a.tmps[d]? with
 | none=>rw [ht] at this;simp [undef] at this
 | some v=>rw [ht] at this;simp at this;rw [this]
theorem St.know {fz:Nat→Prop} {ρ:Nat→Value} {env:List AV} {objs:Objs} {a:Act} {w:World} {d:Nat} {b:Bool} (s:St gl old fz0 ρ0 w0 objs0 fz ρ env objs a w) (hd:env.getD d (.c .bot)=.c (.bool b)):St gl old fz0 ρ0 w0 objs0 fz ρ (env.set d (.c (.bool b))) objs a w:=by
 refine ⟨s.or_,⟨by simp [s.env_.1],fun i=>?_⟩,s.gl_,s.frm,s.bk,s.nd⟩
 have:=s.env_.2 i
 simp only [List.getD_eq_getElem?_getD,List.getElem?_set] at this ⊢
 by_cases h:d=i
 ·subst h
  by_cases hl:d<env.length
  ·have ht:=qbv s.env_ hd
   simp only [if_true,hl,Option.getD_some]
   rw [Array.getD_eq_getD_getElem?,ht]
   exact rfl
  ·simp [hl];exact trivial
 ·simp only [h,if_false];exact this
theorem Now.freeze {env:List AV} {objs:Objs} {a:Act} {w:World} (l:List Nat) (s:Now gl old fz0 ρ0 w0 objs0 env objs a w):Now gl old fz0 ρ0 w0 objs0 env (freezeAll l objs) a w:=by
 obtain ⟨fz,ρ,s⟩:=s
 obtain ⟨fz1,h1,e1,f1,_⟩:=qa6 l s.or_
 exact ⟨fz1,ρ,h1,⟨s.env_.1,fun i=>AVR.mono e1 f1.up (fun _ _=>rfl) (s.env_.2 i)⟩,s.gl_.mono f1.up fun _ _=>rfl,s.frm.trans f1,s.bk.ext e1,s.nd⟩
theorem Now.know {env:List AV} {objs:Objs} {a:Act} {w:World} {d:Nat} {b:Bool} (s:Now gl old fz0 ρ0 w0 objs0 env objs a w) (hd:env.getD d (.c .bot)=.c (.bool b)):Now gl old fz0 ρ0 w0 objs0 (env.set d (.c (.bool b))) objs a w:=by
 obtain ⟨fz,ρ,s⟩:=s
 exact ⟨fz,ρ,s.know hd⟩
theorem tmps_of_und {fz:Nat→Prop} {ρ:Nat→Value} {objs:Objs} {w:World} {env:List AV} {a:Act} {d:Nat} (h:EnvR fz ρ w objs env a.tmps) (hd:env.getD d (.c .bot)=.und) (b:Bool):a.tmps[d]?≠some (.bool b):=by
 have:=h.2 d
 rw [hd] at this
 have this:a.tmps.getD d undef=undef:=this
 rw [Array.getD_eq_getD_getElem?] at this
 intro ht
 rw [ht] at this
 simp [undef] at this
theorem qdf {fz:Nat→Prop} {ρ:Nat→Value} {objs:Objs} {w:World} {env:List AV} {a:Act} {ops:Array Oper} {o:Oper} {j d:Nat} {want:Bool} (hg:o.guard=some (j,want)) (h:EnvR fz ρ w objs env a.tmps) (hops:(ops[j]?).bind (·.dst)=some d) (hd:env.getD d (.c .bot)=.und) :
  Region.wanted o (yielded ops a.tmps)=false:=by
 have hy:yielded ops a.tmps j=none:=by
  unfold yielded
  rw [hops,Option.bind_some]
  split
  ·rename_i b hb;exact absurd hb (tmps_of_und h hd b)
  ·rfl
 simp [Region.wanted,hg,hy]
theorem St.drop {fz:Nat→Prop} {ρ:Nat→Value} {env:List AV} {objs:Objs} {a:Act} {w:World} (s:St gl old fz0 ρ0 w0 objs0 fz ρ env objs a w) (dst:Option Tmp):St gl old fz0 ρ0 w0 objs0 fz ρ (eput dst .und env) objs (a.put dst undef) w:=
 ⟨s.or_,s.env_.put (v:=.und) rfl dst,s.gl_,s.frm,s.bk,by rw [put_defers];exact s.nd⟩
theorem Now.drop {env:List AV} {objs:Objs} {a:Act} {w:World} (s:Now gl old fz0 ρ0 w0 objs0 env objs a w) (dst:Option Tmp):Now gl old fz0 ρ0 w0 objs0 (eput dst .und env) objs (a.put dst undef) w:=by
 obtain ⟨fz,ρ,s⟩:=s
 exact ⟨fz,ρ,s.drop dst⟩
end
end Go.Proofs.YtkmpkebaloejhaaGreatDoor.Av
