/- Rounds of a range over slices.Backward. Conditions: none. -/
import Derived.Test.YtkmpkebaloejhaaGreatDoorAv22
import Derived.RangeFuncBox
import Derived.RangeFuncCalls
import Derived.OrdersIn
namespace Go.Proofs.YtkmpkebaloejhaaGreatDoor.Av
open Go
def FR (ro:Option Nat):Fence:={ fn:=fun _=>True,depth:=none,alive:=false,round:=ro }
theorem FR_room (ro:Option Nat) (n:Nat):(FR ro).room n:=fun d h=>by cases h
theorem FR_depth (ro:Option Nat) (m:Nat):(FR ro).depth.isSome=true→1≤m:=fun h=>by simp [FR] at h
def bare (a:Act):Act:={ a with defers:=[] }
theorem qeb (a:Act) (dst:Option Tmp) (v:Value):bare (a.put dst v)=(bare a).put dst v:=by cases dst<;>rfl
theorem qcw (a:Act):(bare a).eval=a.eval:=funext fun x=>by cases x<;>rfl
theorem bare_id {a:Act} (h:a.defers=[]):bare a=a:=by cases a;simp only at h;subst h;rfl
theorem rowsIn_FR {ro:Option Nat} {n:Nat} {P:Program} {row:String} {args:Array Value} {w:World} {R:Value→World→Prop} (h:Rows P row args w R):RowsIn (FR ro) n P row args w R:=fun c cs _=>
 let ⟨v,w',r,s⟩:=h c cs;⟨v,w',r,(stepsIn_wide.2 s:StepsIn (Machine.fenced P Fence.wide) P _ _)⟩
theorem qfj {ro:Option Nat} {n:Nat} {P:Program} {f:FuncId} {args:Array Value} {w:World} {R:Ending→World→Prop} (h:Calls P f args w R):CallsIn (FR ro) n P f args w R:=
 (callsIn_wide.2 h:CallsIn Fence.wide n P f args w R)
theorem op_FR {ro:Option Nat} {n:Nat} {P:Program} {o:Oper} {a:Act} {w:World} {K:Act→World→Prop} {Q:Exit→Act→World→Prop} (hd:∀ c,o.op≠.defer c) (h:o.wp P a w K Q):o.wpIn (FR ro) n P a w K Q:=by
 unfold Oper.wpIn
 refine ⟨fun _ _=>trivial,?_⟩
 rw [show (FR ro).round=ro from rfl,Oper.semAt_eq ro _ _ hd]
 unfold Oper.wp at h
 generalize (execOp a.eval o).run P w=x at *
 cases x with
 | ok x w'=>
   cases x<;>simp only [Oper.upon,Oper.uponIn] at h ⊢<;>
    first
     | exact h
     | exact ⟨FR_depth _ _,CallsIn.mono (qfj h) fun e w'' he=>by cases e<;>exact he⟩
     | exact ⟨FR_depth _ _,rowsIn_FR h⟩
     | exact False.elim h
 | halt x w'=>cases x<;>simp only [Oper.upon,Oper.uponIn] at h ⊢<;>exact h
theorem any_FR {ro:Option Nat} {n:Nat} {P:Program} {md:Region.Mode} {ops:Array Oper} {Q:Exit→Act→World→Prop} (hd:∀ (i:Nat) (o:Oper),ops[i]?=some o→∀ c,o.op≠.defer c) (hQ:¬ LetsOut Q) :
  ∀ (fuel:Nat) (listed:Array Bool) (a:Act) (w:World),wpAny P md ops Q fuel listed a w→wpAnyIn (FR ro) n P md ops Q fuel listed a w
 | 0,_,_,_,h=>h
 | fuel+1,listed,a,w,h=>by
   refine ⟨h.1,fun i hi=>?_⟩
   have h2:=wpOp_mono (fun a w=>any_FR (ro:=ro) (n:=n) hd hQ fuel (listed.setIfInBounds i true) a w) (h.2 i hi)
   unfold wpOp at h2
   unfold wpOpIn
   split
   ·rename_i hn;rw [hn] at h2;exact h2
   ·rename_i o ho
    rw [ho] at h2
    simp only at h2
    split
    ·rename_i hw
     rw [if_pos hw] at h2
     rcases h2 with h2 | h2
     ·exact op_FR (hd i o ho) h2
     ·exact absurd h2.2 hQ
    ·rename_i hw
     rw [if_neg hw] at h2
     exact ⟨fun _ _=>trivial,h2⟩
section
variable {R:Type} {old fz0:Nat→Prop} {ρ0:Nat→Value} {w0:World} {objs0:Objs} {r:R} {P:Program} {τ:Nat→Option TI} {B:Ops} {gl:Nat→Option (List CV)}
 {G:Nat→List AV→Objs→(AV→Objs→Option R)→Option R} {owns:Nat→Nat→Bool} {keep pk:List Nat} {X:Aux}
theorem aop_nodefer {u:Nat} {o:Oper} {env:List AV} {objs:Objs} {k:AV→Objs→Option R} (h:aop τ B gl G owns u o env objs k=some r):∀ c,o.op≠.defer c:=fun c hc=>by
 unfold aop at h
 rw [hc] at h
 simp at h
theorem aop_wpIn (hB:B.ok) (hT:TOk P τ) (hG:GOk P gl G) {ro:Option Nat} {n:Nat} {env:List AV} {objs:Objs} {a:Act} {w:World} (s:Now gl old fz0 ρ0 w0 objs0 env objs (bare a) w) {u:Nat} {o:Oper} {k:AV→Objs→Option R}
  (hk:aop τ B gl G owns u o env objs k=some r) {next:Act→World→Prop} {Q:Exit→Act→World→Prop}
  (hn:∀ v objs' a' w',k v objs'=some r→Now gl old fz0 ρ0 w0 objs0 (eput o.dst v env) objs' (bare a') w'→a'.defers=a.defers→next a' w'):o.wpIn (FR ro) n P a w next Q:=by
 obtain ⟨fz,ρ,s⟩:=s
 have hd:=aop_nodefer hk
 unfold Oper.wpIn
 refine ⟨fun _ _=>trivial,?_⟩
 rw [show (FR ro).round=ro from rfl,Oper.semAt_eq ro _ _ hd]
 have hl:∀ {V:Value} {w':World},Lands old fz ρ w objs k r V w'→next (a.put o.dst V) w':=fun h2=>by
  obtain ⟨v,objs',h3,h4⟩:=s.lands h2 o.dst
  exact hn v objs' _ _ h3 (by rw [qeb];exact h4) (put_defers _ _ _)
 rcases aop_ok hB hT hG s.gl_ s.or_ s.env_ hk with ⟨V,w',h1,h2⟩ | ⟨w',h1,h2⟩ | ⟨f,args,h1,h2⟩
 ·rw [qcw] at h1
  rw [h1,Oper.uponIn_value];exact hl h2
 ·rw [qcw] at h1
  rw [h1,Oper.uponIn_skip];exact hl h2
 ·rw [qcw] at h1
  rw [h1,Oper.uponIn_enter]
  refine ⟨FR_depth _ _,qfj (h2.mono fun e w' he=>?_)⟩
  obtain ⟨V,rfl,h2⟩:=he
  exact hl h2
theorem aopsIn_ok (hB:B.ok) (hT:TOk P τ) (hG:GOk P gl G) {ro:Option Nat} {n:Nat} {ops:Array Oper} {base:Nat} {k:List AV→Objs→Option R} {ds:List Deferred} {Q:Exit→Act→World→Prop}
  (hQ:∀ env objs a w,k env objs=some r→Now gl old fz0 ρ0 w0 objs0 env objs (bare a) w→a.defers=ds→Q .normal a w):∀ (l:List Oper) (i:Nat) (env:List AV) (objs:Objs) (a:Act) (w:World),(∀ j,l[j]?=ops[i+j]?)→
    Now gl old fz0 ρ0 w0 objs0 env objs (bare a) w→a.defers=ds→aops τ B gl G owns ops.toList base l i env objs k=some r→wpOpsIn (FR ro) n P ops Q (List.range' i l.length) a w
 | [],i,env,objs,a,w,hl,s,hd,hk=>hQ env objs a w hk s hd
 | o::l,i,env,objs,a,w,hl,s,hd,hk=>by
   have h0:ops[i]?=some o:=by have:=hl 0;simpa using this.symm
   have hl':∀ j,l[j]?=ops[i+1+j]?:=fun j=>by have:=hl (j+1);simp only [List.getElem?_cons_succ] at this;rw [this];congr 1;omega
   have ih:=fun env objs a w=>aopsIn_ok (ro:=ro) (n:=n) hB hT hG (base:=base) hQ l (i+1) env objs a w hl'
   rw [List.length_cons,List.range'_succ]
   simp only [wpOpsIn,h0]
   simp only [aops] at hk
   cases hgd:o.guard with
   | none=>
     rw [hgd] at hk
     simp only at hk
     have hw:Region.wanted o (yielded ops a.tmps)=true:=by simp [Region.wanted,hgd]
     rw [if_pos hw]
     exact aop_wpIn hB hT hG (s.freeze _) hk fun v objs' a' w' h1 h2 h3=>ih _ _ _ _ h2 (h3.trans hd) h1
   | some jw=>
     obtain ⟨j,want⟩:=jw
     rw [hgd] at hk
     simp only at hk
     split at hk
     ·rename_i d hd'
      split at hk
      ·rename_i b hb
       have hops:(ops[j]?).bind (·.dst)=some d:=by rw [←Array.getElem?_toList];exact hd'
       have hy:yielded ops a.tmps j=some b:=by
        obtain ⟨fz,ρ,s⟩:=s
        unfold yielded
        rw [hops]
        have:=qbv s.env_ hb
        simp only [bare] at this
        simp only [Option.bind_some,this]
       have hwant:Region.wanted o (yielded ops a.tmps)=(b == want):=by
        simp only [Region.wanted,hgd,hy]
        cases b<;>cases want<;>rfl
       rw [hwant]
       have sk:Now gl old fz0 ρ0 w0 objs0 (env.set d (.c (.bool b))) objs (bare a) w:=s.know hb
       cases b<;>cases want<;>simp only [cond_true,cond_false] at hk
       ·simp only [beq_self_eq_true,if_true];exact aop_wpIn hB hT hG (sk.freeze _) hk fun v objs' a' w' h1 h2 h3=>ih _ _ _ _ h2 (h3.trans hd) h1
       ·rw [if_neg (by simp)];exact ⟨fun _ _=>trivial,ih _ _ _ _ (by rw [qeb];exact sk.drop o.dst) ((put_defers _ _ _).trans hd) hk⟩
       ·rw [if_neg (by simp)];exact ⟨fun _ _=>trivial,ih _ _ _ _ (by rw [qeb];exact sk.drop o.dst) ((put_defers _ _ _).trans hd) hk⟩
       ·simp only [beq_self_eq_true,if_true];exact aop_wpIn hB hT hG (sk.freeze _) hk fun v objs' a' w' h1 h2 h3=>ih _ _ _ _ h2 (h3.trans hd) h1
      ·rename_i hb
       have hops:(ops[j]?).bind (·.dst)=some d:=by rw [←Array.getElem?_toList];exact hd'
       have hwant:Region.wanted o (yielded ops a.tmps)=false:=by
        obtain ⟨fz,ρ,s⟩:=s
        exact qdf (a:=bare a) hgd s.env_ hops hb
       rw [hwant,if_neg (by simp)]
       exact ⟨fun _ _=>trivial,ih _ _ _ _ (by rw [qeb];exact s.drop o.dst) ((put_defers _ _ _).trans hd) hk⟩
      ·cases hk
     ·cases hk
end
end Go.Proofs.YtkmpkebaloejhaaGreatDoor.Av
