/- A range over slices.Backward. Conditions: none. -/
import Derived.Test.YtkmpkebaloejhaaGreatDoorAv15
import Derived.Test.YtkmpkebaloejhaaGreatDoorAv33
namespace Go.Proofs.YtkmpkebaloejhaaGreatDoor.Av
open Go
section
variable {R:Type} {old fz0:Nat→Prop} {ρ0:Nat→Value} {w0:World} {objs0:Objs} {r:R} {P:Program} {τ:Nat→Option TI} {B:Ops} {gl:Nat→Option (List CV)}
 {G:Nat→List AV→Objs→(AV→Objs→Option R)→Option R} {owns:Nat→Nat→Bool} {keep:List Nat} {X:Aux}
theorem qdl {fz:Nat→Prop} {ρ:Nat→Value} {w:World} {env:List AV} {objs:Objs} {a:Act} {g:Operand} {k:List Int→Option R} (he:EnvR fz ρ w objs env a.tmps) (hg:GlR fz w gl) (ho:OR fz old ρ w objs) (h:backRow gl owns g (env,objs) k=some r) :
  ∃ f xs Bs A cap,owns f 8765432=true∧k xs=some r∧a.eval g=.func (.func f) #[] #[.pointer (some ⟨Bs,0,none⟩)]∧w.cell? ⟨Bs,0,none⟩=some (.slice A xs.length cap)∧xs.length≤maxLen∧
    ∀ (i:Nat) (x:Int),xs[i]?=some x→∃ ad,A=some ad∧w.cell? (ad.add i)=some (.int .i64 x):=by
 have hv:=qbl hg he g
 unfold backRow at h
 split at h
 ·rename_i f m hr
  rw [show (env,objs).1=env from rfl] at hr
  rw [hr] at hv
  obtain ⟨cs,hv,hc⟩:=hv
  cases how:owns f 8765432 with
  | false=>rw [how] at h;cases h
  | true=>
    rw [how] at h
    simp only [cond_true] at h
    split at h
    ·rename_i ty e xs hm
     obtain ⟨g',vs,q1,q2,q3,_,_,_⟩:=ho.obj m _ hm
     obtain ⟨cs⟩:=cs
     obtain ⟨vs⟩:=vs
     match cs,hc with
     | [V],hc=>
      have hc:=hc.1
      simp only [CVR,hm] at hc
      obtain ⟨g2,q4,rfl⟩:=hc
      rw [q1] at q4
      cases q4
      match vs,q3 with
      | [v1],q3=>
       obtain ⟨A,c,q5,q6,q7,q8⟩:=q3.1
       cases q5
       refine ⟨f,xs,g',A,c,how,h,hv,?_,Nat.le_trans q6 q7,fun i x hx=>?_⟩
       ·simp [World.cell?,q2]
       ·rcases q8 with q8 | ⟨ad,rfl,_,q8⟩
        ·rw [q8] at hx;simp at hx
        ·obtain ⟨cs',hk,hat⟩:=q8 i x hx
         refine ⟨ad,rfl,?_⟩
         rw [show cs'=[.int .i64 x] from hk] at hat
         have:=hat 0 _ rfl
         simpa [Ty.sz,Addr.add] using this
    ·cases h
 ·cases h
def BackOk (P:Program) (f:Nat):Prop:=
 (∀ args w,(callFunc f args).run P w=.ok (.enter f args) w)∧
 ∀ (l Bs:Nat) (J:Int→World→Prop) (W:World) (A:Option Addr) (len cap:Nat),W.cell? ⟨Bs,0,none⟩=some (.slice A len cap)→len≤maxLen→J ((len:Int)-1) W→
   (∀ (i:Nat) (W:World),J i W→∃ ad len' cap' x,W.cell? ⟨Bs,0,none⟩=some (.slice (some ad) len' cap')∧i<len'∧len'≤maxLen∧W.cell? (ad.add i)=some (.int .i64 x)∧
     YieldAt Fence.wide 0 P l #[.int .i64 i,.int .i64 x] W fun e W'=>e=.returned (.bool true)∧J ((i:Int)-1) W')→
   CallsIn Fence.wide 1 P f #[.func (.yield l) #[] #[],.pointer (some ⟨Bs,0,none⟩)] W fun e W'=>(∃ v,e=.returned v)∧J (-1) W'
theorem Frm.weak {fz fz' old':Nat→Prop} {w w':World} (h:Frm fz old' w fz' w') (hs:∀ k,old k→old' k):Frm fz old w fz' w':=
 ⟨h.up,fun k ho=>h.back k (hs k ho),h.fzw,fun k ho=>h.oldw k (hs k ho),h.size,h.os,h.tape,h.output⟩
theorem Frm.putObj {fz:Nat→Prop} (w:World) {l:Nat} (o:Go.Obj) (h1:¬ fz l) (h2:¬ old l):Frm fz old w fz (w.putObj l o):=
 ⟨fun _ h=>h,fun _ _ h=>h,fun k hk=>World.putObj_heap_other (fun e=>h1 (e ▸ hk)),fun k hk=>World.putObj_heap_other (fun e=>h2 (e ▸ hk)),by simp,rfl,rfl,rfl⟩
theorem OR.putObj {fz:Nat→Prop} {ρ:Nat→Value} {w:World} {objs:Objs} {l:Nat} (o:Go.Obj) (h:OR fz old ρ w objs) (h1:¬ fz l) (h2:old l):OR fz old ρ (w.putObj l o) objs:=
 or_world h (fun k hk=>World.putObj_heap_other (fun e=>h1 (e ▸ hk))) (fun i g hg=>World.putObj_heap_other (fun e=>(h.blk_lt hg).2.2 (e ▸ h2))) (by simp) rfl rfl rfl (fun k hk=>by simpa using h.oldlt k hk) (fun i g hg=>(h.blk_lt hg).2.2)
theorem Bk.trans' {o1 o2 o3:Objs} {ρ1 ρ2 ρ3:Nat→Value} (h:Bk o1 ρ1 o2 ρ2) (k:Bk o2 ρ2 o3 ρ3):Bk o1 ρ1 o3 ρ3:=fun n ty cs hn=>by
 obtain ⟨h1,cs',h2⟩:=h n ty cs hn
 obtain ⟨h3,cs'',h4⟩:=k n ty cs' h2
 exact ⟨h3.trans h1,cs'',h4⟩
theorem Bk.refl' (o:Objs) (ρ:Nat→Value):Bk o ρ o ρ:=fun n ty cs hn=>⟨rfl,cs,hn⟩
theorem qcx {env:List AV} {p:Nat} {v u:AV} (h:(env.set p v).getD p (.c .bot)=u) (hu:u≠.c .bot):u=v:=by
 simp only [List.getD_eq_getElem?_getD,List.getElem?_set] at h
 by_cases hl:p<env.length
 ·simp [hl] at h;exact h.symm
 ·simp [hl] at h;exact absurd h.symm hu
def Rnd (τ:Nat→Option TI) (B:Ops) (gl:Nat→Option (List CV)) (X:Aux) (G:Nat→List AV→Objs→(AV→Objs→Option R)→Option R) (owns:Nat→Nat→Bool) (keep:List Nat) (fin:List AV×Objs→Option R) (r:R)
    (old fz0:Nat→Prop) (ρ0:Nat→Value) (w0:World) (objs0:Objs) (a:Act) (c:Code) (rest:List Item) (p D l:Nat) (rec:Go.Loop) (i:Int) (W:World):Prop:=
 ∃ n env objs fz ρ,arun τ B gl X G owns keep (pkOf objs0) fin n true c rest (env.set p (.c (.int .i64 i)),objs)=some r∧St gl (fun k=>old k∨k=D∨k=l) fz ρ0 W objs0 fz ρ env objs a W∧Frm fz0 old w0 fz W∧¬ fz D∧¬ fz l∧
   W.heap[l]?=some (.loop rec)∧W.heap[D]?=some (.deferred (some []))
theorem round_ok (hm:P.follows .mixedOrders=true) (hB:B.ok) (hT:TOk P τ) (hG:GOk P gl G) {fin:List AV×Objs→Option R} {a:Act} {g:Operand} {ps:Array Tmp} {as bd:Code} {rest:List Item} {p q D l:Nat} {rec:Go.Loop}
  (hps:ps.toList=[p,q]) (h1:lineC X false as=true) (h2:lineC X false bd=true) (o1:okC τ X.plan as=true) (o2:okC τ X.plan bd=true) (hDl:D≠l) (hoD:¬ old D) (hol:¬ old l)
  (hr1:rec.state=.ready) (hr2:rec.pending=none) (hr3:rec.tmps=a.tmps) (hr4:rec.params=ps) (hr5:rec.assign=as) (hr6:rec.body=bd) {f Bs:Nat} (hg:a.eval g=.func (.func f) #[] #[.pointer (some ⟨Bs,0,none⟩)])
  (i:Nat) (W:World) (hJ:Rnd τ B gl X G owns keep fin r old fz0 ρ0 w0 objs0 a (.rangeFunc g ps as bd) rest p D l rec i W) :
  ∃ ad len' cap' x,W.cell? ⟨Bs,0,none⟩=some (.slice (some ad) len' cap')∧i<len'∧len'≤maxLen∧W.cell? (ad.add i)=some (.int .i64 x)∧
    YieldAt Fence.wide 0 P l #[.int .i64 i,.int .i64 x] W fun e W'=>e=.returned (.bool true)∧Rnd τ B gl X G owns keep fin r old fz0 ρ0 w0 objs0 a (.rangeFunc g ps as bd) rest p D l rec ((i:Int)-1) W':=by
 obtain ⟨n,env,objs,fz,ρ,hk,s,hfr,hzD,hzl,hl,hD⟩:=hJ
 cases n with
 | zero=>simp [arun] at hk
 | succ n=>
 rw [arun] at hk
 simp only [cond_true,cutRun,two2,hps,List.set_set] at hk
 obtain ⟨f',xs,Bs',A,cap,_,hk,b1,b2,b3,b4⟩:=qdl (a:=a) (env_bot s.env_ p) s.gl_ s.or_ hk
 rw [hg] at b1
 cases b1
 split at hk
 ·rename_i i' hi
  have hi:=qcx hi (by simp)
  cases hi
  rw [hB.lt,hB.lt,decide_eq_false (by omega),cond_false] at hk
  by_cases hlt:i<xs.length
  ·rw [decide_eq_true (by omega),cond_true] at hk
   have hx:xs[i]?=some (xs.getD i 0):=by simp [List.getD_eq_getElem?_getD,List.getElem?_eq_getElem hlt]
   obtain ⟨ad,rfl,hc⟩:=b4 i _ hx
   refine ⟨ad,xs.length,cap,_,b2,hlt,b3,hc,?_⟩
   have hpq:ps=#[p,q]:=by rw [←hps]
   have hy:=run_yield (P:=P) (args:=#[.int .i64 (i:Int),.int .i64 (xs.getD i 0)]) hl (by rw [hr4,hpq];rfl)
   rw [hr3,hr4,hr5,hr6,hpq] at hy
   let a1:Act:={ tmps:=(a.tmps.setIfInBounds p (.int .i64 i)).setIfInBounds q (.int .i64 (xs.getD i 0)),defers:=[] }
   have hy':(Instr.yield l #[.int .i64 (i:Int),.int .i64 (xs.getD i 0)]).run P W=.ok (.round l rec.fn a1.tmps as bd) W:=by rw [hy];simp [a1]
   refine ⟨_,_,_,_,hy',trivial,fun c cs' _=>?_⟩
   let b1:Frame:={ (default:Frame) with fn:=rec.fn,kind:=.normal,roundOf:=some l }
   have hb0:∀ tm,Frame.round l rec.fn tm as bd .normal=b1.atR { tmps:=tm,defers:=[] } ([.code as]++[.beginRound,.code bd]):=fun tm=>by
    simp [Frame.round,Frame.atR,b1]
   have s1:Now gl (fun k=>old k∨k=D∨k=l) fz ρ W objs ((env.set p (.c (.int .i64 i))).set q (.c (.int .i64 (xs.getD i 0)))) objs (bare a1) W:=
    ⟨fz,ρ,s.or_,env_set (env_set s.env_ (v:=.c (.int .i64 i)) (V:=.int .i64 i) rfl p) (v:=.c (.int .i64 (xs.getD i 0))) (V:=.int .i64 (xs.getD i 0)) rfl q,s.gl_,Frm.refl _ _ _,Bk.refl' _ _,rfl⟩
   rw [Int.toNat_natCast] at hk
   obtain ⟨env2,objs2,a2,w2,t2,k2,⟨fz2,ρ2,s2⟩,d2,st2,ht2⟩:=segR_ok hm hB hT hG b1 (c::cs') [.beginRound,.code bd] false 4000 [.code as] _ _ a1 W (by simp only [List.all_cons,List.all_nil,lineI,h1,Bool.and_self]) (by simp only [List.all_cons,List.all_nil,okI,o1,Bool.and_self]) (fun _=>rfl) s1 hk
   have ht2:t2=[]:=ht2.resolve_right (fun h=>by cases h.1)
   subst ht2
   have hl2:w2.heap[l]?=some (.loop rec):=(s2.frm.oldw l (.inr (.inr rfl))).trans hl
   have hz2l:¬ fz2 l:=fun h=>hzl (s2.frm.back l (.inr (.inr rfl)) h)
   have hz2D:¬ fz2 D:=fun h=>hzD (s2.frm.back D (.inr (.inl rfl)) h)
   have hbr:=run_beginRound (P:=P) hl2 hr1
   obtain ⟨W3,hW3⟩:∃ W3,w2.putObj l (.loop { rec with state:=.busy })=W3:=⟨_,rfl⟩
   rw [hW3] at hbr
   have hf3:∀ k,fz2 k→W3.heap[k]?=w2.heap[k]?:=fun k hk=>by rw [←hW3];exact World.putObj_heap_other (fun e=>hz2l (e ▸ hk))
   have or3:OR fz2 (fun k=>old k∨k=D∨k=l) ρ2 W3 objs2:=by rw [←hW3];exact OR.putObj _ s2.or_ hz2l (.inr (.inr rfl))
   have s3:Now gl (fun k=>old k∨k=D∨k=l) fz2 ρ W3 objs env2 objs2 (bare a2) W3:=⟨fz2,ρ2,or3,s2.env_.mono (Ext.refl _ _) (fun _ h=>h) hf3,s2.gl_.mono (fun _ h=>h) hf3,Frm.refl _ _ _,s2.bk,rfl⟩
   obtain ⟨env4,objs4,a4,w4,t4,k4,⟨fz4,ρ4,s4⟩,d4,st4,ht4⟩:=segR_ok hm hB hT hG b1 (c::cs') [] false 4000 [.code bd] _ _ a2 W3 (by simp only [List.all_cons,List.all_nil,lineI,h2,Bool.and_self]) (by simp only [List.all_cons,List.all_nil,okI,o2,Bool.and_self]) (fun _=>d2) s3 k2
   have ht4:t4=[]:=ht4.resolve_right (fun h=>by cases h.1)
   subst ht4
   have hl3:W3.heap[l]?=some (.loop { rec with state:=.busy }):=by rw [←hW3];exact World.putObj_heap_same (Array.getElem?_eq_some_iff.1 hl2).1
   have hl4:w4.heap[l]?=some (.loop { rec with state:=.busy }):=(s4.frm.oldw l (.inr (.inr rfl))).trans hl3
   have hz4l:¬ fz4 l:=fun h=>hz2l (s4.frm.back l (.inr (.inr rfl)) h)
   have hz4D:¬ fz4 D:=fun h=>hz2D (s4.frm.back D (.inr (.inl rfl)) h)
   have her:=run_endRound (P:=P) none hl4
   have hrec:({ { rec with state:=.busy } with state:=if (none:Option Code).isNone=true then LoopState.ready else .done,pending:=none }:Go.Loop)=rec:=by
    cases rec;simp only at hr1 hr2;subst hr1;subst hr2;rfl
   obtain ⟨W5,hW5⟩:∃ W5,w4.putObj l (.loop rec)=W5:=⟨_,rfl⟩
   rw [hrec,hW5] at her
   have hf5:∀ k,fz4 k→W5.heap[k]?=w4.heap[k]?:=fun k hk=>by rw [←hW5];exact World.putObj_heap_other (fun e=>hz4l (e ▸ hk))
   have or5:OR fz4 (fun k=>old k∨k=D∨k=l) ρ4 W5 objs4:=by rw [←hW5];exact OR.putObj _ s4.or_ hz4l (.inr (.inr rfl))
   have up:∀ k,fz k→fz4 k:=fun k hk=>s4.frm.up k (s2.frm.up k hk)
   have same:∀ k,fz k→W5.heap[k]?=W.heap[k]?:=fun k hk=>
    (hf5 k (up k hk)).trans ((s4.frm.fzw k (s2.frm.up k hk)).trans ((hf3 k (s2.frm.up k hk)).trans (s2.frm.fzw k hk)))
   have s5:Now gl (fun k=>old k∨k=D∨k=l) fz4 ρ0 W5 objs0 (restA objs (env.set p (.c .bot))) objs4 a W5:=
    ⟨fz4,ρ4,or5,restA_ok s4.bk up same (env_bot s.env_ p),s4.gl_.mono (fun _ h=>h) hf5,Frm.refl _ _ _,s.bk.trans' s4.bk,s.nd⟩
   obtain ⟨env6,objs6,k6,fz6,ρ6,s6⟩:=qb7 s5 k4
   have sub:∀ k,old k→old k∨k=D∨k=l:=fun k h=>.inl h
   have fr5:Frm fz0 old w0 fz4 W5:=by
    have e1:Frm fz2 old w2 fz2 W3:=by rw [←hW3];exact Frm.putObj _ _ hz2l hol
    have e2:Frm fz4 old w4 fz4 W5:=by rw [←hW5];exact Frm.putObj _ _ hz4l hol
    exact (((hfr.trans (s2.frm.weak sub)).trans e1).trans (s4.frm.weak sub)).trans e2
   refine ⟨.returned (.bool true),W5,⟨rfl,n,env6,objs6,fz6,ρ6,k6,⟨s6.or_,s6.env_,s6.gl_,Frm.refl _ _ _,s6.bk,s6.nd⟩,fr5.trans (s6.frm.weak sub),fun h=>hz4D (s6.frm.back D (.inr (.inl rfl)) h),fun h=>hz4l (s6.frm.back l (.inr (.inr rfl)) h),?_,?_⟩,?_⟩
   ·rw [←hW5];exact World.putObj_heap_same (Array.getElem?_eq_some_iff.1 hl4).1
   ·have hD2:w2.heap[D]?=some (.deferred (some [])):=(s2.frm.oldw D (.inr (.inl rfl))).trans hD
    have hD3:W3.heap[D]?=some (.deferred (some [])):=by rw [←hW3];exact (World.putObj_heap_other hDl).trans hD2
    have hD4:w4.heap[D]?=some (.deferred (some [])):=(s4.frm.oldw D (.inr (.inl rfl))).trans hD3
    rw [←hW5];exact (World.putObj_heap_other hDl).trans hD4
   ·refine stepsIn_wide.2 ?_
    rw [hb0]
    refine st2.trans ?_
    refine .head (stepR_beginRound rfl hbr) ?_
    refine st4.trans ?_
    exact .one (stepR_round_end rfl rfl her)
  ·rw [decide_eq_false (by omega),cond_false] at hk;cases hk
 ·cases hk
theorem range_ok (hm:P.follows .mixedOrders=true) (hB:B.ok) (hT:TOk P τ) (hG:GOk P gl G) (hbk:∀ f,owns f 8765432=true→BackOk P f) {b:Frame} {cs:List Frame} {fn:Func} {F:Value→World→Prop} (hb:b.kind=.normal) (hf:P.funcs[b.fn]?=some fn)
  {fin:List AV×Objs→Option R}
  (hfin:∀ env objs a w,fin (env,objs)=some r→Now gl old fz0 ρ0 w0 objs0 env objs a w→∃ V,(results fn a.tmps).run P w=.ok V w∧F V w)
  (n:Nat) (g:Operand) (ps:Array Tmp) (as bd:Code) (rest:List Item) (p q:Nat) (xs:List Int) (env:List AV) (objs:Objs) (a:Act) (w:World)
  (h1:lineC X false as=true) (h2:lineC X false bd=true) (h3:rest.all (lineI X true)=true) (o1:okC τ X.plan as=true) (o2:okC τ X.plan bd=true) (o3:rest.all (okI τ X.plan)=true) (hps:ps.toList=[p,q])
  (hx:backRow gl owns g (env,objs) some=some xs) (hk:arun τ B gl X G owns keep (pkOf objs0) fin n true (.rangeFunc g ps as bd) rest (env.set p (.c (.int .i64 ((xs.length:Int)-1))),objs)=some r)
  (s:Now gl old fz0 ρ0 w0 objs0 env objs a w):Halts P b cs a (.code (.rangeFunc g ps as bd)::rest) w F:=by
 obtain ⟨fz,ρ,s⟩:=s
 obtain ⟨f,xs',Bs,A,cap,how,hxx,hg,hcell,hlen,_⟩:=qdl (a:=a) s.env_ s.gl_ s.or_ hx
 cases hxx
 obtain ⟨hcall,hback⟩:=hbk f how
 obtain ⟨D,hDe⟩:∃ D,w.heap.size=D:=⟨_,rfl⟩
 have hoD:¬ old D:=fun h=>by have:=s.or_.oldlt _ h;omega
 have hol:¬ old (D+1):=fun h=>by have:=s.or_.oldlt _ h;omega
 have hzD:¬ fz D:=fun h=>by have:=s.or_.fzlt _ h;omega
 have hzl:¬ fz (D+1):=fun h=>by have:=s.or_.fzlt _ h;omega
 let mark:List Deferred:=[{ target:=.collected D,args:=#[] }]
 let Post:World→Prop:=fun W=>∃ (n:Nat) (env:List AV) (objs:Objs) (fz:Nat→Prop) (ρ:Nat→Value),seg τ B gl X G owns keep (pkOf objs0) fin (arun τ B gl X G owns keep (pkOf objs0) fin n) 4000 rest (env.set p (.c .bot),objs)=some r∧St gl (fun k=>old k∨k=D) fz ρ0 W objs0 fz ρ (env.set p (.c .bot)) objs a W∧Frm fz0 old w0 fz W∧¬ fz D∧W.heap[D]?=some (.deferred (some []))
 have hwp:(Code.rangeFunc g ps as bd).wpIn Fence.wide 2 P (fun e a' W=>e=.normal∧a'={ a with defers:=mark++a.defers }∧Post W) a w:=by
  refine wpIn_rangeFunc ?_
  intro fn' _
  have hent:=run_enterLoop_outer (P:=P) (w:=w) fn' a.tmps ps as bd
  rw [hDe] at hent
  obtain ⟨rec,hrec⟩:∃ rec:Go.Loop,rec={ state:=.ready,pending:=none,fn:=fn',tmps:=a.tmps,params:=ps,assign:=as,body:=bd,defers:=D }:=⟨_,rfl⟩
  obtain ⟨W1,hW1⟩:∃ W1,(w.alloc (.deferred (some []))).alloc (.loop rec)=W1:=⟨_,rfl⟩
  rw [←hrec,hW1] at hent
  have hsz:W1.heap.size=D+2:=by rw [←hW1];simp [hDe]
  have hsame:∀ k,k<D→W1.heap[k]?=w.heap[k]?:=fun k hk=>by
   rw [←hW1]
   have e1:=RowKit.Below.heap_alloc (w.alloc (.deferred (some []))) (.loop rec) k (by simp;omega)
   have e2:=RowKit.Below.heap_alloc w (.deferred (some [])) k (by omega)
   exact e1.trans e2
  have hl1:W1.heap[D+1]?=some (.loop rec):=by
   rw [←hW1,←hDe];have:=World.alloc_heap_new (w.alloc (.deferred (some []))) (.loop rec);rwa [World.size_alloc] at this
  have hD1:W1.heap[D]?=some (.deferred (some [])):=by
   rw [←hW1,←hDe];exact (RowKit.Below.heap_alloc _ _ _ (by simp)).trans (World.alloc_heap_new w _)
  have hzs:∀ k,fz k→W1.heap[k]?=w.heap[k]?:=fun k hk=>hsame k (by have:=s.or_.fzlt k hk;omega)
  have hos:W1.os=w.os:=by rw [←hW1];rfl
  have hta:W1.tape=w.tape:=by rw [←hW1];rfl
  have hou:W1.output=w.output:=by rw [←hW1];rfl
  have or1:OR fz (fun k=>old k∨k=D∨k=D+1) ρ W1 objs:=by
   refine or_world s.or_ hzs (fun i g hg=>hsame g (by have:=(s.or_.blk_lt hg).1;omega)) (by omega) hos hta hou (fun k hk=>?_) (fun i g hg hk=>?_)
   ·rcases hk with hk | hk | hk
    ·have:=s.or_.oldlt k hk;omega
    ·omega
    ·omega
   ·have hb:=s.or_.blk_lt hg
    rcases hk with hk | hk | hk
    ·exact hb.2.2 hk
    ·omega
    ·omega
  have fr1:Frm fz old w fz W1:=⟨fun _ h=>h,fun _ _ h=>h,hzs,fun k hk=>hsame k (by have:=s.or_.oldlt k hk;omega),by omega,hos,hta,hou⟩
  have J0:Rnd τ B gl X G owns keep fin r old fz0 ρ0 w0 objs0 a (.rangeFunc g ps as bd) rest p D (D+1) rec ((xs.length:Int)-1) W1:=
   ⟨n,env,objs,fz,ρ,hk,⟨or1,s.env_.mono (Ext.refl _ _) (fun _ h=>h) hzs,s.gl_.mono (fun _ h=>h) hzs,Frm.refl _ _ _,s.bk,s.nd⟩,s.frm.trans fr1,hzD,hzl,hl1,hD1⟩
  have hcell1:W1.cell? ⟨Bs,0,none⟩=some (.slice A xs.length cap):=by
   refine (World.cell?_of_block (a:=⟨Bs,0,none⟩) (hsame Bs ?_)).trans hcell
   by_cases hlt:Bs<D
   ·exact hlt
   ·exfalso
    have:w.heap[Bs]?=none:=Array.getElem?_eq_none (by omega)
    simp [World.cell?,this] at hcell
  have hc:=hback (D+1) Bs _ W1 A xs.length cap hcell1 hlen J0 (fun i W hJ=>round_ok hm hB hT hG hps h1 h2 o1 o2 (by omega) hoD hol (by rw [hrec]) (by rw [hrec]) (by rw [hrec]) (by rw [hrec]) (by rw [hrec]) (by rw [hrec]) hg i W hJ)
  refine ⟨D+1,mark,W1,{ target:=.fn (.func f) #[.pointer (some ⟨Bs,0,none⟩)],args:=#[.func (.yield (D+1)) #[] #[]] },W1,f,#[.func (.yield (D+1)) #[] #[]]++#[.pointer (some ⟨Bs,0,none⟩)],W1,hent,?_,?_,?_,fun h=>by simp [Fence.wide] at h,?_⟩
  ·simp only [resolve,hg]
   simp [go_sem]
  ·intro f' _;trivial
  ·simp [invoke,go_sem,hcall]
  ·refine CallsIn.mono hc fun e W he=>?_
   obtain ⟨⟨v,rfl⟩,n,env,objs,fz,ρ,hk,s,hfr,hzD,hzl,hl,hD⟩:=he
   have hend:=run_endLoop (P:=P) hl (by rw [hrec];simp)
   rw [hrec] at hend
   refine ⟨none,_,hend,rfl,rfl,?_⟩
   cases n with
   | zero=>simp [arun] at hk
   | succ n=>
     rw [arun] at hk
     simp only [cond_true,cutRun,two2,hps,List.set_set] at hk
     obtain ⟨f',xs',Bs',A',cap',_,hk,_⟩:=qdl (a:=a) (env_bot s.env_ p) s.gl_ s.or_ hk
     split at hk
     ·rename_i i' hi
      have hi:=qcx hi (by simp)
      cases hi
      rw [hB.lt,decide_eq_true (by omega),cond_true] at hk
      have hf5:∀ k,fz k→(W.putObj (D+1) (.loop { state:=.exhausted,pending:=none,fn:=fn',tmps:=a.tmps,params:=ps,assign:=as,body:=bd,defers:=D })).heap[k]?=W.heap[k]?:=fun k hk=>World.putObj_heap_other (fun e=>hzl (e ▸ hk))
      refine ⟨n,env,objs,fz,ρ,hk,⟨?_,(env_bot s.env_ p).mono (Ext.refl _ _) (fun _ h=>h) hf5,s.gl_.mono (fun _ h=>h) hf5,Frm.refl _ _ _,s.bk,s.nd⟩,hfr.trans (Frm.putObj _ _ hzl hol),hzD,?_⟩
      ·have:=OR.putObj (.loop { state:=.exhausted,pending:=none,fn:=fn',tmps:=a.tmps,params:=ps,assign:=as,body:=bd,defers:=D }) s.or_ hzl (.inr (.inr rfl))
       exact or_old this (fun k hk=>this.oldlt k (hk.elim .inl fun h=>.inr (.inl h))) (fun i g hg hk=>(this.blk_lt hg).2.2 (hk.elim .inl fun h=>.inr (.inl h)))
      ·exact (World.putObj_heap_other (by omega)).trans hD
     ·cases hk
 obtain ⟨e,a',w',⟨rfl,rfl,n,env,objs,fz,ρ,hk,s',hfr,hzD,hD⟩,harr⟩:=hwp { b with roundOf:=none } rest cs rfl trivial (room_wide _)
 have st1:Steps P (lone (b.at a (.code (.rangeFunc g ps as bd)::rest)) cs w) (lone (b.at { a with defers:=mark++a.defers } rest) cs w'):=StepsIn.steps harr
 obtain ⟨env5,objs5,a5,w5,t5,k5,⟨fz5,ρ5,s5⟩,d5,st5,ht5⟩:=segR_ok hm hB hT hG { b with roundOf:=none } cs [] true 4000 rest _ _ { a with defers:=mark++a.defers } w' h3 o3 (fun h=>by cases h)
  (⟨fz,ρ,s'.or_,s'.env_,s'.gl_,s'.frm,s'.bk,rfl⟩:Now gl (fun k=>old k∨k=D) fz ρ0 w' objs0 (env.set p (.c .bot)) objs (bare { a with defers:=mark++a.defers }) w') hk
 simp only [List.append_nil] at st5
 have st5:Steps P (lone (b.at { a with defers:=mark++a.defers } rest) cs w') (lone (b.at a5 t5) cs w5):=st5
 have hD5:w5.heap[D]?=some (.deferred (some [])):=(s5.frm.oldw D (.inr rfl)).trans hD
 have hz5:¬ fz5 D:=fun h=>hzD (s5.frm.back D (.inr rfl) h)
 have d5:a5.defers=[{ target:=.collected D,args:=#[] }]:=by rw [d5];simp [mark,s.nd]
 have st6:Steps P (lone (b.at a5 t5) cs w5) (lone { b.at a5 t5 with mode:=.returning } cs w5):=by
  rcases ht5 with rfl | ⟨_,k,rfl⟩
  ·exact .one step_end
  ·exact .one step_ret
 have st7:=step_collected (P:=P) (fr:={ b.at a5 t5 with mode:=.returning }) (cs:=cs) (w:=w5) (by simp) d5 rfl (run_takeDeferred hD5)
 have hf6:∀ k,fz5 k→(w5.putObj D (.deferred none)).heap[k]?=w5.heap[k]?:=fun k hk=>World.putObj_heap_other (fun e=>hz5 (e ▸ hk))
 have or6:=OR.putObj (.deferred none) s5.or_ hz5 (.inr rfl)
 have sub:∀ k,old k→old k∨k=D:=fun k h=>.inl h
 have s6:Now gl old fz0 ρ0 w0 objs0 env5 objs5 (bare a5) (w5.putObj D (.deferred none)):=
  ⟨fz5,ρ5,or_old or6 (fun k hk=>or6.oldlt k (.inl hk)) (fun i g hg hk=>(or6.blk_lt hg).2.2 (.inl hk)),s5.env_.mono (Ext.refl _ _) (fun _ h=>h) hf6,s5.gl_.mono (fun _ h=>h) hf6,(hfr.trans (s5.frm.weak sub)).trans (Frm.putObj _ _ hz5 hoD),s5.bk,rfl⟩
 obtain ⟨V,q1,q2⟩:=hfin env5 objs5 (bare a5) _ k5 s6
 exact ⟨_,_,V,q2,(st1.trans st5).trans (st6.trans (.one st7)),rfl,rfl,rfl,hb,fn,hf,q1⟩
end
end Go.Proofs.YtkmpkebaloejhaaGreatDoor.Av
