/- Stretches of code,loops,functions. Conditions: none. -/
import Derived.Test.YtkmpkebaloejhaaGreatDoorAv22
namespace Go.Proofs.YtkmpkebaloejhaaGreatDoor.Av
open Go
section
variable {R:Type} {old fz0:Nat→Prop} {ρ0:Nat→Value} {w0:World} {objs0:Objs} {r:R} {P:Program} {τ:Nat→Option TI} {B:Ops} {gl:Nat→Option (List CV)}
 {G:Nat→List AV→Objs→(AV→Objs→Option R)→Option R} {owns:Nat→Nat→Bool} {keep:List Nat}
theorem aops_ok (hB:B.ok) (hT:TOk P τ) (hG:GOk P gl G) {ops:Array Oper} {base:Nat} {k:List AV→Objs→Option R} {Q:Exit→Act→World→Prop}
  (hQ:∀ env objs a w,k env objs=some r→Now gl old fz0 ρ0 w0 objs0 env objs a w→Q .normal a w):∀ (l:List Oper) (i:Nat) (env:List AV) (objs:Objs) (a:Act) (w:World),(∀ j,l[j]?=ops[i+j]?)→
    Now gl old fz0 ρ0 w0 objs0 env objs a w→aops τ B gl G owns ops.toList base l i env objs k=some r→wpOps P ops Q (List.range' i l.length) a w
 | [],i,env,objs,a,w,hl,s,hk=>hQ env objs a w hk s
 | o::l,i,env,objs,a,w,hl,s,hk=>by
   have h0:ops[i]?=some o:=by have:=hl 0;simpa using this.symm
   have hl':∀ j,l[j]?=ops[i+1+j]?:=fun j=>by have:=hl (j+1);simp only [List.getElem?_cons_succ] at this;rw [this];congr 1;omega
   have ih:=fun env objs a w=>aops_ok hB hT hG (base:=base) hQ l (i+1) env objs a w hl'
   rw [List.length_cons,List.range'_succ]
   simp only [wpOps,h0]
   simp only [aops] at hk
   cases hgd:o.guard with
   | none=>
     rw [hgd] at hk
     simp only at hk
     have hw:Region.wanted o (yielded ops a.tmps)=true:=by simp [Region.wanted,hgd]
     rw [if_pos hw]
     exact .inl (aop_wp hB hT hG (s.freeze _) hk fun v objs' a' w' h1 h2=>ih _ _ _ _ h2 h1)
   | some jw=>
     obtain ⟨j,want⟩:=jw
     rw [hgd] at hk
     simp only at hk
     split at hk
     ·rename_i d hd
      split at hk
      ·rename_i b hb
       have hops:(ops[j]?).bind (·.dst)=some d:=by rw [←Array.getElem?_toList];exact hd
       have hy:yielded ops a.tmps j=some b:=by
        obtain ⟨fz,ρ,s⟩:=s
        unfold yielded
        rw [hops]
        simp only [Option.bind_some,qbv s.env_ hb]
       have hwant:Region.wanted o (yielded ops a.tmps)=(b == want):=by
        simp only [Region.wanted,hgd,hy]
        cases b<;>cases want<;>rfl
       rw [hwant]
       have sk:Now gl old fz0 ρ0 w0 objs0 (env.set d (.c (.bool b))) objs a w:=s.know hb
       cases b<;>cases want<;>simp only [cond_true,cond_false] at hk
       ·simp only [beq_self_eq_true,if_true];exact .inl (aop_wp hB hT hG (sk.freeze _) hk fun v objs' a' w' h1 h2=>ih _ _ _ _ h2 h1)
       ·rw [if_neg (by simp)];exact ih _ _ _ _ (sk.drop o.dst) hk
       ·rw [if_neg (by simp)];exact ih _ _ _ _ (sk.drop o.dst) hk
       ·simp only [beq_self_eq_true,if_true];exact .inl (aop_wp hB hT hG (sk.freeze _) hk fun v objs' a' w' h1 h2=>ih _ _ _ _ h2 h1)
      ·rename_i hb
       have hops:(ops[j]?).bind (·.dst)=some d:=by rw [←Array.getElem?_toList];exact hd
       have hwant:Region.wanted o (yielded ops a.tmps)=false:=by
        obtain ⟨fz,ρ,s⟩:=s
        exact qdf hgd s.env_ hops hb
       rw [hwant,if_neg (by simp)]
       exact ih _ _ _ _ (s.drop o.dst) hk
      ·cases hk
     ·cases hk
theorem stays_ok {m:Ren} {p:Nat} (h:m.stays p=true):(p,p)∈m:=by
 simp only [Ren.stays,List.any_eq_true,Bool.and_eq_true] at h
 obtain ⟨q,hq,h1,h2⟩:=h
 have e1:=Nat.eq_of_beq_eq_true h1
 have e2:=Nat.eq_of_beq_eq_true h2
 have:q=(p,p):=by cases q;simp at e1 e2;rw [e1,e2]
 rw [←this];exact hq
theorem pkOf_mem {n ty:Nat} {cs:List CV} (h:oget objs0 n=some (.box ty cs)):n∈pkOf objs0:=by
 simp only [pkOf,List.mem_filterMap]
 exact ⟨_,qd9 h,rfl⟩
theorem bk_ren {m:Ren} {objs:Objs} {ρ:Nat→Value} (hm:m.fine=true) (hp:(pkOf objs0).all m.stays=true) (h:Bk objs0 ρ0 objs ρ):Bk objs0 ρ0 (renObjs m objs) (renρ m ρ):=fun n ty cs hn=>by
 have hmem:=stays_ok (List.all_eq_true.1 hp n (pkOf_mem hn))
 obtain ⟨h1,cs',h2⟩:=h n ty cs hn
 obtain ⟨f1,f2⟩:=Ren.fine_ok hm
 exact ⟨by rw [qep f1 hmem];exact h1,_,by rw [qbo f1 hmem,h2];rfl⟩
theorem or_ren {m:Ren} {fz:Nat→Prop} {ρ:Nat→Value} {w:World} {objs:Objs} (hm:m.fine=true) (h:OR fz old ρ w objs):OR fz old (renρ m ρ) w (renObjs m objs):=
 h.ren hm (fun _ hk=>hk) h.fzlt h.oldlt fun n i g _ hg=>⟨(h.blk_lt hg).2.2,(h.blk_lt hg).2.1⟩
theorem qdg:∀ (env:List AV) (l:List Nat) (i:Nat),(wipeGo l i env).length=env.length
 | [],l,i=>by cases l<;>rfl
 | v::env,[],i=>rfl
 | v::env,d::ds,i=>by
   simp only [wipeGo]
   cases Nat.beq d i
   ·simp only [cond_false,List.length_cons,qdg env (d::ds) (i+1)]
   ·simp only [cond_true,List.length_cons,qdg env ds (i+1)]
theorem qdh:∀ (env:List AV) (l:List Nat) (i j:Nat),(wipeGo l i env).getD j (.c .bot)=env.getD j (.c .bot)∨(wipeGo l i env).getD j (.c .bot)=.c .bot
 | [],l,i,j=>.inl (by cases l<;>rfl)
 | v::env,[],i,j=>.inl rfl
 | v::env,d::ds,i,j=>by
   simp only [wipeGo]
   cases Nat.beq d i with
   | false=>
     simp only [cond_false]
     cases j with
     | zero=>exact .inl rfl
     | succ j=>simpa using qdh env (d::ds) (i+1) j
   | true=>
     simp only [cond_true]
     cases j with
     | zero=>exact .inr rfl
     | succ j=>simpa using qdh env ds (i+1) j
theorem wipe_ok {fz:Nat→Prop} {ρ:Nat→Value} {w:World} {objs:Objs} {tmps:Array Value} (l:List Nat) {env:List AV} (h:EnvR fz ρ w objs env tmps):EnvR fz ρ w objs (wipe l env) tmps:=by
 refine ⟨by rw [wipe,qdg];exact h.1,fun i=>?_⟩
 rcases qdh env l 0 i with e | e
 ·rw [wipe,e];exact h.2 i
 ·rw [wipe,e];exact trivial
theorem qb7 {dead:List Nat} {env:List AV} {objs:Objs} {a:Act} {w:World} {k:List AV×Objs→Option R} (s:Now gl old fz0 ρ0 w0 objs0 env objs a w) (hk:headSt (pkOf objs0) dead (env,objs) k=some r) :
  ∃ env' objs',k (env',objs')=some r∧Now gl old fz0 ρ0 w0 objs0 env' objs' a w:=by
 obtain ⟨fz,ρ,s⟩:=s
 unfold headSt at hk
 simp only [] at hk
 generalize List.foldl (fun m (aj:AV×Nat)=>reach objs true aj.2 aj.1 m) ((pkOf objs0).foldl (fun m p=>ptrKeys objs p p m) []) (wipe dead env).zipIdx=m at hk
 cases hc:(m.fine && (pkOf objs0).all m.stays) with
 | false=>rw [hc] at hk;cases hk
 | true=>
   rw [hc] at hk
   simp only [cond_true] at hk
   simp only [Bool.and_eq_true] at hc
   refine ⟨_,_,hk,fz,renρ m ρ,or_ren hc.1 s.or_,?_,s.gl_,s.frm,bk_ren hc.1 hc.2 s.bk,s.nd⟩
   have hw:=wipe_ok dead s.env_
   refine ⟨by rw [List.length_map];exact hw.1,fun i=>?_⟩
   have:((wipe dead env).map (renA m objs)).getD i (.c .bot)=renA m objs ((wipe dead env).getD i (.c .bot)):=by
    simp only [List.getD_eq_getElem?_getD,List.getElem?_map]
    cases (wipe dead env)[i]?<;>rfl
   rw [this]
   exact AVR.ren s.or_.froz (qb5 (Ren.fine_ok hc.1).1) (hw.2 i)
def Halts (P:Program) (b:Frame) (cs:List Frame) (a:Act) (todo:List Item) (w:World) (F:Value→World→Prop):Prop:=
 ∃ w' fr V,F V w'∧Steps P (lone (b.at a todo) cs w) (lone fr cs w')∧fr.fn=b.fn∧fr.leaving P w' (.returned V)
theorem Halts.head {b:Frame} {cs:List Frame} {a a':Act} {k k':List Item} {w w':World} {F:Value→World→Prop} (h:step P (lone (b.at a k) cs w)=.next (lone (b.at a' k') cs w')) (h':Halts P b cs a' k' w' F):Halts P b cs a k w F:=by
 obtain ⟨w2,fr,V,h1,h2,h3⟩:=h'
 exact ⟨w2,fr,V,h1,.head h h2,h3⟩
theorem Halts.steps {b:Frame} {cs:List Frame} {a a':Act} {k k':List Item} {w w':World} {F:Value→World→Prop} (h:Steps P (lone (b.at a k) cs w) (lone (b.at a' k') cs w')) (h':Halts P b cs a' k' w' F):Halts P b cs a k w F:=by
 obtain ⟨w2,fr,V,h1,h2,h3⟩:=h'
 exact ⟨w2,fr,V,h1,h.trans h2,h3⟩
theorem OR.drawn {fz:Nat→Prop} {ρ:Nat→Value} {w:World} {objs:Objs} (h:OR fz old ρ w objs):OR fz old ρ { w with drawn:=w.drawn+1 } objs:=
 h.world ⟨fun _ h=>h,fun _ _ h=>h,fun _ _=>rfl,fun _ _=>rfl,Nat.le_refl _,rfl,rfl,rfl⟩ (fun i g hg=>⟨rfl,(h.blk_lt hg).2.1⟩) h.fzlt
theorem EnvR.drawn {fz:Nat→Prop} {ρ:Nat→Value} {w:World} {objs:Objs} {env:List AV} {tmps:Array Value} (h:EnvR fz ρ w objs env tmps):EnvR fz ρ { w with drawn:=w.drawn+1 } objs env tmps:=h.mono (Ext.refl _ _) (fun _ h=>h) fun _ _=>rfl
theorem GlR.drawn {fz:Nat→Prop} {w:World} (h:GlR fz w gl):GlR fz { w with drawn:=w.drawn+1 } gl:=h.mono (fun _ h=>h) fun _ _=>rfl
variable {X:Aux}
theorem qdi {p:Item→Bool} {id:Nat}:∀ {l r:List Item},l.all p=true→exitTo id l=some r→r.all p=true
 | [],_,_,h=>by simp [exitTo] at h
 | x::l,r,ha,h=>by
   simp only [List.all_cons,Bool.and_eq_true] at ha
   cases x with
   | inBlock id'=>
     simp only [exitTo] at h
     split at h
     ·cases h;exact ha.2
     ·exact qdi ha.2 h
   | _=>simp only [exitTo] at h;exact qdi ha.2 h
theorem region_ok (hm:P.follows .mixedOrders=true) (hB:B.ok) (hT:TOk P τ) (hG:GOk P gl G) {b:Frame} {cs:List Frame} {F:Value→World→Prop} {id:Nat} {ops:Array Oper} {draw:Bool} {items:List Item} {k:List AV→Objs→Option R}
  (hk0:∀ env objs a w,Now gl old fz0 ρ0 w0 objs0 env objs a w→k env objs=some r→Halts P b cs a items w F) {env:List AV} {objs:Objs} {a:Act} {w:World} (hx:okI τ X.plan (.code (.region id ops draw))=true) (s:Now gl old fz0 ρ0 w0 objs0 env objs a w)
  (hk:(bif draw then adraw τ B gl G owns ops (100*(id+1)) (lookP X.plan id) [] env objs k else aops τ B gl G owns ops.toList (100*(id+1)) ops.toList 0 env objs k)=some r):Halts P b cs a (.code (.region id ops draw)::items) w F:=by
     cases draw with
     | true=>
       simp only [cond_true] at hk
       have hpl:=hx
       simp only [okI,okC,cond_true,Bool.and_eq_true] at hpl
       obtain ⟨fz,ρ,s⟩:=s
       have s':St gl old fz0 ρ0 w0 objs0 fz ρ env objs a { w with drawn:=w.drawn+1 }:=⟨s.or_.drawn,s.env_.drawn,s.gl_.drawn,⟨s.frm.up,s.frm.back,s.frm.fzw,s.frm.oldw,s.frm.size,s.frm.os,s.frm.tape,s.frm.output⟩,s.bk,s.nd⟩
       have h1:=qcg (P:=P) hB hT hG hpl.1 (Q:=fun e a w=>e=.normal∧∃ env objs,k env objs=some r∧Now gl old fz0 ρ0 w0 objs0 env objs a w)
        (fun env objs a w h1 h2=>⟨rfl,env,objs,h1,h2⟩) (fun c a w h=>by cases h.1) _ false _ [] env objs a _ fz ρ s' (fun p hp=>by cases hp) hpl.2.1 hk (fun _ _=>False) (fun _ _ _ h=>h.elim) ops.size (Nat.le_of_ble_eq_true hpl.2.2)
       simp only [cond_false] at h1
       obtain ⟨e,a',w',⟨rfl,env',objs',h2,h3⟩,harr⟩:=wp_region_any (id:=id) hm (h1.any) b items cs
       exact .steps harr (hk0 _ _ _ _ h3 h2)
     | false=>
       simp only [cond_false] at hk
       refine .head step_region ?_
       have:=aops_ok (P:=P) hB hT hG (ops:=ops) (Q:=fun e a w=>e=.normal∧∃ env objs,k env objs=some r∧Now gl old fz0 ρ0 w0 objs0 env objs a w)
        (fun env objs a w h1 h2=>⟨rfl,env,objs,h1,h2⟩) ops.toList 0 env objs a w (fun j=>by simp) s hk
       rw [←List.range_eq_range',Array.length_toList] at this
       obtain ⟨e,a',w',⟨rfl,env',objs',h1,h2⟩,harr⟩:=wp_ops _ a w this b items cs
       exact .steps harr (hk0 _ _ _ _ h2 h1)
theorem backRow_some {g:Operand} {s:List AV×Objs} {k:List Int→Option R} (h:backRow gl owns g s k=some r):∃ xs,backRow gl owns g s some=some xs∧k xs=some r:=by
 unfold backRow at h ⊢
 split at h
 ·rename_i f m hr
  cases how:owns f 8765432 with
  | false=>rw [how] at h;cases h
  | true=>
    rw [how] at h
    simp only [cond_true] at h ⊢
    split at h
    ·rename_i ty e xs hm;exact ⟨xs,by simp only [hm],h⟩
    ·cases h
 ·cases h
theorem seg_ok (hm:P.follows .mixedOrders=true) (hB:B.ok) (hT:TOk P τ) (hG:GOk P gl G) {b:Frame} {cs:List Frame} {fn:Func} {F:Value→World→Prop} (hb:b.kind=.normal) (hf:P.funcs[b.fn]?=some fn)
  {fin:List AV×Objs→Option R} {again:Bool→Code→List Item→List AV×Objs→Option R}
  (hfin:∀ env objs a w,fin (env,objs)=some r→Now gl old fz0 ρ0 w0 objs0 env objs a w→∃ V,(results fn a.tmps).run P w=.ok V w∧F V w)
  (hagain:∀ body rest env objs a w,okC τ X.plan body=true→rest.all (okI τ X.plan)=true→again false body rest (env,objs)=some r→Now gl old fz0 ρ0 w0 objs0 env objs a w→Halts P b cs a (.code body::.inLoop body::rest) w F)
  (hcut:∀ id ops draw rest env objs a w,okC τ X.plan (.region id ops draw)=true→rest.all (okI τ X.plan)=true→again true (.region id ops draw) rest (env,objs)=some r→Now gl old fz0 ρ0 w0 objs0 env objs a w→Halts P b cs a (.code (.region id ops draw)::rest) w F)
  (hrange:∀ g ps as bd rest p q xs env objs a w,lineC X false as=true→lineC X false bd=true→rest.all (lineI X true)=true→okC τ X.plan as=true→okC τ X.plan bd=true→rest.all (okI τ X.plan)=true→ps.toList=[p,q]→backRow gl owns g (env,objs) some=some xs→
    again true (.rangeFunc g ps as bd) rest (env.set p (.c (.int .i64 ((xs.length:Int)-1))),objs)=some r→Now gl old fz0 ρ0 w0 objs0 env objs a w→Halts P b cs a (.code (.rangeFunc g ps as bd)::rest) w F) :
  ∀ (c:Nat) (items:List Item) (env:List AV) (objs:Objs) (a:Act) (w:World),items.all (okI τ X.plan)=true→Now gl old fz0 ρ0 w0 objs0 env objs a w→seg τ B gl X G owns keep (pkOf objs0) fin again c items (env,objs)=some r→Halts P b cs a items w F
 | 0,_,_,_,_,_,_,_,hk=>by simp [seg] at hk
 | c+1,[],env,objs,a,w,_,s,hk=>by
   obtain ⟨V,h1,h2⟩:=hfin env objs a w hk s
   refine ⟨w,_,V,h2,.one step_end,rfl,rfl,?_,hb,fn,hf,h1⟩
   obtain ⟨fz,ρ,s⟩:=s;exact s.nd
 | c+1,x::items,env,objs,a,w,hx,s,hk=>by
   have ih:=seg_ok hm hB hT hG hb hf hfin hagain hcut hrange c
   simp only [List.all_cons,Bool.and_eq_true] at hx
   obtain ⟨hx,hxs⟩:=hx
   cases x with
   | code y=>
     cases y with
     | skip=>exact .head step_skip (ih _ _ _ _ _ hxs s hk)
     | label l=>exact .head step_label (ih _ _ _ _ _ hxs s hk)
     | region id ops draw=>
       simp only [seg] at hk
       cases hcb:isCut X id with
       | true=>
         rw [hcb] at hk
         simp only [cond_true] at hk
         obtain ⟨env',objs',h1,h2⟩:=qb7 s hk
         exact hcut _ _ _ _ _ _ _ _ hx hxs h1 h2
       | false=>
         rw [hcb] at hk
         simp only [cond_false] at hk
         exact region_ok hm hB hT hG (fun env objs a w h1 h2=>ih _ _ _ _ _ hxs h1 h2) hx s hk
     | seq x y=>
       simp only [okI,okC,Bool.and_eq_true] at hx
       exact .head step_seq (ih _ _ _ _ _ (by simp only [List.all_cons,okI,hx.1,hx.2,hxs,Bool.and_self]) s hk)
     | cond z x y=>
       simp only [okI,okC,Bool.and_eq_true] at hx
       simp only [seg] at hk
       split at hk
       ·rename_i v hv
        have hz:a.eval z=.bool v:=by
         obtain ⟨fz,ρ,s⟩:=s
         have:=qbl s.gl_ s.env_ z
         rw [hv] at this;exact this
        have sk:Now gl old fz0 ρ0 w0 objs0 (know z v env) objs a w:=by
         cases z with
         | tmp t=>exact s.know hv
         | _=>exact s
        refine .head (step_cond hz) ?_
        cases v with
        | true=>exact ih _ _ _ _ _ (by simp [okI,hx.1,hxs]) sk hk
        | false=>exact ih _ _ _ _ _ (by simp [okI,hx.2,hxs]) sk hk
       ·cases hk
     | block id x=>exact .head step_block (ih _ _ _ _ _ (by simp only [okI,okC] at hx;simp only [List.all_cons,okI,hx,hxs,Bool.and_self]) s hk)
     | loop x=>
       obtain ⟨env',objs',h1,h2⟩:=qb7 s hk
       exact .head step_loop (hagain _ _ _ _ _ _ hx hxs h1 h2)
     | exit id=>
       simp only [seg] at hk
       split at hk
       ·rename_i r' hr
        exact .head (step_exit hr) (ih _ _ _ _ _ (qdi hxs hr) s hk)
       ·cases hk
     | ret=>
       obtain ⟨V,h1,h2⟩:=hfin env objs a w hk s
       refine ⟨w,_,V,h2,.one step_ret,rfl,rfl,?_,hb,fn,hf,h1⟩
       obtain ⟨fz,ρ,s⟩:=s;exact s.nd
     | rangeFunc g ps as bd=>
       simp only [okI,okC,Bool.and_eq_true] at hx
       simp only [seg] at hk
       cases hc:(lineC X false as && lineC X false bd && items.all (lineI X true)) with
       | false=>rw [hc] at hk;cases hk
       | true=>
         rw [hc] at hk
         simp only [cond_true] at hk
         simp only [Bool.and_eq_true] at hc
         obtain ⟨env',objs',h1,h2⟩:=qb7 s hk
         obtain ⟨xs,h3,h4⟩:=backRow_some h1
         unfold two2 at h4
         split at h4
         ·rename_i p q hps;exact hrange _ _ _ _ _ _ _ _ _ _ _ _ hc.1.1 hc.1.2 hc.2 hx.1 hx.2 hxs hps h3 h4 h2
         ·cases h4
     | _=>simp [seg] at hk
   | inBlock id=>exact .head step_inBlock (ih _ _ _ _ _ hxs s hk)
   | inLoop x=>
     obtain ⟨env',objs',h1,h2⟩:=qb7 s hk
     exact .head step_inLoop (hagain _ _ _ _ _ _ hx hxs h1 h2)
   | _=>simp [seg] at hk
theorem arun_loop {keep pk:List Nat} {fin:List AV×Objs→Option R} (n:Nat) (b:Code) (rest:List Item) (s:List AV×Objs):arun τ B gl X G owns keep pk fin (n+1) false b rest s=seg τ B gl X G owns keep pk fin (arun τ B gl X G owns keep pk fin n) 4000 (.code b::.inLoop b::rest) s:=by
 rw [arun];rfl
theorem arun_cut {keep pk:List Nat} {fin:List AV×Objs→Option R} (n:Nat) (b:Code) (rest:List Item) (s:List AV×Objs):arun τ B gl X G owns keep pk fin (n+1) true b rest s=cutRun τ B gl X G owns keep pk fin (arun τ B gl X G owns keep pk fin n) b rest s:=by
 rw [arun];rfl
theorem cutRun_region {keep pk:List Nat} {fin:List AV×Objs→Option R} {again:Bool→Code→List Item→List AV×Objs→Option R} (id:Nat) (ops:Array Oper) (draw:Bool) (rest:List Item) (env:List AV) (objs:Objs) :
  cutRun τ B gl X G owns keep pk fin again (.region id ops draw) rest (env,objs)=bif draw then adraw τ B gl G owns ops (100*(id+1)) (lookP X.plan id) [] env objs (fun env objs=>seg τ B gl X G owns keep pk fin again 4000 rest (env,objs)) else aops τ B gl G owns ops.toList (100*(id+1)) ops.toList 0 env objs fun env objs=>seg τ B gl X G owns keep pk fin again 4000 rest (env,objs):=by
 rw [cutRun]
theorem arun_ok (hm:P.follows .mixedOrders=true) (hB:B.ok) (hT:TOk P τ) (hG:GOk P gl G) {b:Frame} {cs:List Frame} {fn:Func} {F:Value→World→Prop} (hb:b.kind=.normal) (hf:P.funcs[b.fn]?=some fn)
  {fin:List AV×Objs→Option R}
  (hfin:∀ env objs a w,fin (env,objs)=some r→Now gl old fz0 ρ0 w0 objs0 env objs a w→∃ V,(results fn a.tmps).run P w=.ok V w∧F V w)
  (hrange:∀ n g ps as bd rest p q xs env objs a w,lineC X false as=true→lineC X false bd=true→rest.all (lineI X true)=true→okC τ X.plan as=true→okC τ X.plan bd=true→rest.all (okI τ X.plan)=true→ps.toList=[p,q]→backRow gl owns g (env,objs) some=some xs→
    arun τ B gl X G owns keep (pkOf objs0) fin n true (.rangeFunc g ps as bd) rest (env.set p (.c (.int .i64 ((xs.length:Int)-1))),objs)=some r→Now gl old fz0 ρ0 w0 objs0 env objs a w→Halts P b cs a (.code (.rangeFunc g ps as bd)::rest) w F) :
  ∀ (n:Nat),(∀ (body:Code) (rest:List Item) (env:List AV) (objs:Objs) (a:Act) (w:World),okC τ X.plan body=true→rest.all (okI τ X.plan)=true→arun τ B gl X G owns keep (pkOf objs0) fin n false body rest (env,objs)=some r→Now gl old fz0 ρ0 w0 objs0 env objs a w→
    Halts P b cs a (.code body::.inLoop body::rest) w F)∧
   (∀ (id:Nat) (ops:Array Oper) (draw:Bool) (rest:List Item) (env:List AV) (objs:Objs) (a:Act) (w:World),okC τ X.plan (.region id ops draw)=true→rest.all (okI τ X.plan)=true→arun τ B gl X G owns keep (pkOf objs0) fin n true (.region id ops draw) rest (env,objs)=some r→Now gl old fz0 ρ0 w0 objs0 env objs a w→
    Halts P b cs a (.code (.region id ops draw)::rest) w F):=by
 intro n
 induction n with
 | zero=>exact ⟨fun _ _ _ _ _ _ _ _ hk _=>by simp [arun] at hk,fun _ _ _ _ _ _ _ _ _ _ hk _=>by simp [arun] at hk⟩
 | succ n ih=>
   refine ⟨fun body rest env objs a w h1 h2 hk s=>?_,fun id ops draw rest env objs a w h1 h2 hk s=>?_⟩
   ·rw [arun_loop] at hk
    exact seg_ok (cs:=cs) hm hB hT hG hb hf hfin ih.1 ih.2 (hrange n) 4000 _ env objs a w (by simp only [List.all_cons,okI,h1,h2,Bool.and_self]) s hk
   ·rw [arun_cut] at hk
    rw [cutRun_region] at hk
    exact region_ok hm hB hT hG (fun env objs a w s h=>seg_ok (cs:=cs) hm hB hT hG hb hf hfin ih.1 ih.2 (hrange n) 4000 _ env objs a w h2 s h) h1 s hk
end
end Go.Proofs.YtkmpkebaloejhaaGreatDoor.Av
