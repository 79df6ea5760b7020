/- Stretches in rounds,and what a round leaves. Conditions: none. -/
import Derived.Test.YtkmpkebaloejhaaGreatDoorAv32
namespace Go.Proofs.YtkmpkebaloejhaaGreatDoor.Av
open Go
section
variable {R:Type} {old fz0:Nat→Prop} {ρ0:Nat→Value} {w0:World} {objs0:Objs} {r:R} {P:Program} {τ:Nat→Option TI} {B:Ops} {gl:Nat→Option (List CV)}
 {G:Nat→List AV→Objs→(AV→Objs→Option R)→Option R} {owns:Nat→Nat→Bool} {keep pk:List Nat} {X:Aux}
theorem qbw {p:Item→Bool} {id:Nat}:∀ {l r:List Item},l.all p=true→exitTo id l=some r→r.all p=true
 | [],_,_,h=>by simp [exitTo] at h
 | x::l,r,ha,h=>by
   simp only [List.all_cons,Bool.and_eq_true] at ha
   cases x with
   | inBlock id'=>
     simp only [exitTo] at h
     split at h
     ·cases h;exact ha.2
     ·exact qbw ha.2 h
   | _=>simp only [exitTo] at h;exact qbw ha.2 h
theorem qdj {id:Nat} {K:List Item}:∀ {l r:List Item},exitTo id l=some r→exitTo id (l++K)=some (r++K)
 | [],_,h=>by simp [exitTo] at h
 | x::l,r,h=>by
   cases x with
   | inBlock id'=>
     simp only [exitTo,List.cons_append] at h ⊢
     split at h
     ·rename_i hb;cases h;rw [if_pos hb]
     ·rename_i hb;rw [if_neg hb];exact qdj h
   | _=>simp only [exitTo,List.cons_append] at h ⊢;exact qdj h
theorem noDefer_ok {ops:Array Oper} (h:noDefer ops=true) (i:Nat) (o:Oper) (ho:ops[i]?=some o) (c:Call):o.op≠.defer c:=fun hc=>by
 unfold noDefer at h
 rw [List.all_eq_true] at h
 have hm:o∈ops.toList:=by rw [←Array.getElem?_toList] at ho;exact List.mem_of_getElem? ho
 have:=h o hm
 rw [hc] at this
 cases this
theorem regionR_ok (hm:P.follows .mixedOrders=true) (hB:B.ok) (hT:TOk P τ) (hG:GOk P gl G) (b:Frame) (cs:List Frame) {id:Nat} {ops:Array Oper} {draw:Bool} {items:List Item} {k:List AV→Objs→Option R} {env:List AV} {objs:Objs} {a:Act} {w:World}
  (hx:okI τ X.plan (.code (.region id ops draw))=true) (hd:draw=true→a.defers=[]∧noDefer ops=true) (s:Now gl old fz0 ρ0 w0 objs0 env objs (bare a) w)
  (hk:(bif draw then adraw τ B gl G owns ops (100*(id+1)) (lookP X.plan id) [] env objs k else aops τ B gl G owns ops.toList (100*(id+1)) ops.toList 0 env objs k)=some r) :
  ∃ env' objs' a' w',k env' objs'=some r∧Now gl old fz0 ρ0 w0 objs0 env' objs' (bare a') w'∧a'.defers=a.defers∧Steps P (lone (b.atR a (.code (.region id ops draw)::items)) cs w) (lone (b.atR a' items) cs w'):=by
 have key:∀ {Q:Exit→Act→World→Prop},(Code.region id ops draw).wpIn (FR b.roundOf) 0 P Q a w→(∀ e a w,Q e a w→e=.normal)→∃ a' w',Q .normal a' w'∧Steps P (lone (b.atR a (.code (.region id ops draw)::items)) cs w) (lone (b.atR a' items) cs w'):=fun h hQ=>by
  obtain ⟨e,a',w',hq,harr⟩:=h b items cs rfl trivial (FR_room _ _)
  have:=hQ _ _ _ hq
  subst this
  exact ⟨a',w',hq,StepsIn.steps harr⟩
 cases draw with
 | true=>
   simp only [cond_true] at hk
   obtain ⟨hd0,hdn⟩:=hd rfl
   rw [bare_id hd0] at s
   have hpl:=hx
   simp only [okI,okC,cond_true,Bool.and_eq_true] at hpl
   obtain ⟨fz,ρ,s⟩:=s
   have s':St gl old fz0 ρ0 w0 objs0 fz ρ env objs a { w with drawn:=w.drawn+1 }:=
    ⟨s.or_.world ⟨fun _ h=>h,fun _ _ h=>h,fun _ _=>rfl,fun _ _=>rfl,Nat.le_refl _,rfl,rfl,rfl⟩ (fun i g hg=>⟨rfl,(s.or_.blk_lt hg).2.1⟩) s.or_.fzlt,
      s.env_.mono (Ext.refl _ _) (fun _ h=>h) fun _ _=>rfl,s.gl_.mono (fun _ h=>h) fun _ _=>rfl,⟨s.frm.up,s.frm.back,s.frm.fzw,s.frm.oldw,s.frm.size,s.frm.os,s.frm.tape,s.frm.output⟩,s.bk,s.nd⟩
   have h1:=qcg (P:=P) hB hT hG hpl.1 (Q:=fun e a w=>e=.normal∧∃ env objs,k env objs=some r∧Now gl old fz0 ρ0 w0 objs0 env objs a w)
    (fun env objs a w h1 h2=>⟨rfl,env,objs,h1,h2⟩) (fun c a w h=>by cases h.1) _ false _ [] env objs a _ fz ρ s' (fun p hp=>by cases hp) hpl.2.1 hk (fun _ _=>False) (fun _ _ _ h=>h.elim) ops.size (Nat.le_of_ble_eq_true hpl.2.2)
   simp only [cond_false] at h1
   have h2:=any_FR (ro:=b.roundOf) (n:=0) (noDefer_ok hdn) (fun hl=>by obtain ⟨_,_,hl,_⟩:=hl;cases hl) _ _ _ _ h1.any
   obtain ⟨a',w',⟨_,env',objs',h3,h4⟩,h5⟩:=key (wpIn_region_any hm h2) (fun e a w h=>h.1)
   have hd':a'.defers=[]:=by obtain ⟨_,_,s⟩:=h4;exact s.nd
   exact ⟨env',objs',a',w',h3,by rw [bare_id hd'];exact h4,hd'.trans hd0.symm,h5⟩
 | false=>
   simp only [cond_false] at hk
   have h1:=aopsIn_ok (P:=P) (ro:=b.roundOf) (n:=0) hB hT hG (ops:=ops) (ds:=a.defers) (Q:=fun e a' w=>e=.normal∧∃ env objs,k env objs=some r∧Now gl old fz0 ρ0 w0 objs0 env objs (bare a') w∧a'.defers=a.defers)
    (fun env objs a w h1 h2 h3=>⟨rfl,env,objs,h1,h2,h3⟩) ops.toList 0 env objs a w (fun j=>by simp) s rfl hk
   rw [←List.range_eq_range',Array.length_toList] at h1
   obtain ⟨a',w',⟨_,env',objs',h3,h4,h6⟩,h5⟩:=key (wpIn_region h1) (fun e a w h=>h.1)
   exact ⟨env',objs',a',w',h3,h4,h6,h5⟩
theorem segR_ok (hm:P.follows .mixedOrders=true) (hB:B.ok) (hT:TOk P τ) (hG:GOk P gl G) (b:Frame) (cs:List Frame) {fin:List AV×Objs→Option R} {again:Bool→Code→List Item→List AV×Objs→Option R} (K:List Item) (rt:Bool) :
  ∀ (c:Nat) (items:List Item) (env:List AV) (objs:Objs) (a:Act) (w:World),items.all (lineI X rt)=true→items.all (okI τ X.plan)=true→(rt=false→a.defers=[])→Now gl old fz0 ρ0 w0 objs0 env objs (bare a) w→
    seg τ B gl X G owns keep pk fin again c items (env,objs)=some r→
    ∃ env' objs' a' w' todo,fin (env',objs')=some r∧Now gl old fz0 ρ0 w0 objs0 env' objs' (bare a') w'∧a'.defers=a.defers∧Steps P (lone (b.atR a (items++K)) cs w) (lone (b.atR a' (todo++K)) cs w')∧(todo=[]∨rt=true∧∃ k,todo=.code .ret::k)
 | 0,_,_,_,_,_,_,_,_,_,hk=>by simp [seg] at hk
 | c+1,[],env,objs,a,w,_,_,_,s,hk=>⟨env,objs,a,w,[],hk,s,rfl,Steps.refl _ _,.inl rfl⟩
 | c+1,x::items,env,objs,a,w,hl,hx,hd,s,hk=>by
   have ih:=segR_ok hm hB hT hG b cs (fin:=fin) (again:=again) (K:=K) (rt:=rt) c
   simp only [List.all_cons,Bool.and_eq_true] at hx hl
   obtain ⟨hx,hxs⟩:=hx
   obtain ⟨hl,hls⟩:=hl
   have one:∀ {m:Machine} {items':List Item} {env':List AV},items'.all (lineI X rt)=true→items'.all (okI τ X.plan)=true→Now gl old fz0 ρ0 w0 objs0 env' objs (bare a) w→step P m=.next (lone (b.atR a (items'++K)) cs w)→seg τ B gl X G owns keep pk fin again c items' (env',objs)=some r→
     ∃ env' objs' a' w' todo,fin (env',objs')=some r∧Now gl old fz0 ρ0 w0 objs0 env' objs' (bare a') w'∧a'.defers=a.defers∧Steps P m (lone (b.atR a' (todo++K)) cs w')∧(todo=[]∨rt=true∧∃ k,todo=.code .ret::k):=fun h1 h2 h0 h3 h4=>by
    obtain ⟨e',o',a',w',t,q1,q2,q3,q4,q5⟩:=ih _ _ _ _ _ h1 h2 hd h0 h4
    exact ⟨e',o',a',w',t,q1,q2,q3,.head h3 q4,q5⟩
   cases x with
   | code y=>
     cases y with
     | skip=>exact one hls hxs s stepR_skip hk
     | label l=>exact one hls hxs s stepR_label hk
     | region id ops draw=>
       simp only [lineI,lineC,Bool.and_eq_true,Bool.not_eq_true'] at hl
       simp only [seg,hl.1,cond_false] at hk
       obtain ⟨env1,objs1,a1,w1,q1,q2,q3,q4⟩:=regionR_ok (items:=items++K) hm hB hT hG b cs (k:=fun env objs=>seg τ B gl X G owns keep pk fin again c items (env,objs)) hx (fun hdr=>by
        have h2:=hl.2
        rw [hdr] at h2
        simp only [cond_true,Bool.and_eq_true,Bool.not_eq_true'] at h2
        exact ⟨hd h2.1,h2.2⟩) s hk
       obtain ⟨e',o',a',w',t,p1,p2,p3,p4,p5⟩:=ih _ _ _ _ _ hls hxs (fun h=>q3.trans (hd h)) q2 q1
       exact ⟨e',o',a',w',t,p1,p2,p3.trans q3,q4.trans p4,p5⟩
     | seq x y=>
       simp only [okI,okC,Bool.and_eq_true] at hx
       simp only [lineI,lineC,Bool.and_eq_true] at hl
       exact one (items':=.code x::.code y::items) (by simp only [List.all_cons,lineI,hl.1,hl.2,hls,Bool.and_self]) (by simp only [List.all_cons,okI,hx.1,hx.2,hxs,Bool.and_self]) s stepR_seq hk
     | cond z x y=>
       simp only [okI,okC,Bool.and_eq_true] at hx
       simp only [lineI,lineC,Bool.and_eq_true] at hl
       simp only [seg] at hk
       split at hk
       ·rename_i v hv
        have hz:a.eval z=.bool v:=by
         obtain ⟨fz,ρ,s⟩:=s
         have:=qbl s.gl_ s.env_ z
         rw [hv,qcw] at this;exact this
        have sk:Now gl old fz0 ρ0 w0 objs0 (know z v env) objs (bare a) w:=by
         cases z with
         | tmp t=>exact s.know hv
         | _=>exact s
        cases v with
        | true=>exact one (items':=.code x::items) (by simp only [List.all_cons,lineI,hl.1,hls,Bool.and_self]) (by simp only [List.all_cons,okI,hx.1,hxs,Bool.and_self]) sk (stepR_cond hz) hk
        | false=>exact one (items':=.code y::items) (by simp only [List.all_cons,lineI,hl.2,hls,Bool.and_self]) (by simp only [List.all_cons,okI,hx.2,hxs,Bool.and_self]) sk (stepR_cond hz) hk
       ·cases hk
     | block id x=>
       simp only [okI,okC] at hx
       simp only [lineI,lineC] at hl
       exact one (items':=.code x::.inBlock id::items) (by simp only [List.all_cons,lineI,hl,hls,Bool.and_self]) (by simp only [List.all_cons,okI,hx,hxs,Bool.and_self]) s stepR_block hk
     | exit id=>
       simp only [seg] at hk
       split at hk
       ·rename_i r' hr
        exact one (qbw hls hr) (qbw hxs hr) s (stepR_exit (qdj hr)) hk
       ·cases hk
     | ret=>
       simp only [lineI,lineC] at hl
       exact ⟨env,objs,a,w,.code .ret::items,hk,s,rfl,Steps.refl _ _,.inr ⟨hl,items,rfl⟩⟩
     | _=>simp [lineI,lineC] at hl
   | inBlock id=>exact one hls hxs s stepR_inBlock hk
   | _=>simp [lineI] at hl
end
section
variable {fz fz':Nat→Prop} {ρ ρ':Nat→Value} {w w':World} {objs objs':Objs}
theorem qfk (bk:Bk objs ρ objs' ρ') (hf:∀ k,fz k→fz' k) (hw:∀ k,fz k→w'.heap[k]?=w.heap[k]?) {c:CV} {v:Value} (hs:stableC objs c=true) (h:CVR fz ρ w objs c v):CVR fz' ρ' w' objs' c v:=by
 cases c with
 | list e t xs=>exact Ty.K_mono hf hw (.list e t) xs _ h
 | own i=>simp [stableC] at hs
 | ptr i off=>
   simp only [stableC] at hs
   split at hs
   ·rename_i ty cs ho
    simp only [CVR,ho] at h
    obtain ⟨h1,cs',h2⟩:=bk i ty cs ho
    simp only [CVR,h2,h1]
    exact h
   ·cases hs
 | _=>exact h
theorem qdk (bk:Bk objs ρ objs' ρ') (hf:∀ k,fz k→fz' k) (hw:∀ k,fz k→w'.heap[k]?=w.heap[k]?):∀ {l:List CV} {vs:List Value},l.all (stableC objs)=true→All2 (CVR fz ρ w objs) l vs→All2 (CVR fz' ρ' w' objs') l vs
 | [],[],_,_=>trivial
 | c::l,v::vs,hs,⟨h1,h2⟩=>by
   simp only [List.all_cons,Bool.and_eq_true] at hs
   exact ⟨qfk bk hf hw hs.1 h1,qdk bk hf hw hs.2 h2⟩
 | [],_::_,_,h=>h.elim
 | _::_,[],_,h=>h.elim
theorem stableA_ok (bk:Bk objs ρ objs' ρ') (hf:∀ k,fz k→fz' k) (hw:∀ k,fz k→w'.heap[k]?=w.heap[k]?) {a:AV} {v:Value} (hs:stableA objs a=true) (h:AVR fz ρ w objs a v):AVR fz' ρ' w' objs' a v:=by
 cases a with
 | c x=>exact qfk bk hf hw hs h
 | fn f caps=>obtain ⟨cs,rfl,h⟩:=h;exact ⟨cs,rfl,qdk bk hf hw hs h⟩
 | bm f caps=>obtain ⟨cs,rfl,h⟩:=h;exact ⟨cs,rfl,qdk bk hf hw hs h⟩
 | _=>simp [stableA] at hs
theorem restA_ok (bk:Bk objs ρ objs' ρ') (hf:∀ k,fz k→fz' k) (hw:∀ k,fz k→w'.heap[k]?=w.heap[k]?) {env:List AV} {tmps:Array Value} (h:EnvR fz ρ w objs env tmps):EnvR fz' ρ' w' objs' (restA objs env) tmps:=by
 refine ⟨by simp [restA,h.1],fun i=>?_⟩
 by_cases hi:i<env.length
 ·have h1:(restA objs env).getD i (.c .bot)=bif stableA objs (env.getD i (.c .bot)) then env.getD i (.c .bot) else .c .bot:=by
   simp [restA,List.getD_eq_getElem?_getD,hi]
  rw [h1]
  cases hs:stableA objs (env.getD i (.c .bot)) with
  | true=>exact stableA_ok bk hf hw hs (h.2 i)
  | false=>exact trivial
 ·have h1:(restA objs env).getD i (.c .bot)=.c .bot:=by
   simp [restA,List.getD_eq_getElem?_getD,List.getElem?_eq_none (Nat.le_of_not_lt hi)]
  rw [h1];exact trivial
theorem or_old {old old':Nat→Prop} (h:OR fz old ρ w objs) (h1:∀ k,old' k→k<w.heap.size) (h2:∀ i g,blkO objs ρ i=some g→¬ old' g):OR fz old' ρ w objs:=by
 refine ⟨fun i o ho=>?_,h.apart,h.fzlt,h1⟩
 have hR:=h.obj i o ho
 have h2:=h2 i
 rw [qao ho] at h2
 cases o with
 | dead=>exact trivial
 | froz e t xs=>exact hR
 | row e t xs=>
   obtain ⟨css,q1,q2,q3⟩:=hR
   refine ⟨css,q1,q2,fun g hg=>⟨(q3 g hg).1,h2 g ?_⟩⟩
   simp only [Obj.live,if_true]
   cases hV:ρ i<;>rw [hV] at hg q2<;>simp [Value.ownBlock] at hg
   rw [←qay];simpa [Value.ownBlock] using hg
 | box ty cs=>
   obtain ⟨g,vs,q1,q2,q3,q4,q5,q6⟩:=hR
   refine ⟨g,vs,q1,q2,q3,q4,h2 g ?_,q6⟩
   simp [Obj.live,q1,blkV]
 | mp ty k v l=>
   obtain ⟨g,es,c,q1,q2,q3,q4,q5⟩:=hR
   refine ⟨g,es,c,q1,q2,q3,q4,h2 g ?_⟩
   simp [Obj.live,q1,blkV]
 | it s0 p0=>
   obtain ⟨g,q1,q2,q3,q4⟩:=hR
   refine ⟨g,q1,q2,q3,h2 g ?_⟩
   simp [Obj.live,q1,blkV]
theorem or_world {old old':Nat→Prop} (h:OR fz old ρ w objs) (hf:∀ k,fz k→w'.heap[k]?=w.heap[k]?) (hb:∀ i g,blkO objs ρ i=some g→w'.heap[g]?=w.heap[g]?) (hs:w.heap.size≤w'.heap.size) (ho:w'.os=w.os) (ht:w'.tape=w.tape) (hu:w'.output=w.output)
  (h1:∀ k,old' k→k<w'.heap.size) (h2:∀ i g,blkO objs ρ i=some g→¬ old' g):OR fz old' ρ w' objs:=by
 have h3:=or_old (old':=fun _=>False) h (fun _ h=>h.elim) (fun _ _ _ h=>h)
 exact or_old (h3.world (w':=w') ⟨fun _ h=>h,fun _ h _=>h.elim,hf,fun _ h=>h.elim,hs,ho,ht,hu⟩ (fun i g hg=>⟨hb i g hg,(h.blk_lt hg).2.1⟩) (fun k hk=>Nat.lt_of_lt_of_le (h.fzlt k hk) hs)) h1 h2
theorem env_set {env:List AV} {tmps:Array Value} (h:EnvR fz ρ w objs env tmps) {v:AV} {V:Value} (hv:AVR fz ρ w objs v V) (p:Nat):EnvR fz ρ w objs (env.set p v) (tmps.setIfInBounds p V):=
 EnvR.put (a:={ tmps:=tmps,defers:=[] }) h hv (some p)
theorem env_bot {env:List AV} {tmps:Array Value} (h:EnvR fz ρ w objs env tmps) (p:Nat):EnvR fz ρ w objs (env.set p (.c .bot)) tmps:=by
 refine ⟨by simp [h.1],fun i=>?_⟩
 by_cases e:i=p
 ·subst e
  have:(env.set i (.c .bot)).getD i (AV.c .bot)=.c .bot:=by
   simp only [List.getD_eq_getElem?_getD,List.getElem?_set]
   by_cases hl:i<env.length<;>simp [hl]
  rw [this];exact trivial
 ·have:(env.set p (.c .bot)).getD i (AV.c .bot)=env.getD i (.c .bot):=by
   simp [List.getD_eq_getElem?_getD,List.getElem?_set,Ne.symm e]
  rw [this];exact h.2 i
end
end Go.Proofs.YtkmpkebaloejhaaGreatDoor.Av
