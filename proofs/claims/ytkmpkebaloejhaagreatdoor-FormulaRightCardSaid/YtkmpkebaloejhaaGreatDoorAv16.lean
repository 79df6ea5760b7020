/- Functions: what they answer. Conditions: none. -/
import Derived.Test.YtkmpkebaloejhaaGreatDoorAv15
import Derived.Test.YtkmpkebaloejhaaGreatDoorAv34
namespace Go.Proofs.YtkmpkebaloejhaaGreatDoor.Av
open Go
section
variable {R:Type} {old fz0:Nat→Prop} {ρ0:Nat→Value} {w0:World} {objs0:Objs} {r:R} {P:Program} {τ:Nat→Option TI} {B:Ops} {gl:Nat→Option (List CV)}
 {G:Nat→List AV→Objs→(AV→Objs→Option R)→Option R} {owns:Nat→Nat→Bool}
def resultOf (tmps:Array Value):ResultVar→Sem Value
 | .tmp t=>pure (tmps.getD t undef)
 | .cell a t=>do loadVar t (←asAddr (tmps.getD a undef))
theorem results_eq (fn:Func) (tmps:Array Value):results fn tmps=(do let vs ←fn.results.mapM (resultOf tmps);pure (if h:vs.size=1 then vs[0] else .tuple vs)):=by
 have:resultOf tmps=(fun | .tmp t=>pure (tmps.getD t undef) | .cell a t=>do loadVar t (←asAddr (tmps.getD a undef))):=by
  funext x;cases x<;>rfl
 rw [this]
 rfl
theorem qfl (hT:TOk P τ) {fz:Nat→Prop} {ρ:Nat→Value} {w:World} {objs:Objs} {env:List AV} {tmps:Array Value} (h:OR fz old ρ w objs) (he:EnvR fz ρ w objs env tmps) {x:ResultVar} {v:AV} (hv:aresult τ env objs x=some v) :
  ∃ V,(resultOf tmps x).run P w=.ok V w∧AVR fz ρ w objs v V:=by
 cases x with
 | tmp t=>
   simp only [aresult,Option.some.injEq] at hv
   subst hv
   exact ⟨_,rfl,he.2 t⟩
 | cell p t=>
   simp only [aresult] at hv
   split at hv
   ·rename_i ti hti
    split at hv
    ·rename_i l hl
     obtain ⟨ad,cs,hA,hat,hall,hn,h1⟩:=qfe h (he.2 p) hl
     obtain ⟨V,hr,hV⟩:=qbm (hT t ti hti) hat hall hn h1 hv
     refine ⟨V,?_,hV⟩
     simp only [resultOf,hA,asAddr,Sem.run_bind,Sem.run_pure,Result.andThen_ok,hr w hat]
    ·cases hv
   ·cases hv
theorem aresults_ok (hT:TOk P τ) {fn:Func} {fz:Nat→Prop} {ρ:Nat→Value} {w:World} {objs:Objs} {env:List AV} {tmps:Array Value} (h:OR fz old ρ w objs) (he:EnvR fz ρ w objs env tmps) {v:AV} (hv:aresults τ fn.results.toList env objs=some v) :
  ∃ V,(results fn tmps).run P w=.ok V w∧AVR fz ρ w objs v V:=by
 rw [results_eq]
 unfold aresults at hv
 have hrs:∀ (rs:Array ResultVar),fn.results=rs→(∃ x,rs.toList=[x]∧aresult τ env objs x=some v)∨(rs.toList.length≠1∧∃ l,(rs.toList.mapM fun r=>match aresult τ env objs r with
   | some (.c x)=>some (false,[x])
   | some (.agg l)=>some (true,l)
   | _=>none)=some l∧v=.tup l):=by
  intro rs hrs
  rw [hrs] at hv
  split at hv
  ·rename_i x hx
   exact .inl ⟨x,hx,hv⟩
  ·rename_i hx
   split at hv
   ·rename_i l hl
    cases hv
    refine .inr ⟨fun h1=>?_,l,hl,rfl⟩
    obtain ⟨y,hy⟩:=List.length_eq_one_iff.1 h1
    exact hx y hy
   ·cases hv
 rcases hrs fn.results rfl with ⟨x,hx,hxv⟩ | ⟨hne,l,hl,rfl⟩
 ·obtain ⟨V,h1,h2⟩:=qfl hT h he hxv
  refine ⟨V,?_,h2⟩
  have:fn.results=#[x]:=by apply Array.ext';simpa using hx
  rw [this]
  simp [Array.mapM_eq_mapM_toList,h1]
 ·have key:∀ (rs:List ResultVar) (l:List (Bool×List CV)),(rs.mapM fun r=>match aresult τ env objs r with
    | some (.c x)=>some (false,[x])
    | some (.agg l)=>some (true,l)
    | _=>none)=some l→∃ vs:List Value,(rs.mapM (resultOf tmps)).run P w=.ok vs w∧vs.length=rs.length∧All2 (fun (x:Bool×List CV) u=>if x.1 then ∃ cs:Array Value,u=.agg cs∧All2 (CVR fz ρ w objs) x.2 cs.toList∧∀ u∈cs,u.oneCell'=true else ∃ c,x.2=[c]∧CVR fz ρ w objs c u) l vs:=by
   intro rs
   induction rs with
   | nil=>intro l hl;simp at hl;subst hl;exact ⟨[],rfl,rfl,trivial⟩
   | cons x rs ih=>
     intro l hl
     rw [List.mapM_cons] at hl
     cases hx:aresult τ env objs x with
     | none=>rw [hx] at hl;simp at hl
     | some av=>
       rw [hx] at hl
       obtain ⟨V,h1,h2⟩:=qfl hT h he hx
       have hgo:∀ (p:Bool×List CV) (l':List (Bool×List CV)),(rs.mapM fun r=>match aresult τ env objs r with
         | some (.c x)=>some (false,[x])
         | some (.agg l)=>some (true,l)
         | _=>none)=some l'→l=p::l'→(if p.1 then ∃ cs:Array Value,V=.agg cs∧All2 (CVR fz ρ w objs) p.2 cs.toList∧∀ u∈cs,u.oneCell'=true else ∃ c,p.2=[c]∧CVR fz ρ w objs c V)→
         ∃ vs:List Value,((x::rs).mapM (resultOf tmps)).run P w=.ok vs w∧vs.length=(x::rs).length∧All2 (fun (x:Bool×List CV) u=>if x.1 then ∃ cs:Array Value,u=.agg cs∧All2 (CVR fz ρ w objs) x.2 cs.toList∧∀ u∈cs,u.oneCell'=true else ∃ c,x.2=[c]∧CVR fz ρ w objs c u) l vs:=by
        intro p l' hl' hp hV
        obtain ⟨vs,g1,g2,g3⟩:=ih l' hl'
        subst hp
        refine ⟨V::vs,?_,by simp [g2],hV,g3⟩
        rw [List.mapM_cons]
        simp [h1,g1]
       cases av with
       | c cv=>
         simp only [] at hl
         cases hm:(rs.mapM fun r=>match aresult τ env objs r with
          | some (.c x)=>some (false,[x])
          | some (.agg l)=>some (true,l)
          | _=>none) with
         | none=>rw [hm] at hl;simp at hl
         | some l'=>
           rw [hm] at hl
           simp at hl
           exact hgo (false,[cv]) l' hm hl.symm ⟨cv,rfl,h2⟩
       | agg al=>
         simp only [] at hl
         cases hm:(rs.mapM fun r=>match aresult τ env objs r with
          | some (.c x)=>some (false,[x])
          | some (.agg l)=>some (true,l)
          | _=>none) with
         | none=>rw [hm] at hl;simp at hl
         | some l'=>
           rw [hm] at hl
           simp at hl
           exact hgo (true,al) l' hm hl.symm h2
       | _=>simp at hl
  obtain ⟨vs,g1,g2,g3⟩:=key _ _ hl
  refine ⟨.tuple vs.toArray,?_,vs.toArray,rfl,by simpa using g3⟩
  have:¬ vs.length=1:=by rw [g2];exact hne
  simp [Array.mapM_eq_mapM_toList,g1,this]
def Gives {R:Type} (gl:Nat→Option (List CV)) (old fz0:Nat→Prop) (ρ0:Nat→Value) (w0:World) (objs0:Objs) (k:AV→Objs→Option R) (r:R) (V:Value) (w:World):Prop:=
 ∃ v objs' fz ρ,k v objs'=some r∧AVR fz ρ w objs' v V∧OR fz old ρ w objs'∧Frm fz0 old w0 fz w∧Bk objs0 ρ0 objs' ρ
theorem finVal_ok {old fz:Nat→Prop} {ρ:Nat→Value} {w:World} {objs:Objs} {v:AV} {V:Value} (val:Bool) (h:OR fz old ρ w objs) (hv:AVR fz ρ w objs v V) :
  ∃ fz',OR fz' old ρ w (finVal val v objs).2∧Ext objs ρ (finVal val v objs).2 ρ∧Frm fz old w fz' w∧AVR fz' ρ w (finVal val v objs).2 (finVal val v objs).1 V:=by
 unfold finVal
 cases val with
 | false=>exact ⟨fz,h,Ext.refl _ _,Frm.refl _ _ _,hv⟩
 | true=>
   simp only [cond_true]
   obtain ⟨fz',h1,h2,h3,h4⟩:=qa6 (finKeys v) h
   refine ⟨fz',h1,h2,h3,?_⟩
   have other:(asVal objs v).getD v=finCells objs v→finKeys v=keyOf v→AVR fz' ρ w (freezeAll (finKeys v) objs) (finCells objs v) V:=by
    intro e1 e2
    cases ha:asVal objs v with
    | none=>rw [←e1,ha];exact AVR.mono h2 h3.up h3.fzw hv
    | some v'=>
      rw [←e1,ha]
      simp only [Option.getD_some]
      rw [e2] at h1 h2 h4 ⊢
      unfold asVal at ha
      split at ha
      ·rename_i i
       split at ha
       ·rename_i e t xs hr
        cases ha
        obtain ⟨ho,A,c,hV,hl,hm,hrr⟩:=qar h hr
        have hX:V=ρ i:=by
         rcases ho with ho | ho<;>simpa [AVR,CVR,ho] using hv
        rw [hX]
        exact h4 i (by simp [keyOf]) e t xs hr
       ·cases ha
      ·rename_i i lo hi tight
       split at ha
       ·rename_i e t xs hr
        cases ha
        obtain ⟨ho,A,c,hV,hl,hm,hrr⟩:=qar h hr
        have hX:ViewR t xs.length (ρ i) lo hi tight V:=by
         rcases ho with ho | ho<;>simpa [AVR,ho] using hv
        exact view_K (h4 i (by simp [keyOf]) e t xs hr) hX
       ·cases ha
      ·cases ha
       obtain ⟨A,c,hV,hc,_⟩:=hv
       exact ⟨A,c,by rw [hV];rfl,Nat.zero_le _,hc,.inl rfl⟩
      ·cases ha
       obtain ⟨A,hV⟩:=hv
       exact ⟨A,0,by rw [hV];rfl,Nat.zero_le _,Nat.zero_le _,.inl rfl⟩
      ·cases ha
       exact AVR.mono h2 h3.up h3.fzw hv
   cases v with
   | agg l=>
     obtain ⟨cs,rfl,ha,hone⟩:=hv
     refine ⟨cs,rfl,All2.map_left (All2.imp_mem (fun c u hc hcu=>qbn h h2 h3 hcu fun i hci e ty xs hr=>h4 i ?_ e ty xs hr) ha),hone⟩
     simp only [finKeys,keyOf,List.mem_filterMap]
     exact ⟨c,hc,by rw [hci]⟩
   | tup l=>
     obtain ⟨vs,rfl,ha⟩:=hv
     refine ⟨vs,rfl,All2.map_left (All2.imp_mem (fun x u hx hxu=>?_) ha)⟩
     have hk:∀ c∈x.2,∀ i,c=.own i→i∈finKeys (.tup l):=fun c hc i hci=>by
      simp only [finKeys,List.mem_flatMap]
      refine ⟨x,hx,?_⟩
      simp only [ownKeys,List.mem_filterMap]
      exact ⟨c,hc,by rw [hci]⟩
     by_cases hb:x.1=true
     ·simp only [hb,if_true] at hxu ⊢
      obtain ⟨cs,rfl,hc,hone⟩:=hxu
      exact ⟨cs,rfl,All2.map_left (All2.imp_mem (fun c u hcm hcu=>qbn h h2 h3 hcu fun i hci e ty xs hr=>h4 i (hk c hcm i hci) e ty xs hr) hc),hone⟩
     ·simp only [hb] at hxu ⊢
      obtain ⟨c,hc,hcu⟩:=hxu
      refine ⟨cellVal objs c,by rw [hc];rfl,qbn h h2 h3 hcu fun i hci e ty xs hr=>h4 i (hk c (by rw [hc];simp) i hci) e ty xs hr⟩
   | _=>exact other rfl rfl
theorem afin_ok (hT:TOk P τ) {val:Bool} {fn:Func} {k:AV→Objs→Option R} {env:List AV} {objs:Objs} {a:Act} {w:World} (hk:afin τ val (pkOf objs0) fn.results.toList k (env,objs)=some r) (s:Now gl old fz0 ρ0 w0 objs0 env objs a w) :
  ∃ V,(results fn a.tmps).run P w=.ok V w∧Gives gl old fz0 ρ0 w0 objs0 k r V w:=by
 obtain ⟨fz,ρ,s⟩:=s
 unfold afin at hk
 simp only [] at hk
 split at hk
 ·rename_i v hv
  obtain ⟨V,h1,h2⟩:=aresults_ok hT s.or_ s.env_ hv
  refine ⟨V,h1,?_⟩
  obtain ⟨fz',o1,o2,o3,o4⟩:=finVal_ok val s.or_ h2
  generalize finVal val v objs=z at hk o1 o2 o3 o4
  generalize reach z.2 true 500 z.1 ((pkOf objs0).foldl (fun m p=>ptrKeys z.2 p p m) [])=m at hk
  cases hc:(m.fine && (pkOf objs0).all m.stays) with
  | false=>rw [hc] at hk;cases hk
  | true=>
    rw [hc] at hk
    simp only [cond_true] at hk
    simp only [Bool.and_eq_true] at hc
    exact ⟨_,_,fz',renρ m ρ,hk,AVR.ren o1.froz (qb5 (Ren.fine_ok hc.1).1) o4,or_ren hc.1 o1,s.frm.trans o3,bk_ren hc.1 hc.2 (s.bk.ext o2)⟩
 ·cases hk
theorem afun_ok (hm:P.follows .mixedOrders=true) (hB:B.ok) (hT:TOk P τ) {f:Nat} {fn:Func} {args:List AV} {objs:Objs} {v:AV} {objs':Objs} {n:Nat} {X:Aux} {G:Nat→List AV→Objs→(AV→Objs→Option (AV×Objs))→Option (AV×Objs)} (hG:GOk P gl G) (hbk:∀ f,owns f 8765432=true→BackOk P f) (hX:okF τ X fn=true)
  (hf:P.funcs[f]?=some fn) (hname:(fn.name == "runtime.NumGoroutine")=false) (hk:afun τ B gl X G owns fn args objs (fun v o=>some (v,o)) n=some (v,objs')):Spec P gl f args objs v objs':=by
 unfold afun at hk
 split at hk
 ·rename_i c hc
  refine ⟨⟨fn,hf,hname,by rw [hc];rfl⟩,fun old fz ρ w vs hgl hor hargs cs=>?_⟩
  let b:Frame:={ (default:Frame) with fn:=f,kind:=.normal }
  have henter:Frame.enter P f vs .normal=b.at { tmps:=vs++Array.replicate (fn.ntmps-vs.size) undef,defers:=[] } [.code c]:=by
   simp [Frame.enter,Frame.at,hf,hc,b]
  have hlen:=hargs.length
  have s:Now gl old fz ρ w objs (args++List.replicate (fn.ntmps-args.length) (.c .bot)) objs { tmps:=vs++Array.replicate (fn.ntmps-vs.size) undef,defers:=[] } w:=by
   refine ⟨fz,ρ,hor,⟨by simp at hlen ⊢;omega,fun i=>?_⟩,hgl,Frm.refl _ _ _,fun n ty cs hn=>⟨rfl,cs,hn⟩,rfl⟩
   simp only [List.getD_eq_getElem?_getD,Array.getD_eq_getD_getElem?]
   by_cases hi:i<args.length
   ·rw [List.getElem?_append_left hi,Array.getElem?_append_left (by simp at hlen;omega)]
    obtain ⟨u,hu,hR⟩:=hargs.get i _ (List.getElem?_eq_getElem hi)
    rw [List.getElem?_eq_getElem hi]
    rw [Array.getElem?_toList] at hu
    rw [hu];exact hR
   ·have:((args++List.replicate (fn.ntmps-args.length) (AV.c .bot))[i]?).getD (.c .bot)=.c .bot:=by
     rw [List.getElem?_append_right (by omega),List.getElem?_replicate]
     split<;>rfl
    rw [this];exact trivial
  have hXc:List.all [Item.code c] (okI τ X.plan)=true:=by
   simp only [okF,hc] at hX
   simp only [List.all_cons,List.all_nil,okI,hX,Bool.and_self]
  have hr:=fun n=>range_ok (X:=X) (fin:=afin τ (isVal X) (pkOf objs) fn.results.toList fun v o=>some (v,o)) (cs:=cs) (b:=b) (keep:=keepOf fn.results.toList) (F:=Gives gl old fz ρ w objs (fun v o=>some (v,o)) (v,objs')) hm hB hT hG hbk rfl hf (fun env objs' a w h1 h2=>afin_ok hT h1 h2) n
  have hh:=seg_ok (cs:=cs) (b:=b) (fn:=fn) hm hB hT hG rfl hf (F:=Gives gl old fz ρ w objs (fun v o=>some (v,o)) (v,objs')) (fun env objs' a w h1 h2=>afin_ok hT h1 h2)
   (arun_ok (cs:=cs) (b:=b) hm hB hT hG rfl hf (fun env objs' a w h1 h2=>afin_ok hT h1 h2) hr n).1 (arun_ok (cs:=cs) (b:=b) hm hB hT hG rfl hf (fun env objs' a w h1 h2=>afin_ok hT h1 h2) hr n).2 (hr n) 4000 [.code c] _ _ _ _ hXc s hk
  obtain ⟨w',fr,V,⟨v',o',fz',ρ',e1,e2,e3,e4,e5⟩,h2,h3,h4⟩:=hh
  cases e1
  rw [←henter] at h2
  exact ⟨.returned V,w',fr,⟨V,ρ',fz',rfl,e2,e3,e4,e5⟩,h2,h3,h4⟩
 ·cases hk
def zeroB:CV→Value→Bool
 | .bot,_=>true
 | .nil,.slice none 0 0=>true
 | .int k n,.int k' n'=>decide (k=k') && decide (n=n')
 | .bool b,.bool b'=>b == b'
 | .str s,.string b=>b.data.toList == s
 | _,_=>false
theorem zeroB_ok {c:CV} {v:Value} (h:zeroB c v=true):ZeroR c v:=by
 unfold zeroB at h
 split at h
 ·trivial
 ·rfl
 ·simp at h;obtain ⟨rfl,rfl⟩:=h;rfl
 ·simp at h;subst h;rfl
 ·rename_i s b
  simp at h
  show Value.string b=strV s
  unfold strV
  rw [←h]
 ·cases h
def all2B {α β:Type} (f:α→β→Bool):List α→List β→Bool
 | [],[]=>true
 | a::l,b::m=>f a b && all2B f l m
 | _,_=>false
theorem all2B_ok {α β:Type} {f:α→β→Bool} {Q:α→β→Prop} (hf:∀ a b,f a b=true→Q a b):∀ {l:List α} {m:List β},all2B f l m=true→All2 Q l m
 | [],[],_=>trivial
 | a::l,b::m,h=>by simp only [all2B,Bool.and_eq_true] at h;exact ⟨hf _ _ h.1,all2B_ok hf h.2⟩
 | [],_::_,h=>by cases h
 | _::_,[],h=>by cases h
def dfltB:Ty→List CV→Option (List CV)
 | .int k,l=>match l with
   | .int k' n::r=>bif decide (k=k') && decide (n=0) then some r else none
   | _=>none
 | .bool,l=>match l with
   | .bool false::r=>some r
   | _=>none
 | .str,l=>match l with
   | .str []::r=>some r
   | _=>none
 | .list _ _,l=>match l with
   | .nil::r=>some r
   | _=>none
 | .pair a b,l=>match dfltB a l with
   | some r=>dfltB b r
   | none=>none
theorem dfltB_ok:∀ (t:Ty) (l r:List CV),dfltB t l=some r→implode t l=some (t.dflt,r)
 | .int k,l,r,h=>by
   simp only [dfltB] at h
   split at h
   ·rename_i k' n r'
    cases hc:(decide (k=k') && decide (n=0)) with
    | false=>rw [hc] at h;cases h
    | true=>
      rw [hc] at h
      simp at hc
      obtain ⟨rfl,rfl⟩:=hc
      simp at h
      subst h
      simp [implode,Ty.dflt]
   ·cases h
 | .bool,l,r,h=>by
   simp only [dfltB] at h
   split at h
   ·cases h;rfl
   ·cases h
 | .str,l,r,h=>by
   simp only [dfltB] at h
   split at h
   ·cases h;rfl
   ·cases h
 | .list e t,l,r,h=>by
   simp only [dfltB] at h
   split at h
   ·cases h;rfl
   ·cases h
 | .pair a b,l,r,h=>by
   simp only [dfltB] at h
   cases ha:dfltB a l with
   | none=>rw [ha] at h;cases h
   | some r1=>
     rw [ha] at h
     have h1:=dfltB_ok a l r1 ha
     have h2:=dfltB_ok b r1 r h
     simp only [implode,h1,h2,Ty.dflt]
def eqFieldsB (P:Program):Nat→List Field→List CV→Bool
 | _,[],[]=>true
 | j,f::fs,z::zs=>(Nat.beq f.offset j && (f.name != "_" && (match z,P.underlying f.type with
    | .int k _,some (.int k')=>decide (k=k')
    | .bool _,some .bool=>true
    | .str _,some .string=>true
    | _,_=>false))) && eqFieldsB P (j+1) fs zs
 | _,_,_=>false
theorem qd1 {P:Program}:∀ {j:Nat} {fs:List Field} {zs:List CV},eqFieldsB P j fs zs=true→EqFields P j fs zs
 | _,[],[],_=>trivial
 | j,f::fs,z::zs,h=>by
   simp only [eqFieldsB,Bool.and_eq_true,bne_iff_ne] at h
   obtain ⟨⟨h1,h2,h3⟩,h4⟩:=h
   refine ⟨⟨Nat.eq_of_beq_eq_true h1,h2,?_⟩,qd1 h4⟩
   split at h3
   ·rename_i hu;have:=of_decide_eq_true h3;subst this;exact hu
   ·rename_i hu;exact hu
   ·rename_i hu;exact hu
   ·cases h3
 | _,[],_::_,h=>by cases h
 | _,_::_,[],h=>by cases h
def tiB0 (P:Program) (t:Nat) (ti:TI):Bool:=
 match P.info? t,P.underlying t with
 | some i,some d=>
   (Nat.beq i.size ti.size && Nat.beq i.bytes ti.bytes && (match i.zero with
     | some z=>all2B zeroB ti.zero z.cells.toList && z.cells.toList.all (·.oneCell')
     | none=>false)) &&
   ((match d with | .struct _=>ti.agg | .array _ _=>ti.agg | _=>!ti.agg) && Nat.beq ti.zero.length ti.size &&
   (match ti.kind with
     | .sc=>match ti.zero,d with
       | [.int k _],.int k'=>decide (k=k')
       | [.bool _],.bool=>true
       | [.str _],.string=>true
       | _,_=>false
     | .slice e=>match d with | .slice e'=>Nat.beq e e' | _=>false
     | .struct fs=>match d with
       | .struct fields=>all2B (fun (f:Field) (p:Nat×Nat)=>Nat.beq f.offset p.1 && Nat.beq f.type p.2 && (match P.info? f.type with | some i=>Nat.blt 0 i.size | none=>false)) fields.toList fs
       | _=>false
     | .array n e=>match d with | .array n' e'=>Nat.beq n n' && Nat.beq e e' | _=>false
     | .map n e=>match d with | .map n' e'=>Nat.beq n n' && Nat.beq e e' | _=>false
     | .other=>true) &&
   (match ti.ty with
     | some ty=>Nat.beq ty.sz ti.size && Nat.blt 0 ti.size && Nat.blt 0 ti.bytes && (match dfltB ty ti.zero with | some []=>true | _=>false)
     | none=>true) && (bif ti.eqf then (!P.stoodInHeld t && !P.eqGuardType P.depth t) && ((match d with | .struct _=>true | _=>false) && eqFieldsB P 0 (P.fieldsOf t).toList ti.zero) else true))
 | _,_=>false
def oneB (P:Program) (t:Nat) (ti:TI):Bool:=
 match P.info? t with
 | some i=>match i.zero with
   | some z=>ti.agg || z.oneCell'
   | none=>true
 | none=>true
def tiB (P:Program) (t:Nat) (ti:TI):Bool:=tiB0 P t ti && oneB P t ti
theorem tiB_ok {P:Program} {t:Nat} {ti:TI} (hh:tiB P t ti=true):TiOk P t ti:=by
 unfold tiB at hh
 rw [Bool.and_eq_true] at hh
 obtain ⟨h,hone⟩:=hh
 unfold tiB0 at h
 split at h
 ·rename_i i d hi hd
  simp only [Bool.and_eq_true] at h
  obtain ⟨⟨⟨h1,h2⟩,h3⟩,⟨⟨⟨h4,h5⟩,h6⟩,h7⟩,h8⟩:=h
  refine ⟨?_,?_,Nat.eq_of_beq_eq_true h5,?_,fun i z hi hz=>by unfold oneB at hone;rw [hi] at hone;simp only [hz,Bool.or_eq_true] at hone;exact hone,?eqf,?_⟩
  case eqf=>
   intro he
   rw [he] at h8
   simp only [cond_true,Bool.and_eq_true,Bool.not_eq_true'] at h8
   obtain ⟨⟨e1,e2⟩,e3,e4⟩:=h8
   refine ⟨e1,e2,?_,qd1 e4⟩
   cases d<;>simp at e3
   rw [hd,Program.fieldsOf,hd]
  ·cases hz:i.zero with
   | none=>rw [hz] at h3;cases h3
   | some z=>
     rw [hz] at h3
     simp only [Bool.and_eq_true,List.all_eq_true] at h3
     exact ⟨i,z,hi,Nat.eq_of_beq_eq_true h1,Nat.eq_of_beq_eq_true h2,hz,all2B_ok (fun _ _=>zeroB_ok) h3.1,fun u hu=>h3.2 u (Array.mem_toList_iff.2 hu)⟩
  ·refine ⟨d,hd,?_⟩
   cases d<;>simp at h4<;>simp [h4]
  ·cases hk:ti.kind with
   | other=>trivial
   | sc=>
     rw [hk] at h6
     simp only at h6
     split at h6
     ·rename_i hz;rw [hz];simp at h6;subst h6;exact hd
     ·rename_i hz;rw [hz];exact hd
     ·rename_i hz;rw [hz];exact hd
     ·cases h6
   | slice e=>
     rw [hk] at h6
     simp only at h6
     split at h6
     ·rw [Nat.eq_of_beq_eq_true h6];exact hd
     ·cases h6
   | array n e=>
     rw [hk] at h6
     simp only at h6
     split at h6
     ·simp only [Bool.and_eq_true] at h6
      rw [Nat.eq_of_beq_eq_true h6.1,Nat.eq_of_beq_eq_true h6.2];exact hd
     ·cases h6
   | map n e=>
     rw [hk] at h6
     simp only at h6
     split at h6
     ·simp only [Bool.and_eq_true] at h6
      rw [Nat.eq_of_beq_eq_true h6.1,Nat.eq_of_beq_eq_true h6.2];exact hd
     ·cases h6
   | struct fs=>
     rw [hk] at h6
     simp only at h6
     split at h6
     ·rename_i fields
      refine ⟨fields,hd,all2B_ok (fun f p hfp=>?_) h6⟩
      simp only [Bool.and_eq_true] at hfp
      obtain ⟨⟨g1,g2⟩,g3⟩:=hfp
      refine ⟨Nat.eq_of_beq_eq_true g1,Nat.eq_of_beq_eq_true g2,?_⟩
      cases hx:P.info? f.type with
      | none=>rw [hx] at g3;cases g3
      | some j=>rw [hx] at g3;exact ⟨j,rfl,Nat.le_of_ble_eq_true g3⟩
     ·cases h6
  ·intro ty hty
   rw [hty] at h7
   simp only [Bool.and_eq_true] at h7
   obtain ⟨⟨⟨g1,g2⟩,g3⟩,g4⟩:=h7
   refine ⟨Nat.eq_of_beq_eq_true g1,Nat.le_of_ble_eq_true g2,Nat.le_of_ble_eq_true g3,?_⟩
   split at g4
   ·rename_i hx;exact dfltB_ok _ _ _ hx
   ·cases g4
 ·cases h
theorem BT.all_ok {p:Nat→TI→Bool}:∀ {b:BT} {t:Nat} {ti:TI},b.all p=true→b.get t=some ti→p t ti=true
 | .leaf,_,_,_,h=>by cases h
 | .node l k v r,t,ti,ha,h=>by
   simp only [BT.all,Bool.and_eq_true] at ha
   simp only [BT.get] at h
   cases hb:Nat.beq t k with
   | true=>
     rw [hb] at h
     cases h
     rw [Nat.eq_of_beq_eq_true hb]
     exact ha.1
   | false=>
     rw [hb] at h
     simp only [cond_false] at h
     cases hlt:Nat.blt t k with
     | true=>rw [hlt] at h;exact BT.all_ok ha.2.1 h
     | false=>rw [hlt] at h;exact BT.all_ok ha.2.2 h
theorem tok_of {P:Program} {tab:BT} (h:tab.all (fun t ti=>tiB P t ti)=true):TOk P tab.get:=fun t ti ht=>tiB_ok (BT.all_ok h ht)
end
end Go.Proofs.YtkmpkebaloejhaaGreatDoor.Av
