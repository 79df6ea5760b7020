/- One operation of the machine does what the abstract one says: those that leave memory alone. Conditions: none. -/
import Derived.Test.YtkmpkebaloejhaaGreatDoorAv3
import Derived.Calls
import Derived.Orders
import Derived.Laws.Strings
import Derived.Laws.StructEq
namespace Go.Proofs.YtkmpkebaloejhaaGreatDoor.Av
open Go
def ZeroR:CV→Value→Prop
 | .bot,_=>True
 | .nil,v=>v=.slice none 0 0
 | .int k n,v=>v=.int k n
 | .bool b,v=>v=.bool b
 | .str s,v=>v=strV s
 | _,_=>False
def FieldsOk (P:Program) (fields:Array Field) (fs:List (Nat×Nat)):Prop:=
 All2 (fun (f:Field) (p:Nat×Nat)=>f.offset=p.1∧f.type=p.2∧∃ i,P.info? f.type=some i∧0<i.size) fields.toList fs
def EqFields (P:Program):Nat→List Field→List CV→Prop
 | _,[],[]=>True
 | j,f::fs,z::zs=>(f.offset=j∧f.name≠"_"∧(match z with
    | .int k _=>P.underlying f.type=some (.int k)
    | .bool _=>P.underlying f.type=some .bool
    | .str _=>P.underlying f.type=some .string
    | _=>False))∧EqFields P (j+1) fs zs
 | _,_,_=>False
structure TiOk (P:Program) (t:Nat) (ti:TI):Prop where
 info:∃ i z,P.info? t=some i∧i.size=ti.size∧i.bytes=ti.bytes∧i.zero=some z∧All2 ZeroR ti.zero z.cells.toList∧∀ u∈z.cells,u.oneCell'=true
 desc:∃ d,P.underlying t=some d∧ti.agg=(match d with | .struct _=>true | .array _ _=>true | _=>false)
 zlen:ti.zero.length=ti.size
 kind:match ti.kind with
  | .sc=>match ti.zero with
    | [.int k _]=>P.underlying t=some (.int k)
    | [.bool _]=>P.underlying t=some .bool
    | [.str _]=>P.underlying t=some .string
    | _=>True
  | .slice e=>P.underlying t=some (.slice e)
  | .struct fs=>∃ fields,P.underlying t=some (.struct fields)∧FieldsOk P fields fs
  | .array n e=>P.underlying t=some (.array n e)
  | .map k e=>P.underlying t=some (.map k e)
  | .other=>True
 one:∀ i z,P.info? t=some i→i.zero=some z→ti.agg=true∨z.oneCell'=true
 eqf:ti.eqf=true→P.stoodInHeld t=false∧P.eqGuardType P.depth t=false∧P.underlying t=some (.struct (P.fieldsOf t))∧EqFields P 0 (P.fieldsOf t).toList ti.zero
 ty:∀ ty,ti.ty=some ty→ty.sz=ti.size∧0<ti.size∧0<ti.bytes∧implode ty ti.zero=some (ty.dflt,[])
def TOk (P:Program) (τ:Nat→Option TI):Prop:=∀ t ti,τ t=some ti→TiOk P t ti
section
variable {P:Program} {t:Nat} {ti:TI} {w:World}
theorem TiOk.run_isAgg (h:TiOk P t ti):(isAgg t).run P w=.ok ti.agg w:=by
 obtain ⟨d,hd,ha⟩:=h.desc
 simp only [isAgg,Sem.run_bind,run_underlying hd,Result.andThen_ok,ha]
 cases d<;>rfl
theorem TiOk.run_size (h:TiOk P t ti):(sizeOf t).run P w=.ok ti.size w:=by
 obtain ⟨i,z,hi,hs,_⟩:=h.info
 simp [sizeOf,typeInfo,hi,hs]
theorem TiOk.run_zero (h:TiOk P t ti):∃ z,(∀ w,(zeroValue t).run P w=.ok z w)∧All2 ZeroR ti.zero z.cells.toList∧∀ u∈z.cells,u.oneCell'=true:=by
 obtain ⟨i,z,hi,hs,_,hz,hr⟩:=h.info
 exact ⟨z,fun w=>by simp [zeroValue,typeInfo,hi,hz],hr⟩
end
theorem CVR.of_zero {fz:Nat→Prop} {ρ:Nat→Value} {w:World} {objs:Objs}:∀ {c:CV} {v:Value},ZeroR c v→CVR fz ρ w objs c v
 | .bot,_,_=>trivial
 | .nil,_,h=>h
 | .int _ _,_,h=>h
 | .bool _,_,h=>h
 | .str _,_,h=>h
 | .list ..,_,h=>h.elim
 | .own _,_,h=>h.elim
 | .ptr ..,_,h=>h.elim
def Lands {R:Type} (old:Nat→Prop) (fz:Nat→Prop) (ρ:Nat→Value) (w:World) (objs:Objs) (k:AV→Objs→Option R) (r:R) (V:Value) (w':World):Prop:=
 ∃ v objs' fz' ρ',k v objs'=some r∧AVR fz' ρ' w' objs' v V∧OR fz' old ρ' w' objs'∧Ext objs ρ objs' ρ'∧Frm fz old w fz' w'
section
variable {R:Type} {old fz:Nat→Prop} {ρ:Nat→Value} {w:World} {objs:Objs} {r:R}
theorem Lands.same {k:AV→Objs→Option R} {v:AV} {V:Value} (h:OR fz old ρ w objs) (hk:k v objs=some r) (hv:AVR fz ρ w objs v V):Lands old fz ρ w objs k r V w:=
 ⟨v,objs,fz,ρ,hk,hv,h,Ext.refl _ _,Frm.refl _ _ _⟩
theorem CVR.one (h:OR fz old ρ w objs):∀ {x:CV} {V:Value},goodC objs x=true→CVR fz ρ w objs x V→V.oneCell'=true
 | .bot,_,hn,_=>by simp [goodC] at hn
 | .nil,_,_,h'=>by rw [h'];rfl
 | .int _ _,_,_,h'=>by rw [h'];rfl
 | .bool _,_,_,h'=>by rw [h'];rfl
 | .str _,_,_,h'=>by rw [h'];rfl
 | .list e t xs,V,_,h'=>by
   obtain ⟨A,c,hV,_⟩:=h'
   simp only [List.cons.injEq,and_true] at hV
   rw [hV];rfl
 | .own i,V,hg,h'=>by
   simp only [CVR] at h'
   simp only [goodC,rowOf] at hg
   split at h'
   ·rename_i e t xs ho
    obtain ⟨css,_,hown,_⟩:=h.obj i _ ho
    rw [h']
    rcases hown.2 with ⟨h1,_⟩ | ⟨_,_,_,h1,_⟩<;>rw [h1]<;>rfl
   ·rename_i e t xs ho
    obtain ⟨A,c,hV,_⟩:=h.obj i _ ho
    simp only [List.cons.injEq,and_true] at hV
    rw [h',hV];rfl
   ·rename_i ho
    simp [ho] at hg
   ·rename_i ho
    simp [ho] at hg
   ·rename_i ho
    simp [ho] at hg
   ·exact h'.elim
 | .ptr i off,V,hg,h'=>by
   simp only [CVR] at h'
   simp only [goodC] at hg
   split at h'
   ·obtain ⟨g,_,rfl⟩:=h';rfl
   ·rename_i ho
    simp [ho] at hg
   ·exact h'.elim
theorem qb3 {V:Value} (h:V.oneCell'=true):V.cells=#[V]:=by
 cases V<;>first | rfl | (simp [Value.oneCell'] at h)
theorem qce (ho:OR fz old ρ w objs) {v:AV} {V:Value} {l:List CV} (h:AVR fz ρ w objs v V) (hc:cellsOf objs v=some l):All2 (CVR fz ρ w objs) l V.cells.toList∧∀ u∈V.cells,u.oneCell'=true:=by
 cases v<;>simp [cellsOf] at hc
 ·rename_i x
  cases hg:goodC objs x with
  | false=>simp [hg] at hc
  | true=>
    simp [hg] at hc
    subst hc
    have h1:=CVR.one ho hg h
    rw [qb3 h1]
    exact ⟨⟨h,trivial⟩,by simpa using h1⟩
 ·subst hc
  obtain ⟨cs,rfl,h,h1⟩:=h
  exact ⟨h,h1⟩
theorem qbc:∀ (t:Ty) (x:t.den) (cs:List Value),t.K fz w x cs→All2 (CVR fz ρ w objs) (explode t x) cs
 | .int _,_,_,h=>by rw [h];exact ⟨rfl,trivial⟩
 | .bool,_,_,h=>by rw [h];exact ⟨rfl,trivial⟩
 | .str,_,_,h=>by rw [h];exact ⟨rfl,trivial⟩
 | .list e t,xs,_,h=>by
   obtain ⟨A,c,rfl,h⟩:=h
   exact ⟨⟨A,c,rfl,h⟩,trivial⟩
 | .pair a b,x,_,h=>by
   obtain ⟨c0,c1,rfl,h0,h1⟩:=h
   exact All2.append (qbc a x.1 c0 h0) (qbc b x.2 c1 h1)
theorem qck:∀ (t:Ty) (x:t.den),(explode t x).length=t.sz
 | .int _,_=>rfl
 | .bool,_=>rfl
 | .str,_=>rfl
 | .list _ _,_=>rfl
 | .pair a b,x=>by simp [explode,Ty.sz,qck a,qck b]
theorem qa7:∀ (t:Ty) (l:List CV) (x:t.den) (rest:List CV) (cs:List Value),implode t l=some (x,rest)→All2 (CVR fz ρ w objs) l cs→
  ∃ c0 c1,cs=c0++c1∧t.K fz w x c0∧All2 (CVR fz ρ w objs) rest c1
 | .int k,l,x,rest,cs,h,ha=>by
   cases l with
   | nil=>simp [implode] at h
   | cons c l=>
     cases c<;>simp [implode] at h
     obtain ⟨rfl,rfl,rfl⟩:=h
     cases cs with
     | nil=>exact ha.elim
     | cons u cs=>exact ⟨[u],cs,rfl,by rw [ha.1];rfl,ha.2⟩
 | .bool,l,x,rest,cs,h,ha=>by
   cases l with
   | nil=>simp [implode] at h
   | cons c l=>
     cases c<;>simp [implode] at h
     obtain ⟨rfl,rfl⟩:=h
     cases cs with
     | nil=>exact ha.elim
     | cons u cs=>exact ⟨[u],cs,rfl,by rw [ha.1];rfl,ha.2⟩
 | .str,l,x,rest,cs,h,ha=>by
   cases l with
   | nil=>simp [implode] at h
   | cons c l=>
     cases c<;>simp [implode] at h
     obtain ⟨rfl,rfl⟩:=h
     cases cs with
     | nil=>exact ha.elim
     | cons u cs=>exact ⟨[u],cs,rfl,by rw [ha.1];rfl,ha.2⟩
 | .list e t,l,x,rest,cs,h,ha=>by
   cases l with
   | nil=>simp [implode] at h
   | cons c l=>
     cases cs with
     | nil=>exact ha.elim
     | cons u cs=>
       cases c<;>simp only [implode] at h<;>try (cases h;done)
       ·simp only [Option.some.injEq,Prod.mk.injEq] at h
        obtain ⟨rfl,rfl⟩:=h
        have hu:u=.slice none 0 0:=ha.1
        refine ⟨[u],cs,rfl,⟨none,0,by rw [hu];rfl,Nat.le_refl _,by simp [maxLen],.inl rfl⟩,ha.2⟩
       ·rename_i e' t' xs
        cases hs:Ty.same t' t with
        | none=>simp [hs] at h
        | some p=>
          obtain ⟨hp⟩:=p
          subst hp
          simp only [hs] at h
          cases hb:Nat.beq e e' with
          | false=>simp [hb] at h
          | true=>
            simp only [hb,cond_true,Option.some.injEq,Prod.mk.injEq] at h
            obtain ⟨rfl,rfl⟩:=h
            exact ⟨[u],cs,rfl,ha.1,ha.2⟩
 | .pair a b,l,x,rest,cs,h,ha=>by
   simp only [implode] at h
   cases h1:implode a l with
   | none=>simp [h1] at h
   | some p=>
     obtain ⟨x1,r1⟩:=p
     simp only [h1] at h
     cases h2:implode b r1 with
     | none=>simp [h2] at h
     | some q=>
       obtain ⟨x2,r2⟩:=q
       simp only [h2,Option.some.injEq,Prod.mk.injEq] at h
       obtain ⟨rfl,rfl⟩:=h
       obtain ⟨c0,c1,rfl,hk,hr⟩:=qa7 a l x1 r1 cs h1 ha
       obtain ⟨c2,c3,rfl,hk',hr'⟩:=qa7 b r1 x2 r2 c1 h2 hr
       exact ⟨c0++c2,c3,by simp,⟨c0,c2,rfl,hk,hk'⟩,hr'⟩
def Whole (fz:Nat→Prop) (w:World) (g n:Nat):Prop:=fz g∧∃ (cs:Array Value) (e:Nat) (b:Nat×Nat),w.heap[g]?=some (.cells cs e b)∧cs.size=n
def GlR (fz:Nat→Prop) (w:World) (gl:Nat→Option (List CV)):Prop:=∀ g cells,gl g=some cells→(∀ ρ objs,AVR fz ρ w objs (.eltv cells) (.pointer (some ⟨g,0,none⟩)))∧Whole fz w g cells.length
def EnvR (fz:Nat→Prop) (ρ:Nat→Value) (w:World) (objs:Objs) (env:List AV) (tmps:Array Value):Prop:=
 env.length=tmps.size∧∀ i,AVR fz ρ w objs (env.getD i (.c .bot)) (tmps.getD i undef)
theorem ofValue_ok (v:Value):AVR fz ρ w objs (ofValue v) v:=by
 unfold ofValue
 split
 ·exact rfl
 ·exact rfl
 ·rename_i s;show Value.string s=strV s.data.toList;simp [strV]
 ·exact rfl
 ·exact trivial
theorem qbl {gl:Nat→Option (List CV)} {env:List AV} {a:Act} (hg:GlR fz w gl) (he:EnvR fz ρ w objs env a.tmps) (x:Operand):AVR fz ρ w objs (rdop gl x env) (a.eval x):=by
 cases x with
 | tmp t=>exact he.2 t
 | const v=>exact ofValue_ok v
 | global g=>
   simp only [rdop,Act.eval]
   cases h:gl g with
   | none=>exact trivial
   | some cells=>exact (hg g cells h).1 ρ objs
 | func f=>exact ⟨#[],rfl,trivial⟩
theorem GlR.mono {fz':Nat→Prop} {w':World} {gl:Nat→Option (List CV)} (h:GlR fz w gl) (hf:∀ k,fz k→fz' k) (hw:∀ k,fz k→w'.heap[k]?=w.heap[k]?):GlR fz' w' gl:=
 fun g cells hc=>⟨fun ρ objs=>AVR.mono (Ext.refl objs ρ) hf hw ((h g cells hc).1 ρ objs),by
  obtain ⟨h1,cs,e,b,h2,h3⟩:=(h g cells hc).2
  exact ⟨hf g h1,cs,e,b,(hw g h1).trans h2,h3⟩⟩
theorem EnvR.mono {fz':Nat→Prop} {ρ':Nat→Value} {w':World} {objs':Objs} {env:List AV} {tmps:Array Value} (h:EnvR fz ρ w objs env tmps) (he:Ext objs ρ objs' ρ') (hf:∀ k,fz k→fz' k) (hw:∀ k,fz k→w'.heap[k]?=w.heap[k]?):EnvR fz' ρ' w' objs' env tmps:=
 ⟨h.1,fun i=>AVR.mono he hf hw (h.2 i)⟩
theorem EnvR.put {env:List AV} {a:Act} {v:AV} {V:Value} (h:EnvR fz ρ w objs env a.tmps) (hv:AVR fz ρ w objs v V) (dst:Option Nat):EnvR fz ρ w objs (eput dst v env) (a.put dst V).tmps:=by
 cases dst with
 | none=>exact h
 | some d=>
   refine ⟨by simp [eput,Act.put,h.1],fun i=>?_⟩
   have hl:=h.1
   have hi:=h.2 i
   simp only [eput,Act.put,List.getD_eq_getElem?_getD,Array.getD_eq_getD_getElem?,List.getElem?_set,Array.getElem?_setIfInBounds] at hi ⊢
   by_cases hd:d=i
   ·subst hd
    by_cases hlt:d<env.length
    ·have:d<a.tmps.size:=by omega
     simp [hlt,this,hv]
    ·have:¬ d<a.tmps.size:=by omega
     simp [hlt,this]
     exact trivial
   ·simp only [hd,if_false]
    exact hi
theorem le_not (n m:Int):decide (n≤m)=!decide (m<n):=by
 by_cases h:n≤m
 ·have:¬ m<n:=by omega
  simp [h]
 ·have:m<n:=by omega
  simp [this]
theorem qcl (s:List UInt8):(⟨s.toArray⟩:ByteArray).toList=s:=by
 rw [ByteArray.toList_eq]
theorem qel {B:Ops} (hB:B.ok) {P:Program} (d:Nat) {xs ys:Array Value} (w0:World):∀ (fs:List Field) (zs l m:List CV) (j:Nat) (b:Bool),EqFields P j fs zs→aeqCells B zs l m=some b→
  All2 (CVR fz ρ w objs) l (xs.toList.drop j)→All2 (CVR fz ρ w objs) m (ys.toList.drop j)→(Op.eqFields (d+1) xs ys fs).run P w0=.ok b w0
 | [],[],l,m,j,b,_,h,hl,hm=>by
  cases l<;>cases m<;>simp [aeqCells] at h
  subst h
  rfl
 | f::fs,z::zs,l,m,j,b,he,h,hl,hm=>by
   obtain ⟨⟨hoff,hname,hty⟩,he⟩:=he
   cases l with
   | nil=>simp [aeqCells] at h
   | cons a l=>
   cases m with
   | nil=>simp [aeqCells] at h
   | cons c m=>
   simp only [aeqCells] at h
   split at h
   ·rename_i r hr
    cases hx:xs.toList.drop j with
    | nil=>rw [hx] at hl;exact hl.elim
    | cons x xr=>
    cases hy:ys.toList.drop j with
    | nil=>rw [hy] at hm;exact hm.elim
    | cons y yr=>
    rw [hx] at hl
    rw [hy] at hm
    have hxr:xs.toList.drop (j+1)=xr:=by rw [←List.drop_drop,hx];rfl
    have hyr:ys.toList.drop (j+1)=yr:=by rw [←List.drop_drop,hy];rfl
    have ih:=qel hB d w0 fs zs l m (j+1) r he hr (by rw [hxr];exact hl.2) (by rw [hyr];exact hm.2)
    have hx0:xs[f.offset]?=some x:=by
     rw [hoff,←Array.getElem?_toList]
     have:=congrArg (fun l=>l[0]?) hx
     simpa using this
    have hy0:ys[f.offset]?=some y:=by
     rw [hoff,←Array.getElem?_toList]
     have:=congrArg (fun l=>l[0]?) hy
     simpa using this
    have h1:=hl.1
    have h2:=hm.1
    have fin:∀ (b0:Bool) (u:TypeDesc),P.underlying f.type=some u→(∀ w,(isAgg f.type).run P w=.ok false w)→(Op.equalIn (d+1) f.type x y).run P w0=.ok b0 w0→b=(b0 && r)→(Op.eqFields (d+1) xs ys (f::fs)).run P w0=.ok b w0:=by
     intro b0 u hu ha hq hb
     simp only [Op.eqFields,hname,ne_eq,not_false_eq_true,if_true,part,Sem.run_bind,ha,Result.andThen_ok,hx0,hy0,Bool.false_eq_true,if_false,Sem.run_pure,hq,Sem.run_ite]
     subst hb
     cases b0<;>simp [ih]
    cases z<;>simp only at hty<;>try exact hty.elim
    ·cases a<;>cases c<;>simp only [reduceCtorEq] at h
     split at h
     ·rename_i hkk
      subst hkk
      cases h
      have h1:x=.int _ _:=h1
      have h2:y=.int _ _:=h2
      subst h1;subst h2
      refine fin _ _ hty (fun w=>by simp [isAgg,run_underlying hty]) (run_equalIn_int w0 d _ _ _ _ _ hty) ?_
      rw [hB.eq]
      congr 1
     ·cases h
    ·cases a<;>cases c<;>simp only [reduceCtorEq] at h
     cases h
     have h1:x=.bool _:=h1
     have h2:y=.bool _:=h2
     subst h1;subst h2
     exact fin _ _ hty (fun w=>by simp [isAgg,run_underlying hty]) (run_equalIn_bool' w0 d _ _ _ hty) rfl
    ·cases a<;>cases c<;>simp only [reduceCtorEq] at h
     cases h
     have h1:x=strV _:=h1
     have h2:y=strV _:=h2
     subst h1;subst h2
     refine fin _ _ hty (fun w=>by simp [isAgg,run_underlying hty]) (run_equalIn_string w0 d _ _ _ hty) ?_
     rw [qcl,qcl]
   ·cases h
 | [],_::_,_,_,_,_,he,_,_,_=>he.elim
 | _::_,[],_,_,_,_,he,_,_,_=>he.elim
theorem sliceT_ok {P:Program} {τ:Nat→Option TI} (hT:TOk P τ) {t:Nat} (h:(sliceOf τ t).isSome=true):∃ e,P.underlying t=some (.slice e):=by
 unfold sliceOf at h
 split at h
 ·rename_i e _ _ _ _ _ _ _ ht
  exact ⟨e,(hT t _ ht).kind⟩
 ·cases h
theorem nil_eq {P:Program} {t e:Nat} (hu:P.underlying t=some (.slice e)) (w:World) {A:Option Addr} {n c:Nat} {b:Bool} (hb:A.isNone=b):(Op.equal t (.slice A n c) (.slice none 0 0)).run P w=.ok b w:=by
 have hd:∀ d,(Op.equalIn (d+1) t (.slice A n c) (.slice none 0 0)).run P w=.ok b w:=fun d=>by
  subst hb
  cases A<;>simp [Op.equalIn,run_underlying hu]
 exact hd 9999
theorem abin0_ok {B:Ops} (hB:B.ok) {op:BinOp} {x y:AV} {X Y:Value} {k:AV→Option R} (t:Nat) (ox oy:Operand) {P:Program} {τ:Nat→Option TI} (hT:TOk P τ) (hx:AVR fz ρ w objs x X) (hy:AVR fz ρ w objs y Y) (h:abin0 τ B op t x y k=some r) :
  ∃ v V,(∀ w',(do eqGuard op t ox oy X Y;binOp op t X Y:Sem Value).run P w'=.ok V w')∧k v=some r∧AVR fz ρ w objs v V:=by
 unfold abin0 at h
 split at h
 ·rename_i a n b m
  have hX:X=.int a n:=hx
  have hY:Y=.int b m:=hy
  subst hX;subst hY
  split at h
  ·rename_i hab
   subst hab
   have hq:∀ w op,(eqGuard op t ox oy (.int a n) (.int a m)).run P w=.ok () w:=by
    intro w op;cases op<;>simp [eqGuard]
   cases op<;>simp only at h<;>first
    | (cases h;done)
    | (cases he:B.eq m 0<;>simp only [he,cond_true,cond_false] at h
       ·refine ⟨_,_,?_,h,rfl⟩
        have hm:¬ m=0:=by rw [hB.eq] at he;simpa using he
        intro w';simp [hq,binOp,Op.intDiv,hm]
       ·cases h)
    | (refine ⟨_,_,?_,h,rfl⟩;intro w';simp [hq,binOp,Op.intArith,Op.intCmp,Ops.le,hB.lt,hB.eq,le_not];done)
    | (refine ⟨_,_,?_,h,rfl⟩;intro w';simp [hq,binOp,Op.intBits,bitAnd];done)
    | (refine ⟨_,_,?_,h,rfl⟩;intro w';simp only [Sem.run_bind,hq,binOp,Op.intCmp,Result.andThen_ok,Sem.run_pure,hB.eq,ne_eq,not_true_eq_false,if_false];congr 2;done)
  ·cases h
 ·rename_i s t'
  have hX:X=strV s:=hx
  have hY:Y=strV t':=hy
  subst hX;subst hY
  have hq:∀ w op,(eqGuard op t ox oy (strV s) (strV t')).run P w=.ok () w:=by
   intro w op;cases op<;>simp [eqGuard,strV]
  cases op<;>simp only at h<;>first
   | (cases h;done)
   | (cases he:B.lim (s.length+t'.length) 1<;>simp only [he,cond_true,cond_false] at h
      ·cases h
      ·refine ⟨_,strV (s++t'),?_,h,rfl⟩
       have hm:(s.length+t'.length)*1≤140737488355328:=by rw [hB.lim] at he;simpa using he
       have hz:¬ (((⟨s.toArray⟩:ByteArray).size+(⟨t'.toArray⟩:ByteArray).size:Nat):Int) > IntKind.i64.max:=by
        simp [ByteArray.size,IntKind.max,IntKind.signed,IntKind.bits];omega
       intro w'
       simp only [Sem.run_bind,hq,Result.andThen_ok]
       simp only [strV,binOp,Op.stringOp]
       rw [if_neg hz]
       have:(⟨s.toArray⟩:ByteArray)++⟨t'.toArray⟩=⟨(s++t').toArray⟩:=by
        apply ByteArray.ext;simp
       rw [this]
       rfl)
   | (refine ⟨_,_,?_,h,rfl⟩
      intro w'
      simp only [Sem.run_bind,hq,Result.andThen_ok]
      simp only [strV,binOp,Op.stringOp,qcl]
      rfl)
 ·rename_i b b'
  have hX:X=.bool b:=hx
  have hY:Y=.bool b':=hy
  subst hX;subst hY
  have hq:∀ w op,(eqGuard op t ox oy (.bool b) (.bool b')).run P w=.ok () w:=by
   intro w op;cases op<;>simp [eqGuard]
  cases hb:isBool τ t with
  | false=>simp [hb] at h
  | true=>
    simp only [hb,cond_true] at h
    have hu:P.underlying t=some .bool:=by
     unfold isBool at hb
     split at hb
     ·rename_i heq
      exact (hT t _ heq).kind
     ·cases hb
    have he:∀ w,(Op.equal t (.bool b) (.bool b')).run P w=.ok (b == b') w:=by
     intro w
     have hd:∀ d,(Op.equalIn (d+1) t (.bool b) (.bool b')).run P w=.ok (b == b') w:=fun d=>by simp [Op.equalIn,run_underlying hu]
     exact hd 9999
    cases op<;>simp only at h<;>first
     | (cases h;done)
     | (refine ⟨_,_,?_,h,rfl⟩;intro w';simp [hq,binOp,he];done)
 ·rename_i l m
  obtain ⟨xs,rfl,hl,_⟩:=hx
  obtain ⟨ys,rfl,hm,_⟩:=hy
  split at h
  ·rename_i z hz
   split at h
   ·rename_i b hb
    unfold eqZero at hz
    split at hz
    ·rename_i ti hti
     cases he:ti.eqf with
     | false=>simp [he] at hz
     | true=>
       simp only [he,cond_true,Option.some.injEq] at hz
       subst hz
       obtain ⟨q1,q2,q3,q4⟩:=(hT t ti hti).eqf he
       have hr:∀ w',(Op.equalIn 10000 t (.agg xs) (.agg ys)).run P w'=.ok b w':=fun w'=>by
        rw [run_equalIn_agg w' 9999 t xs ys q3 q1]
        exact qel hB 9998 w' _ _ _ _ 0 b q4 hb (by simpa using hl) (by simpa using hm)
       have hq:∀ w op,(eqGuard op t ox oy (.agg xs) (.agg ys)).run P w=.ok () w:=fun w op=>run_eqGuard_agg w op t ox oy xs ys q2
       cases op<;>simp only at h<;>first
        | (cases h;done)
        | (refine ⟨_,_,?_,h,rfl⟩;intro w';simp only [Sem.run_bind,hq,Result.andThen_ok,run_eql_struct,run_neq_struct,hr];done)
    ·cases hz
   ·cases h
  ·cases h
 ·rename_i e' t' b
  obtain ⟨A,c,rfl,hc,hb⟩:=hx
  have hb:=hb _ rfl
  have hY:Y=.slice none 0 0:=hy
  subst hY
  cases hs:(sliceOf τ t).isSome with
  | false=>simp [hs] at h
  | true=>
    simp only [hs,cond_true] at h
    obtain ⟨e0,hu⟩:=sliceT_ok hT hs
    have he:∀ w,(Op.equal t (.slice A 0 c) (.slice none 0 0)).run P w=.ok b w:=fun w=>nil_eq hu w hb
    have hq:∀ w op,(eqGuard op t ox oy (.slice A 0 c) (.slice none 0 0)).run P w=.ok () w:=by
     intro w op;cases op<;>simp [eqGuard]
    cases op<;>simp only at h<;>first
     | (cases h;done)
     | (refine ⟨_,_,?_,h,rfl⟩;intro w';simp [hq,binOp,he];done)
 ·rename_i e' t' xs
  obtain ⟨A,c,hX,hl,hc,hr⟩:=hx
  simp only [List.cons.injEq,and_true] at hX
  subst hX
  have hY:Y=.slice none 0 0:=hy
  subst hY
  cases hs:(sliceOf τ t).isSome with
  | false=>simp [hs] at h
  | true=>
    simp only [hs,cond_true] at h
    cases hlt:B.lt 0 xs.length with
    | false=>rw [hlt] at h;cases h
    | true=>
    rw [hlt] at h
    simp only [cond_true] at h
    have hlt':0<xs.length:=by rw [hB.lt] at hlt;simpa using hlt
    have hb:A.isNone=false:=by
     rcases hr with hr | ⟨ad,rfl,_⟩
     ·subst hr;simp at hlt'
     ·rfl
    obtain ⟨e0,hu⟩:=sliceT_ok hT hs
    have he:∀ w,(Op.equal t (.slice A xs.length c) (.slice none 0 0)).run P w=.ok false w:=fun w=>nil_eq hu w hb
    have hq:∀ w op,(eqGuard op t ox oy (.slice A xs.length c) (.slice none 0 0)).run P w=.ok () w:=by
     intro w op;cases op<;>simp [eqGuard]
    cases op<;>simp only at h<;>first
     | (cases h;done)
     | (refine ⟨_,_,?_,h,rfl⟩;intro w';simp [hq,binOp,he];done)
 ·cases h
theorem ashift_ok {B:Ops} (hB:B.ok) (left:Bool) {x y:AV} {X Y:Value} {k:AV→Option R} (t:Nat) (ox oy:Operand) {P:Program} (hx:AVR fz ρ w objs x X) (hy:AVR fz ρ w objs y Y) (h:ashift B left x y k=some r) :
  ∃ v V,(∀ w',(do eqGuard (bif left then .shl else .shr) t ox oy X Y;binOp (bif left then .shl else .shr) t X Y:Sem Value).run P w'=.ok V w')∧k v=some r∧AVR fz ρ w objs v V:=by
 unfold ashift at h
 split at h
 ·rename_i a n b m
  have hX:X=.int a n:=hx
  have hY:Y=.int b m:=hy
  subst hX;subst hY
  cases he:B.lt m 0 with
  | true=>rw [he] at h;cases h
  | false=>
    rw [he] at h
    simp only [cond_false] at h
    have hm:¬ m<0:=by rw [hB.lt] at he;simpa using he
    refine ⟨_,_,?_,h,rfl⟩
    intro w'
    cases left<;>simp [eqGuard,binOp,Op.shift,hm,shlI,shrI]
 ·cases h
theorem abin_ok {B:Ops} (hB:B.ok) {op:BinOp} {x y:AV} {X Y:Value} {k:AV→Option R} (t:Nat) (ox oy:Operand) {P:Program} {τ:Nat→Option TI} (hT:TOk P τ) (hx:AVR fz ρ w objs x X) (hy:AVR fz ρ w objs y Y) (h:abin τ B op t x y k=some r) :
  ∃ v V,(∀ w',(do eqGuard op t ox oy X Y;binOp op t X Y:Sem Value).run P w'=.ok V w')∧k v=some r∧AVR fz ρ w objs v V:=by
 unfold abin at h
 split at h
 ·exact ashift_ok hB true t ox oy hx hy h
 ·exact ashift_ok hB false t ox oy hx hy h
 ·exact abin0_ok hB t ox oy hT hx hy h
theorem aun_ok {op:UnOp} {x:AV} {X:Value} {k:AV→Option R} (P:Program) (hx:AVR fz ρ w objs x X) (h:aun op x k=some r) :
  ∃ v V,(∀ w',(Op.unary op X).run P w'=.ok V w')∧k v=some r∧AVR fz ρ w objs v V:=by
 unfold aun at h
 split at h
 ·rename_i b
  have hX:X=.bool b:=hx
  subst hX
  exact ⟨_,_,fun _=>rfl,h,rfl⟩
 ·rename_i a n
  have hX:X=.int a n:=hx
  subst hX
  exact ⟨_,_,fun _=>rfl,h,rfl⟩
 ·cases h
end
end Go.Proofs.YtkmpkebaloejhaaGreatDoor.Av
