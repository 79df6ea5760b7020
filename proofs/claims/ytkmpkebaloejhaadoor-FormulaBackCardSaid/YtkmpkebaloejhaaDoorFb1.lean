/- Twins of functions,printed by gen.py. Conditions: none. -/
import Derived.Test.YtkmpkebaloejhaaDoorCl1
import Derived.Test.YtkmpkebaloejhaaDoorItoa
import Derived.KernelRfl
set_option linter.unusedSimpArgs false
set_option linter.unusedVariables false
set_option maxRecDepth 100000
set_option maxHeartbeats 8000000
namespace Go.Proofs.YtkmpkebaloejhaaDoor.Av
open Go
abbrev LB:=List UInt8
abbrev rg:=List.range'
abbrev L3:=List ty3.den
abbrev L5:=List ty5.den
abbrev L9:=List ty9.den
abbrev L56:=List ty56.den
abbrev L78:=List ty78.den
abbrev L85:=List ty85.den
abbrev L88:=List ty88.den
abbrev L126:=List ty126.den
abbrev oE {R:Type} (l:List AV) (o:Objs) (x:Option R):Option R:=oNil l <| oNilO o <| x
theorem oE_some {R:Type} {l:List AV} {o:Objs} {x:Option R} {r:R} (h:oE l o x=some r):l=[]∧o=[]∧x=some r:=by
 obtain ⟨rfl,q1⟩:=oNil_some h
 obtain ⟨rfl,q2⟩:=oNilO_some q1
 exact ⟨rfl,rfl,q2⟩
abbrev oL {R:Type} (l:List AV) (n:Nat) (t:Ty) (f:List t.den→List AV→Option R):Option R:=oCons l fun a l=>oC a fun x=>cList n t x fun p=>f p l
theorem oL_some {R:Type} {l:List AV} {n:Nat} {t:Ty} {f:List t.den→List AV→Option R} {r:R} (h:oL l n t f=some r):∃ p l',l=.c (.list n t p)::l'∧f p l'=some r:=by
 obtain ⟨a,l',rfl,q1⟩:=qdo h
 obtain ⟨x,rfl,q2⟩:=oC_some q1
 obtain ⟨p,rfl,q3⟩:=cList_some q2
 exact ⟨p,l',rfl,q3⟩
abbrev oI {R:Type} (l:List AV) (n:IntKind) (f:Int→List AV→Option R):Option R:=oCons l fun a l=>oC a fun x=>cInt n x fun p=>f p l
theorem oI_some {R:Type} {l:List AV} {n:IntKind} {f:Int→List AV→Option R} {r:R} (h:oI l n f=some r):∃ p l',l=.c (.int n p)::l'∧f p l'=some r:=by
 obtain ⟨a,l',rfl,q1⟩:=qdo h
 obtain ⟨x,rfl,q2⟩:=oC_some q1
 obtain ⟨p,rfl,q3⟩:=cInt_some q2
 exact ⟨p,l',rfl,q3⟩
abbrev oS {R:Type} (l:List AV) (f:LB→List AV→Option R):Option R:=oCons l fun a l=>oC a fun x=>cStr x fun p=>f p l
theorem oS_some {R:Type} {l:List AV} {f:LB→List AV→Option R} {r:R} (h:oS l f=some r):∃ p l',l=.c (.str p)::l'∧f p l'=some r:=by
 obtain ⟨a,l',rfl,q1⟩:=qdo h
 obtain ⟨x,rfl,q2⟩:=oC_some q1
 obtain ⟨p,rfl,q3⟩:=cStr_some q2
 exact ⟨p,l',rfl,q3⟩
inductive Dc where
 | cI (k:IntKind)
 | cB
 | cS
 | cL (e:Nat) (t:Ty)
 | cO (i:Nat)
 | cP (i:Nat)
 | cN
abbrev Dc.ty (d:Dc) (A:Type):Type:=match d with
 | .cI _=>Int×A
 | .cB=>Bool×A
 | .cS=>LB×A
 | .cL _ t=>List t.den×A
 | _=>A
def Dc.mk (d:Dc) {A:Type} (x:CV) (r:Option A):Option (d.ty A):=match d with
 | .cI k=>match x with
   | .int k' n=>if k'=k then ob r fun a=>some (n,a) else none
   | _=>none
 | .cB=>match x with
   | .bool n=>ob r fun a=>some (n,a)
   | _=>none
 | .cS=>match x with
   | .str n=>ob r fun a=>some (n,a)
   | _=>none
 | .cL e t=>match x with
   | .list e' t' xs=>match Ty.same t' t with
     | some ⟨h⟩=>bif Nat.beq e' e then ob r fun a=>some (h ▸ xs,a) else none
     | none=>none
   | _=>none
 | .cO i=>match x with
   | .own j=>bif Nat.beq j i then r else none
   | _=>none
 | .cP i=>match x with
   | .ptr j 0=>bif Nat.beq j i then r else none
   | _=>none
 | .cN=>match x with
   | .nil=>r
   | _=>none
abbrev Dc.to (d:Dc) {A:Type} (v:d.ty A):CV:=match d,v with
 | .cI k,v=>.int k v.1
 | .cB,v=>.bool v.1
 | .cS,v=>.str v.1
 | .cL e t,v=>.list e t v.1
 | .cO i,_=>.own i
 | .cP i,_=>.ptr i 0
 | .cN,_=>.nil
abbrev Dc.re (d:Dc) {A:Type} (v:d.ty A):A:=match d,v with
 | .cI _,v=>v.2
 | .cB,v=>v.2
 | .cS,v=>v.2
 | .cL _ _,v=>v.2
 | .cO _,v=>v
 | .cP _,v=>v
 | .cN,v=>v
theorem Dc.ok {d:Dc} {A:Type} {x:CV} {r:Option A} {v:d.ty A} (h:d.mk x r=some v):x=d.to v∧r=some (d.re v):=by
 cases d with
 | cI k=>
   simp only [Dc.mk] at h
   split at h
   ·split at h
    ·rename_i hk;subst hk;obtain ⟨a,h1,h2⟩:=qdn h;cases h2;exact ⟨rfl,h1⟩
    ·cases h
   ·cases h
 | cB=>
   simp only [Dc.mk] at h
   split at h
   ·obtain ⟨a,h1,h2⟩:=qdn h;cases h2;exact ⟨rfl,h1⟩
   ·cases h
 | cS=>
   simp only [Dc.mk] at h
   split at h
   ·obtain ⟨a,h1,h2⟩:=qdn h;cases h2;exact ⟨rfl,h1⟩
   ·cases h
 | cL e t=>
   simp only [Dc.mk] at h
   split at h
   ·split at h
    ·rename_i e' t' xs _ hs heq
     subst hs
     cases hb:Nat.beq e' e with
     | false=>rw [hb] at h;cases h
     | true=>
       rw [hb] at h
       have:=Nat.eq_of_beq_eq_true hb
       subst this
       obtain ⟨a,h1,h2⟩:=qdn h;cases h2;exact ⟨rfl,h1⟩
    ·cases h
   ·cases h
 | cO i=>
   simp only [Dc.mk] at h
   split at h
   ·rename_i j
    cases hb:Nat.beq j i with
    | false=>rw [hb] at h;cases h
    | true=>rw [hb] at h;have:=Nat.eq_of_beq_eq_true hb;subst this;exact ⟨rfl,h⟩
   ·cases h
 | cP i=>
   simp only [Dc.mk] at h
   split at h
   ·rename_i j
    cases hb:Nat.beq j i with
    | false=>rw [hb] at h;cases h
    | true=>rw [hb] at h;have:=Nat.eq_of_beq_eq_true hb;subst this;exact ⟨rfl,h⟩
   ·cases h
 | cN=>
   simp only [Dc.mk] at h
   split at h
   ·exact ⟨rfl,h⟩
   ·cases h
abbrev Dl.ty:List Dc→Type→Type
 | [],A=>A
 | d::l,A=>d.ty (Dl.ty l A)
def Dl.mk:(l:List Dc)→{A:Type}→List CV→Option A→Option (Dl.ty l A)
 | [],_,[],r=>r
 | d::l,_,x::xs,r=>d.mk x (Dl.mk l xs r)
 | [],_,_::_,_=>none
 | _::_,_,[],_=>none
abbrev Dl.to:(l:List Dc)→{A:Type}→Dl.ty l A→List CV
 | [],_,_=>[]
 | d::l,_,v=>d.to v::Dl.to l (d.re v)
abbrev Dl.re:(l:List Dc)→{A:Type}→Dl.ty l A→A
 | [],_,v=>v
 | d::l,_,v=>Dl.re l (d.re v)
theorem Dl.ok:∀ {l:List Dc} {A:Type} {xs:List CV} {r:Option A} {v:Dl.ty l A},Dl.mk l xs r=some v→xs=Dl.to l v∧r=some (Dl.re l v)
 | [],_,[],_,_,h=>⟨rfl,h⟩
 | d::l,_,x::xs,_,_,h=>by
   obtain ⟨h1,h2⟩:=Dc.ok h
   obtain ⟨h3,h4⟩:=Dl.ok h2
   exact ⟨by rw [h1,h3],h4⟩
 | [],_,_::_,_,_,h=>by cases h
 | _::_,_,[],_,_,h=>by cases h
inductive Da where
 | aC (d:Dc)
 | aG (l:List Dc)
 | aF (n:Nat) (l:List Dc)
 | aM (n:Nat) (l:List Dc)
abbrev Da.ty (d:Da) (A:Type):Type:=match d with
 | .aC d=>d.ty A
 | .aG l=>Dl.ty l A
 | .aF _ l=>Dl.ty l A
 | .aM _ l=>Dl.ty l A
def Da.mk (d:Da) {A:Type} (x:AV) (r:Option A):Option (d.ty A):=match d with
 | .aC d=>match x with
   | .c x=>d.mk x r
   | _=>none
 | .aG l=>match x with
   | .agg x=>Dl.mk l x r
   | _=>none
 | .aF n l=>match x with
   | .fn k x=>bif Nat.beq k n then Dl.mk l x r else none
   | _=>none
 | .aM n l=>match x with
   | .bm k x=>bif Nat.beq k n then Dl.mk l x r else none
   | _=>none
abbrev Da.to (d:Da) {A:Type} (v:d.ty A):AV:=match d,v with
 | .aC d,v=>.c (d.to v)
 | .aG l,v=>.agg (Dl.to l v)
 | .aF n l,v=>.fn n (Dl.to l v)
 | .aM n l,v=>.bm n (Dl.to l v)
abbrev Da.re (d:Da) {A:Type} (v:d.ty A):A:=match d,v with
 | .aC d,v=>d.re v
 | .aG l,v=>Dl.re l v
 | .aF _ l,v=>Dl.re l v
 | .aM _ l,v=>Dl.re l v
theorem Da.ok {d:Da} {A:Type} {x:AV} {r:Option A} {v:d.ty A} (h:d.mk x r=some v):x=d.to v∧r=some (d.re v):=by
 cases d with
 | aC d=>
   simp only [Da.mk] at h
   split at h
   ·obtain ⟨h1,h2⟩:=Dc.ok h;exact ⟨by rw [h1],h2⟩
   ·cases h
 | aG l=>
   simp only [Da.mk] at h
   split at h
   ·obtain ⟨h1,h2⟩:=Dl.ok h;exact ⟨by rw [h1],h2⟩
   ·cases h
 | aF n l=>
   simp only [Da.mk] at h
   split at h
   ·rename_i k x
    cases hb:Nat.beq k n with
    | false=>rw [hb] at h;cases h
    | true=>rw [hb] at h;have:=Nat.eq_of_beq_eq_true hb;subst this;obtain ⟨h1,h2⟩:=Dl.ok h;exact ⟨by rw [h1],h2⟩
   ·cases h
 | aM n l=>
   simp only [Da.mk] at h
   split at h
   ·rename_i k x
    cases hb:Nat.beq k n with
    | false=>rw [hb] at h;cases h
    | true=>rw [hb] at h;have:=Nat.eq_of_beq_eq_true hb;subst this;obtain ⟨h1,h2⟩:=Dl.ok h;exact ⟨by rw [h1],h2⟩
   ·cases h
abbrev Ds.ty:List Da→Type→Type
 | [],A=>A
 | d::l,A=>d.ty (Ds.ty l A)
def Ds.mk:(l:List Da)→{A:Type}→List AV→Option A→Option (Ds.ty l A)
 | [],_,[],r=>r
 | d::l,_,x::xs,r=>d.mk x (Ds.mk l xs r)
 | [],_,_::_,_=>none
 | _::_,_,[],_=>none
abbrev Ds.to:(l:List Da)→{A:Type}→Ds.ty l A→List AV
 | [],_,_=>[]
 | d::l,_,v=>d.to v::Ds.to l (d.re v)
abbrev Ds.re:(l:List Da)→{A:Type}→Ds.ty l A→A
 | [],_,v=>v
 | d::l,_,v=>Ds.re l (d.re v)
theorem Ds.ok:∀ {l:List Da} {A:Type} {xs:List AV} {r:Option A} {v:Ds.ty l A},Ds.mk l xs r=some v→xs=Ds.to l v∧r=some (Ds.re l v)
 | [],_,[],_,_,h=>⟨rfl,h⟩
 | d::l,_,x::xs,_,_,h=>by
   obtain ⟨h1,h2⟩:=Da.ok h
   obtain ⟨h3,h4⟩:=Ds.ok h2
   exact ⟨by rw [h1,h3],h4⟩
 | [],_,_::_,_,_,h=>by cases h
 | _::_,_,[],_,_,h=>by cases h
inductive Do where
 | oR (k e:Nat) (t:Ty)
 | oB (k e:Nat) (l:List Dc)
abbrev Do.ty (d:Do) (A:Type):Type:=match d with
 | .oR _ _ t=>List t.den×A
 | .oB _ _ l=>Dl.ty l A
def Do.mk (d:Do) {A:Type} (x:Nat×Obj) (r:Option A):Option (d.ty A):=match d with
 | .oR k e t=>match x with
   | (k',.row e' t' xs)=>bif Nat.beq k' k then (Dc.cL e t).mk (.list e' t' xs) r else none
   | _=>none
 | .oB k e l=>match x with
   | (k',.box e' x)=>bif Nat.beq k' k && Nat.beq e' e then Dl.mk l x r else none
   | _=>none
abbrev Do.to (d:Do) {A:Type} (v:d.ty A):Nat×Obj:=match d,v with
 | .oR k e t,v=>(k,.row e t v.1)
 | .oB k e l,v=>(k,.box e (Dl.to l v))
abbrev Do.re (d:Do) {A:Type} (v:d.ty A):A:=match d,v with
 | .oR _ _ _,v=>v.2
 | .oB _ _ l,v=>Dl.re l v
theorem Do.ok {d:Do} {A:Type} {x:Nat×Obj} {r:Option A} {v:d.ty A} (h:d.mk x r=some v):x=d.to v∧r=some (d.re v):=by
 cases d with
 | oR k e t=>
   simp only [Do.mk] at h
   split at h
   ·rename_i k' e' t' xs
    cases hb:Nat.beq k' k with
    | false=>rw [hb] at h;cases h
    | true=>
      rw [hb] at h
      have:=Nat.eq_of_beq_eq_true hb
      subst this
      have h:(Dc.cL e t).mk (.list e' t' xs) r=some v:=h
      obtain ⟨h1,h2⟩:=Dc.ok h
      have h1:CV.list e' t' xs=.list e t v.1:=h1
      cases h1
      exact ⟨rfl,h2⟩
   ·cases h
 | oB k e l=>
   simp only [Do.mk] at h
   split at h
   ·rename_i k' e' x
    cases hb:(Nat.beq k' k && Nat.beq e' e) with
    | false=>rw [hb] at h;cases h
    | true=>
      rw [hb] at h
      simp only [Bool.and_eq_true] at hb
      have:=Nat.eq_of_beq_eq_true hb.1
      subst this
      have:=Nat.eq_of_beq_eq_true hb.2
      subst this
      obtain ⟨h1,h2⟩:=Dl.ok h
      exact ⟨by rw [h1],h2⟩
   ·cases h
abbrev Dp.ty:List Do→Type
 | []=>Unit
 | d::l=>d.ty (Dp.ty l)
def Dp.mk:(l:List Do)→Objs→Option (Dp.ty l)
 | [],[]=>some ()
 | d::l,x::xs=>d.mk x (Dp.mk l xs)
 | [],_::_=>none
 | _::_,[]=>none
abbrev Dp.to:(l:List Do)→Dp.ty l→Objs
 | [],_=>[]
 | d::l,v=>d.to v::Dp.to l (d.re v)
theorem Dp.ok:∀ {l:List Do} {xs:Objs} {v:Dp.ty l},Dp.mk l xs=some v→xs=Dp.to l v
 | [],[],_,_=>rfl
 | d::l,x::xs,_,h=>by
   obtain ⟨h1,h2⟩:=Do.ok h
   rw [h1,Dp.ok h2]
 | [],_::_,_,h=>by cases h
 | _::_,[],_,h=>by cases h
/-- an entry,by what it is handed -/
def eG {R:Type} (l:List Da) (o:List Do) (g:Ds.ty l (Dp.ty o)→(AV→Objs→Option R)→Option R):Ent R:=fun a b k=>ob (Ds.mk l a (Dp.mk o b)) fun v=>g v k
theorem qan {R α:Type} {l:List Da} {o:List Do} {f:Nat} {m:Ds.ty l (Dp.ty o)→Option α} {V:α→AV} {O:α→Objs} (hs:∀ v y,m v=some y→Spec Tryd.prog gl0 f (Ds.to l v) (Dp.to o (Ds.re l v)) (V y) (O y)) :
  EOk (R:=R) f (eG l o fun v k=>ob (m v) fun y=>k (V y) (O y)):=fun args objs k r h=>by
 obtain ⟨v,h1,h2⟩:=qdn h
 obtain ⟨e1,e2⟩:=Ds.ok h1
 rw [e1,Dp.ok e2]
 exact eok_of (hs v) h2
def X101:Aux:=⟨[(2,([2,3,4,5,6]++rg 9 10))],[]⟩
inductive S101 where
 | l0 (v2 v3:Int)
def T101 {R:Type} (B:Ops) (p0:L5) (p1:Int) (again:S101→Option R) (k:(Int)→Option R):Option S101→Option R | none=>again (.l0 (↑p0.length) 0) | some (.l0 v2 v3)=>cond (B.lt v3 v2) (cond (B.inb v3 p0.length) (cond (B.eq p1 (p0.getD v3.toNat ty5.dflt)) (k v3) (again (.l0 v2 (IntKind.wrap .i64 (v3+1))))) none) (k (-1))
def E101 (p0:L5) (p1:Int):S101→List AV×Objs
 | .l0 v2 v3=>(mk 19 [(0,.c (.list 5 ty5 p0)),(1,.c (.int .u8 p1)),(7,.c (.int .i64 v2)),(8,.c (.int .i64 v3))],[])
def I101:S101→Nat
 | .l0 _ _=>0
abbrev K1 {R:Type} (k:AV→Objs→Option R) (y:(Int)):Option R:=k (.c (.int .i64 y)) []
noncomputable abbrev A101 {R:Type} (B:Ops) (p0:L5) (p1:Int) (k:AV→Objs→Option R) (s:S101) (n:Nat):Option R:=aloop tau B gl0 X101 gnil ow [] Tryd.f101 k (I101 s) (E101 p0 p1 s) n
theorem eq101 {R:Type} (B:Ops) (p0:L5) (p1:Int) (k:AV→Objs→Option R) (n:Nat):afun tau B gl0 X101 gnil ow Tryd.f101 [.c (.list 5 ty5 p0),.c (.int .u8 p1)] [] k n=T101 B p0 p1 (fun s=>A101 B p0 p1 k s n) (K1 k) none:=by kernel_rfl
theorem el101 {R:Type} (B:Ops) (p0:L5) (p1:Int) (k:AV→Objs→Option R) (n:Nat):∀ s,A101 B p0 p1 k s (n+1)=T101 B p0 p1 (fun s=>A101 B p0 p1 k s n) (K1 k) (some s):=by
 intro s
 cases s<;>kernel_rfl
theorem nt101 {R R':Type} (B:Ops) (p0:L5) (p1:Int) (again:S101→Option R) (again':S101→Option R') (k0:(Int)→Option R') (k:R'→Option R) (h:∀ s,again s=ob (again' s) k):∀ s,T101 B p0 p1 again (fun y=>ob (k0 y) k) s=ob (T101 B p0 p1 again' k0 s) k:=by
 rintro (_ | x)
 all_goals try cases x
 all_goals (unfold T101;repeat' first | exact rfl | exact h _ | apply qac | (apply qai;intro))
def R101 (p0:L5) (p1:Int):Nat→S101→Option (Int)
 | 0,_=>none
 | n+1,s=>T101 Ops.std p0 p1 (R101 p0 p1 n) some (some s)
theorem rr101 {R:Type} (p0:L5) (p1:Int) (k:AV→Objs→Option R):∀ (n:Nat) (s:S101),A101 Ops.std p0 p1 k s n=ob (R101 p0 p1 n s) (K1 k)
 | 0,s=>by cases s<;>rfl
 | n+1,s=>by rw [el101];exact nt101 Ops.std p0 p1 _ _ some (K1 k) (rr101 p0 p1 k n) (some s)
def F101 (p0:L5) (p1:Int):Option (Int):=T101 Ops.std p0 p1 (R101 p0 p1 1000000) some none
abbrev C101:Type:=L5→Int→Option (Int)
def e101 {R:Type} (c:C101):Ent R:=eG [.aC (.cL 5 ty5),.aC (.cI .u8)] [] fun v k=>ob (c v.1 v.2.1) (K1 k)
abbrev Sp101 (c:C101):Prop:=∀ (p0:L5) (p1 y:Int),c p0 p1=some y→Spec Tryd.prog gl0 101 [.c (.list 5 ty5 p0),.c (.int .u8 p1)] [] (.c (.int .i64 y)) []
theorem ek101 {R:Type} {c:C101} (hs:Sp101 c):EOk 101 (e101 (R:=R) c):=qan fun v=>hs v.1 v.2.1
theorem sf101:Sp101 (F101):=fun p0 p1 y hy=>by
 refine qae qad 1000000 (fn:=Tryd.f101) (by kernel_rfl) (by kernel_rfl) (X:=X101) (by kernel_rfl) ?_
 rw [eq101]
 exact (nt101 Ops.std p0 p1 _ _ some (K1 k0) (rr101 p0 p1 k0 1000000) none).trans (by show ob (F101 p0 p1) _=_;rw [hy];rfl)
noncomputable def M101:C101:=F101
theorem sm101:Sp101 M101:=sf101
def X66:Aux:=⟨[],[]⟩
def T66 {R:Type} (B:Ops) (c101:C101) (p0:L5) (p1:Int) (k:(Bool)→Option R):Option R:=ob (c101 p0 p1) fun y0=>k (B.le 0 y0)
abbrev K2 {R:Type} (k:AV→Objs→Option R) (y:(Bool)):Option R:=k (.c (.bool y)) []
theorem eq66 {R:Type} (B:Ops) (c101:C101) (p0:L5) (p1:Int) (k:AV→Objs→Option R) (n:Nat):afun tau B gl0 X66 (ent 101 (e101 c101) gnil) ow Tryd.f66 [.c (.list 5 ty5 p0),.c (.int .u8 p1)] [] k n=T66 B c101 p0 p1 (K2 k):=by kernel_rfl
theorem nt66 {R R':Type} (B:Ops) (c101:C101) (p0:L5) (p1:Int) (k0:(Bool)→Option R') (k:R'→Option R):T66 B c101 p0 p1 (fun y=>ob (k0 y) k)=ob (T66 B c101 p0 p1 k0) k:=by
 unfold T66
 repeat' first | exact rfl | apply qac | (apply qai;intro)
def F66 (c101:C101) (p0:L5) (p1:Int):Option (Bool):=T66 Ops.std c101 p0 p1 some
abbrev C66:Type:=L5→Int→Option (Bool)
def e66 {R:Type} (c:C66):Ent R:=eG [.aC (.cL 5 ty5),.aC (.cI .u8)] [] fun v k=>ob (c v.1 v.2.1) (K2 k)
abbrev Sp66 (c:C66):Prop:=∀ (p0:L5) (p1:Int) (y:Bool),c p0 p1=some y→Spec Tryd.prog gl0 66 [.c (.list 5 ty5 p0),.c (.int .u8 p1)] [] (.c (.bool y)) []
theorem ek66 {R:Type} {c:C66} (hs:Sp66 c):EOk 66 (e66 (R:=R) c):=qan fun v=>hs v.1 v.2.1
theorem sf66 {c101:C101} (h101:Sp101 c101):Sp66 (F66 c101):=fun p0 p1 y hy=>by
 refine qae (qab (ek101 h101) qad) 1000000 (fn:=Tryd.f66) (by kernel_rfl) (by kernel_rfl) (X:=X66) (by kernel_rfl) ?_
 rw [eq66]
 exact (nt66 Ops.std c101 p0 p1 some (K2 k0)).trans (by show ob (F66 c101 p0 p1) _=_;rw [hy];rfl)
noncomputable def M66:C66:=F66 M101
theorem sm66:Sp66 M66:=sf66 sm101
def X102:Aux:=⟨[],[]⟩
def T102 {R:Type} (B:Ops) (p0:Int) (k:(Bool)→Option R):Option R:=cond (B.le 48 p0) (k (B.le p0 57)) (k false)
theorem eq102 {R:Type} (B:Ops) (p0:Int) (k:AV→Objs→Option R) (n:Nat):afun tau B gl0 X102 gnil ow Tryd.f102 [.c (.int .u8 p0)] [] k n=T102 B p0 (K2 k):=by kernel_rfl
theorem nt102 {R R':Type} (B:Ops) (p0:Int) (k0:(Bool)→Option R') (k:R'→Option R):T102 B p0 (fun y=>ob (k0 y) k)=ob (T102 B p0 k0) k:=by
 unfold T102
 repeat' first | exact rfl | apply qac | (apply qai;intro)
def F102 (p0:Int):Option (Bool):=T102 Ops.std p0 some
abbrev C102:Type:=Int→Option (Bool)
def e102 {R:Type} (c:C102):Ent R:=eG [.aC (.cI .u8)] [] fun v k=>ob (c v.1) (K2 k)
abbrev Sp102 (c:C102):Prop:=∀ (p0:Int) (y:Bool),c p0=some y→Spec Tryd.prog gl0 102 [.c (.int .u8 p0)] [] (.c (.bool y)) []
theorem ek102 {R:Type} {c:C102} (hs:Sp102 c):EOk 102 (e102 (R:=R) c):=qan fun v=>hs v.1
theorem sf102:Sp102 (F102):=fun p0 y hy=>by
 refine qae qad 1000000 (fn:=Tryd.f102) (by kernel_rfl) (by kernel_rfl) (X:=X102) (by kernel_rfl) ?_
 rw [eq102]
 exact (nt102 Ops.std p0 some (K2 k0)).trans (by show ob (F102 p0) _=_;rw [hy];rfl)
noncomputable def M102:C102:=F102
theorem sm102:Sp102 M102:=sf102
def X105:Aux:=⟨[],[]⟩
def T105 {R:Type} (B:Ops) (p0:Int) (k:(Bool)→Option R):Option R:=cond (B.le 97 p0) (cond (B.le p0 122) (k true) (k (B.eq p0 95))) (k (B.eq p0 95))
theorem eq105 {R:Type} (B:Ops) (p0:Int) (k:AV→Objs→Option R) (n:Nat):afun tau B gl0 X105 gnil ow Tryd.f105 [.c (.int .u8 p0)] [] k n=T105 B p0 (K2 k):=by kernel_rfl
theorem nt105 {R R':Type} (B:Ops) (p0:Int) (k0:(Bool)→Option R') (k:R'→Option R):T105 B p0 (fun y=>ob (k0 y) k)=ob (T105 B p0 k0) k:=by
 unfold T105
 repeat' first | exact rfl | apply qac | (apply qai;intro)
def F105 (p0:Int):Option (Bool):=T105 Ops.std p0 some
abbrev C105:Type:=Int→Option (Bool)
def e105 {R:Type} (c:C105):Ent R:=eG [.aC (.cI .u8)] [] fun v k=>ob (c v.1) (K2 k)
abbrev Sp105 (c:C105):Prop:=∀ (p0:Int) (y:Bool),c p0=some y→Spec Tryd.prog gl0 105 [.c (.int .u8 p0)] [] (.c (.bool y)) []
theorem ek105 {R:Type} {c:C105} (hs:Sp105 c):EOk 105 (e105 (R:=R) c):=qan fun v=>hs v.1
theorem sf105:Sp105 (F105):=fun p0 y hy=>by
 refine qae qad 1000000 (fn:=Tryd.f105) (by kernel_rfl) (by kernel_rfl) (X:=X105) (by kernel_rfl) ?_
 rw [eq105]
 exact (nt105 Ops.std p0 some (K2 k0)).trans (by show ob (F105 p0) _=_;rw [hy];rfl)
noncomputable def M105:C105:=F105
theorem sm105:Sp105 M105:=sf105
def X106:Aux:=⟨[],[]⟩
def T106 {R:Type} (B:Ops) (c105:C105) (c102:C102) (p0:Int) (k:(Bool)→Option R):Option R:=ob (c105 p0) fun y0=>cond (y0) (k true) (ob (c102 p0) fun y1=>k y1)
theorem eq106 {R:Type} (B:Ops) (c105:C105) (c102:C102) (p0:Int) (k:AV→Objs→Option R) (n:Nat):afun tau B gl0 X106 (ent 105 (e105 c105) (ent 102 (e102 c102) gnil)) ow Tryd.f106 [.c (.int .u8 p0)] [] k n=T106 B c105 c102 p0 (K2 k):=by kernel_rfl
theorem nt106 {R R':Type} (B:Ops) (c105:C105) (c102:C102) (p0:Int) (k0:(Bool)→Option R') (k:R'→Option R):T106 B c105 c102 p0 (fun y=>ob (k0 y) k)=ob (T106 B c105 c102 p0 k0) k:=by
 unfold T106
 repeat' first | exact rfl | apply qac | (apply qai;intro)
def F106 (c105:C105) (c102:C102) (p0:Int):Option (Bool):=T106 Ops.std c105 c102 p0 some
abbrev C106:Type:=Int→Option (Bool)
def e106 {R:Type} (c:C106):Ent R:=eG [.aC (.cI .u8)] [] fun v k=>ob (c v.1) (K2 k)
abbrev Sp106 (c:C106):Prop:=∀ (p0:Int) (y:Bool),c p0=some y→Spec Tryd.prog gl0 106 [.c (.int .u8 p0)] [] (.c (.bool y)) []
theorem ek106 {R:Type} {c:C106} (hs:Sp106 c):EOk 106 (e106 (R:=R) c):=qan fun v=>hs v.1
theorem sf106 {c105:C105} {c102:C102} (h105:Sp105 c105) (h102:Sp102 c102):Sp106 (F106 c105 c102):=fun p0 y hy=>by
 refine qae (qab (ek105 h105) (qab (ek102 h102) qad)) 1000000 (fn:=Tryd.f106) (by kernel_rfl) (by kernel_rfl) (X:=X106) (by kernel_rfl) ?_
 rw [eq106]
 exact (nt106 Ops.std c105 c102 p0 some (K2 k0)).trans (by show ob (F106 c105 c102 p0) _=_;rw [hy];rfl)
noncomputable def M106:C106:=F106 M105 M102
theorem sm106:Sp106 M106:=sf106 sm105 sm102
def X103:Aux:=⟨[(2,([2,3,4]++rg 6 16))],[]⟩
inductive S103 where
 | l0 (v1:Int)
def T103 {R:Type} (B:Ops) (c106:C106) (p0:LB) (again:S103→Option R) (k:(LB)→Option R):Option S103→Option R | none=>again (.l0 0) | some (.l0 v1)=>cond (B.lt v1 (↑p0.length)) (cond (B.inb v1 p0.length) (ob (c106 (Nat.cast (UInt8.toNat (p0.getD v1.toNat 0)))) fun y0=>cond (y0) (again (.l0 (IntKind.wrap .i64 (v1+1)))) (cond (B.inb v1 (List.length p0+1)) (k (List.drop 0 (List.take v1.toNat p0))) none)) none) (cond (B.inb v1 (List.length p0+1)) (k (List.drop 0 (List.take v1.toNat p0))) none)
def E103 (p0:LB):S103→List AV×Objs
 | .l0 v1=>(mk 22 [(0,.c (.str p0)),(1,.fn 106 []),(5,.c (.int .i64 v1))],[])
def I103:S103→Nat
 | .l0 _=>0
abbrev K3 {R:Type} (k:AV→Objs→Option R) (y:(LB)):Option R:=k (.c (.str y)) []
noncomputable abbrev A103 {R:Type} (B:Ops) (c106:C106) (p0:LB) (k:AV→Objs→Option R) (s:S103) (n:Nat):Option R:=aloop tau B gl0 X103 (ent 106 (e106 c106) gnil) ow [] Tryd.f103 k (I103 s) (E103 p0 s) n
theorem eq103 {R:Type} (B:Ops) (c106:C106) (p0:LB) (k:AV→Objs→Option R) (n:Nat):afun tau B gl0 X103 (ent 106 (e106 c106) gnil) ow Tryd.f103 [.c (.str p0),.fn 106 []] [] k n=T103 B c106 p0 (fun s=>A103 B c106 p0 k s n) (K3 k) none:=by kernel_rfl
theorem el103 {R:Type} (B:Ops) (c106:C106) (p0:LB) (k:AV→Objs→Option R) (n:Nat):∀ s,A103 B c106 p0 k s (n+1)=T103 B c106 p0 (fun s=>A103 B c106 p0 k s n) (K3 k) (some s):=by
 intro s
 cases s<;>kernel_rfl
theorem nt103 {R R':Type} (B:Ops) (c106:C106) (p0:LB) (again:S103→Option R) (again':S103→Option R') (k0:(LB)→Option R') (k:R'→Option R) (h:∀ s,again s=ob (again' s) k):∀ s,T103 B c106 p0 again (fun y=>ob (k0 y) k) s=ob (T103 B c106 p0 again' k0 s) k:=by
 rintro (_ | x)
 all_goals try cases x
 all_goals (unfold T103;repeat' first | exact rfl | exact h _ | apply qac | (apply qai;intro))
def R103 (c106:C106) (p0:LB):Nat→S103→Option (LB)
 | 0,_=>none
 | n+1,s=>T103 Ops.std c106 p0 (R103 c106 p0 n) some (some s)
theorem rr103 {R:Type} (c106:C106) (p0:LB) (k:AV→Objs→Option R):∀ (n:Nat) (s:S103),A103 Ops.std c106 p0 k s n=ob (R103 c106 p0 n s) (K3 k)
 | 0,s=>by cases s<;>rfl
 | n+1,s=>by rw [el103];exact nt103 Ops.std c106 p0 _ _ some (K3 k) (rr103 c106 p0 k n) (some s)
def F103 (c106:C106) (p0:LB):Option (LB):=T103 Ops.std c106 p0 (R103 c106 p0 1000000) some none
abbrev C103:Type:=LB→Option (LB)
def e103 {R:Type} (c:C103):Ent R:=eG [.aC .cS,.aF 106 []] [] fun v k=>ob (c v.1) (K3 k)
abbrev Sp103 (c:C103):Prop:=∀ (p0 y:LB),c p0=some y→Spec Tryd.prog gl0 103 [.c (.str p0),.fn 106 []] [] (.c (.str y)) []
theorem ek103 {R:Type} {c:C103} (hs:Sp103 c):EOk 103 (e103 (R:=R) c):=qan fun v=>hs v.1
theorem sf103 {c106:C106} (h106:Sp106 c106):Sp103 (F103 c106):=fun p0 y hy=>by
 refine qae (qab (ek106 h106) qad) 1000000 (fn:=Tryd.f103) (by kernel_rfl) (by kernel_rfl) (X:=X103) (by kernel_rfl) ?_
 rw [eq103]
 exact (nt103 Ops.std c106 p0 _ _ some (K3 k0) (rr103 c106 p0 k0 1000000) none).trans (by show ob (F103 c106 p0) _=_;rw [hy];rfl)
noncomputable def M103:C103:=F103 M106
theorem sm103:Sp103 M103:=sf103 sm106
def X178:Aux:=⟨[(2,([2,3,4]++rg 6 16))],[]⟩
inductive S178 where
 | l0 (v1:Int)
def T178 {R:Type} (B:Ops) (c102:C102) (p0:LB) (again:S178→Option R) (k:(LB)→Option R):Option S178→Option R | none=>again (.l0 0) | some (.l0 v1)=>cond (B.lt v1 (↑p0.length)) (cond (B.inb v1 p0.length) (ob (c102 (Nat.cast (UInt8.toNat (p0.getD v1.toNat 0)))) fun y0=>cond (y0) (again (.l0 (IntKind.wrap .i64 (v1+1)))) (cond (B.inb v1 (List.length p0+1)) (k (List.drop 0 (List.take v1.toNat p0))) none)) none) (cond (B.inb v1 (List.length p0+1)) (k (List.drop 0 (List.take v1.toNat p0))) none)
def E178 (p0:LB):S178→List AV×Objs
 | .l0 v1=>(mk 22 [(0,.c (.str p0)),(1,.fn 102 []),(5,.c (.int .i64 v1))],[])
def I178:S178→Nat
 | .l0 _=>0
noncomputable abbrev A178 {R:Type} (B:Ops) (c102:C102) (p0:LB) (k:AV→Objs→Option R) (s:S178) (n:Nat):Option R:=aloop tau B gl0 X178 (ent 102 (e102 c102) gnil) ow [] Tryd.f103 k (I178 s) (E178 p0 s) n
theorem eq178 {R:Type} (B:Ops) (c102:C102) (p0:LB) (k:AV→Objs→Option R) (n:Nat):afun tau B gl0 X178 (ent 102 (e102 c102) gnil) ow Tryd.f103 [.c (.str p0),.fn 102 []] [] k n=T178 B c102 p0 (fun s=>A178 B c102 p0 k s n) (K3 k) none:=by kernel_rfl
theorem el178 {R:Type} (B:Ops) (c102:C102) (p0:LB) (k:AV→Objs→Option R) (n:Nat):∀ s,A178 B c102 p0 k s (n+1)=T178 B c102 p0 (fun s=>A178 B c102 p0 k s n) (K3 k) (some s):=by
 intro s
 cases s<;>kernel_rfl
theorem nt178 {R R':Type} (B:Ops) (c102:C102) (p0:LB) (again:S178→Option R) (again':S178→Option R') (k0:(LB)→Option R') (k:R'→Option R) (h:∀ s,again s=ob (again' s) k):∀ s,T178 B c102 p0 again (fun y=>ob (k0 y) k) s=ob (T178 B c102 p0 again' k0 s) k:=by
 rintro (_ | x)
 all_goals try cases x
 all_goals (unfold T178;repeat' first | exact rfl | exact h _ | apply qac | (apply qai;intro))
def R178 (c102:C102) (p0:LB):Nat→S178→Option (LB)
 | 0,_=>none
 | n+1,s=>T178 Ops.std c102 p0 (R178 c102 p0 n) some (some s)
theorem rr178 {R:Type} (c102:C102) (p0:LB) (k:AV→Objs→Option R):∀ (n:Nat) (s:S178),A178 Ops.std c102 p0 k s n=ob (R178 c102 p0 n s) (K3 k)
 | 0,s=>by cases s<;>rfl
 | n+1,s=>by rw [el178];exact nt178 Ops.std c102 p0 _ _ some (K3 k) (rr178 c102 p0 k n) (some s)
def F178 (c102:C102) (p0:LB):Option (LB):=T178 Ops.std c102 p0 (R178 c102 p0 1000000) some none
abbrev C178:Type:=LB→Option (LB)
def e178 {R:Type} (c:C178):Ent R:=eG [.aC .cS,.aF 102 []] [] fun v k=>ob (c v.1) (K3 k)
abbrev Sp178 (c:C178):Prop:=∀ (p0 y:LB),c p0=some y→Spec Tryd.prog gl0 103 [.c (.str p0),.fn 102 []] [] (.c (.str y)) []
theorem ek178 {R:Type} {c:C178} (hs:Sp178 c):EOk 103 (e178 (R:=R) c):=qan fun v=>hs v.1
theorem sf178 {c102:C102} (h102:Sp102 c102):Sp178 (F178 c102):=fun p0 y hy=>by
 refine qae (qab (ek102 h102) qad) 1000000 (fn:=Tryd.f103) (by kernel_rfl) (by kernel_rfl) (X:=X178) (by kernel_rfl) ?_
 rw [eq178]
 exact (nt178 Ops.std c102 p0 _ _ some (K3 k0) (rr178 c102 p0 k0 1000000) none).trans (by show ob (F178 c102 p0) _=_;rw [hy];rfl)
noncomputable def M178:C178:=F178 M102
theorem sm178:Sp178 M178:=sf178 sm102
def X104:Aux:=⟨[(3,([1,2,4,5]++rg 8 12))],[]⟩
inductive S104 where
 | l0 (v1 v2 v3:Int)
def T104 {R:Type} (B:Ops) (p0:LB) (again:S104→Option R) (k:(Int)→Option R):Option S104→Option R | none=>again (.l0 0 (↑p0.length) 0) | some (.l0 v1 v2 v3)=>cond (B.lt v3 v2) (cond (B.inb v3 p0.length) (again (.l0 (IntKind.wrap .i64 (IntKind.wrap .i64 (10*v1)+IntKind.wrap .i64 (IntKind.wrap IntKind.u8 (Nat.cast (UInt8.toNat (p0.getD v3.toNat 0))-48)))) v2 (IntKind.wrap .i64 (v3+1)))) none) (k v1)
def E104 (p0:LB):S104→List AV×Objs
 | .l0 v1 v2 v3=>(mk 20 [(0,.c (.str p0)),(3,.c (.int .i64 v1)),(6,.c (.int .i64 v2)),(7,.c (.int .i64 v3))],[])
def I104:S104→Nat
 | .l0 _ _ _=>0
noncomputable abbrev A104 {R:Type} (B:Ops) (p0:LB) (k:AV→Objs→Option R) (s:S104) (n:Nat):Option R:=aloop tau B gl0 X104 gnil ow [] Tryd.f104 k (I104 s) (E104 p0 s) n
theorem eq104 {R:Type} (B:Ops) (p0:LB) (k:AV→Objs→Option R) (n:Nat):afun tau B gl0 X104 gnil ow Tryd.f104 [.c (.str p0)] [] k n=T104 B p0 (fun s=>A104 B p0 k s n) (K1 k) none:=by kernel_rfl
theorem el104 {R:Type} (B:Ops) (p0:LB) (k:AV→Objs→Option R) (n:Nat):∀ s,A104 B p0 k s (n+1)=T104 B p0 (fun s=>A104 B p0 k s n) (K1 k) (some s):=by
 intro s
 cases s<;>kernel_rfl
theorem nt104 {R R':Type} (B:Ops) (p0:LB) (again:S104→Option R) (again':S104→Option R') (k0:(Int)→Option R') (k:R'→Option R) (h:∀ s,again s=ob (again' s) k):∀ s,T104 B p0 again (fun y=>ob (k0 y) k) s=ob (T104 B p0 again' k0 s) k:=by
 rintro (_ | x)
 all_goals try cases x
 all_goals (unfold T104;repeat' first | exact rfl | exact h _ | apply qac | (apply qai;intro))
def R104 (p0:LB):Nat→S104→Option (Int)
 | 0,_=>none
 | n+1,s=>T104 Ops.std p0 (R104 p0 n) some (some s)
theorem rr104 {R:Type} (p0:LB) (k:AV→Objs→Option R):∀ (n:Nat) (s:S104),A104 Ops.std p0 k s n=ob (R104 p0 n s) (K1 k)
 | 0,s=>by cases s<;>rfl
 | n+1,s=>by rw [el104];exact nt104 Ops.std p0 _ _ some (K1 k) (rr104 p0 k n) (some s)
def F104 (p0:LB):Option (Int):=T104 Ops.std p0 (R104 p0 1000000) some none
abbrev C104:Type:=LB→Option (Int)
def e104 {R:Type} (c:C104):Ent R:=eG [.aC .cS] [] fun v k=>ob (c v.1) (K1 k)
abbrev Sp104 (c:C104):Prop:=∀ (p0:LB) (y:Int),c p0=some y→Spec Tryd.prog gl0 104 [.c (.str p0)] [] (.c (.int .i64 y)) []
theorem ek104 {R:Type} {c:C104} (hs:Sp104 c):EOk 104 (e104 (R:=R) c):=qan fun v=>hs v.1
theorem sf104:Sp104 (F104):=fun p0 y hy=>by
 refine qae qad 1000000 (fn:=Tryd.f104) (by kernel_rfl) (by kernel_rfl) (X:=X104) (by kernel_rfl) ?_
 rw [eq104]
 exact (nt104 Ops.std p0 _ _ some (K1 k0) (rr104 p0 k0 1000000) none).trans (by show ob (F104 p0) _=_;rw [hy];rfl)
noncomputable def M104:C104:=F104
theorem sm104:Sp104 M104:=sf104
def X107:Aux:=⟨[],[]⟩
def T107 {R:Type} (B:Ops) (k:(L9)→Option R):Option R:=k (([60,61]:LB)::([62,61]:LB)::([61,61]:LB)::([33,61]:LB)::([38,38]:LB)::([124,124]:LB)::([45,62]:LB)::([40]:LB)::([41]:LB)::([91]:LB)::([93]:LB)::([43]:LB)::([45]:LB)::([42]:LB)::([60]:LB)::([62]:LB)::([33]:LB)::([64]:LB)::([59]:LB)::([61]:LB)::mt (Ty.den Ty.str))
abbrev K4 {R:Type} (k:AV→Objs→Option R) (y:(L9)):Option R:=k (.c (.own 500)) [(500,.row 9 ty9 y)]
theorem eq107 {R:Type} (B:Ops) (k:AV→Objs→Option R) (n:Nat):afun tau B gl0 X107 gnil ow Tryd.f107 [] [] k n=T107 B (K4 k):=by kernel_rfl
theorem nt107 {R R':Type} (B:Ops) (k0:(L9)→Option R') (k:R'→Option R):T107 B (fun y=>ob (k0 y) k)=ob (T107 B k0) k:=by
 unfold T107
 repeat' first | exact rfl | apply qac | (apply qai;intro)
def F107:Option (L9):=T107 Ops.std some
abbrev C107:Type:=Option (L9)
def e107 {R:Type} (c:C107):Ent R:=eG [] [] fun _ k=>ob c (K4 k)
abbrev Sp107 (c:C107):Prop:=∀ (y:L9),c=some y→Spec Tryd.prog gl0 107 [] [] (.c (.own 500)) [(500,.row 9 ty9 y)]
theorem ek107 {R:Type} {c:C107} (hs:Sp107 c):EOk 107 (e107 (R:=R) c):=qan fun _=>hs
theorem sf107:Sp107 (F107):=fun y hy=>by
 refine qae qad 1000000 (fn:=Tryd.f107) (by kernel_rfl) (by kernel_rfl) (X:=X107) (by kernel_rfl) ?_
 rw [eq107]
 exact (nt107 Ops.std some (K4 k0)).trans (by show ob (F107) _=_;rw [hy];rfl)
noncomputable def M107:C107:=F107
theorem sm107:Sp107 M107:=sf107
def X126:Aux:=⟨[],[]⟩
def T126 {R:Type} (B:Ops) (p0 p1:LB) (k:(Bool)→Option R):Option R:=cond (B.le (↑p1.length) (↑p0.length)) (cond (B.inb (↑p1.length) (List.length p0+1)) (k (List.drop 0 (List.take (Int.toNat (↑p1.length)) p0) == p1)) none) (k false)
theorem eq126 {R:Type} (B:Ops) (p0 p1:LB) (k:AV→Objs→Option R) (n:Nat):afun tau B gl0 X126 gnil ow Tryd.f126 [.c (.str p0),.c (.str p1)] [] k n=T126 B p0 p1 (K2 k):=by kernel_rfl
theorem nt126 {R R':Type} (B:Ops) (p0 p1:LB) (k0:(Bool)→Option R') (k:R'→Option R):T126 B p0 p1 (fun y=>ob (k0 y) k)=ob (T126 B p0 p1 k0) k:=by
 unfold T126
 repeat' first | exact rfl | apply qac | (apply qai;intro)
def F126 (p0 p1:LB):Option (Bool):=T126 Ops.std p0 p1 some
abbrev C126:Type:=LB→LB→Option (Bool)
def e126 {R:Type} (c:C126):Ent R:=eG [.aC .cS,.aC .cS] [] fun v k=>ob (c v.1 v.2.1) (K2 k)
abbrev Sp126 (c:C126):Prop:=∀ (p0 p1:LB) (y:Bool),c p0 p1=some y→Spec Tryd.prog gl0 126 [.c (.str p0),.c (.str p1)] [] (.c (.bool y)) []
theorem ek126 {R:Type} {c:C126} (hs:Sp126 c):EOk 126 (e126 (R:=R) c):=qan fun v=>hs v.1 v.2.1
theorem sf126:Sp126 (F126):=fun p0 p1 y hy=>by
 refine qae qad 1000000 (fn:=Tryd.f126) (by kernel_rfl) (by kernel_rfl) (X:=X126) (by kernel_rfl) ?_
 rw [eq126]
 exact (nt126 Ops.std p0 p1 some (K2 k0)).trans (by show ob (F126 p0 p1) _=_;rw [hy];rfl)
noncomputable def M126:C126:=F126
theorem sm126:Sp126 M126:=sf126
def X108:Aux:=⟨[],[]⟩
def T108 {R:Type} (B:Ops) (c126:C126) (p0 p1:LB) (k:(Bool)→Option R):Option R:=ob (c126 p0 p1) fun y0=>k y0
theorem eq108 {R:Type} (B:Ops) (c126:C126) (p0 p1:LB) (k:AV→Objs→Option R) (n:Nat):afun tau B gl0 X108 (ent 126 (e126 c126) gnil) ow Tryd.f108 [.c (.str p0),.c (.str p1)] [] k n=T108 B c126 p0 p1 (K2 k):=by kernel_rfl
theorem nt108 {R R':Type} (B:Ops) (c126:C126) (p0 p1:LB) (k0:(Bool)→Option R') (k:R'→Option R):T108 B c126 p0 p1 (fun y=>ob (k0 y) k)=ob (T108 B c126 p0 p1 k0) k:=by
 unfold T108
 repeat' first | exact rfl | apply qac | (apply qai;intro)
def F108 (c126:C126) (p0 p1:LB):Option (Bool):=T108 Ops.std c126 p0 p1 some
abbrev C108:Type:=LB→LB→Option (Bool)
def e108 {R:Type} (c:C108):Ent R:=eG [.aC .cS,.aC .cS] [] fun v k=>ob (c v.1 v.2.1) (K2 k)
abbrev Sp108 (c:C108):Prop:=∀ (p0 p1:LB) (y:Bool),c p0 p1=some y→Spec Tryd.prog gl0 108 [.c (.str p0),.c (.str p1)] [] (.c (.bool y)) []
theorem ek108 {R:Type} {c:C108} (hs:Sp108 c):EOk 108 (e108 (R:=R) c):=qan fun v=>hs v.1 v.2.1
theorem sf108 {c126:C126} (h126:Sp126 c126):Sp108 (F108 c126):=fun p0 p1 y hy=>by
 refine qae (qab (ek126 h126) qad) 1000000 (fn:=Tryd.f108) (by kernel_rfl) (by kernel_rfl) (X:=X108) (by kernel_rfl) ?_
 rw [eq108]
 exact (nt108 Ops.std c126 p0 p1 some (K2 k0)).trans (by show ob (F108 c126 p0 p1) _=_;rw [hy];rfl)
noncomputable def M108:C108:=F108 M126
theorem sm108:Sp108 M108:=sf108 sm126
def X67:Aux:=⟨[(15,([1]++rg 3 39++rg 45 10))],[]⟩
inductive S67 where
 | l0 (v1 v2:Int) (v7:L9)
def T67 {R:Type} (B:Ops) (c102:C102) (c103:C103) (c178:C178) (c104:C104) (c105:C105) (c106:C106) (c66:C66) (c107:C107) (c108:C108) (p0:LB) (again:S67→Option R) (k:(Int×LB×Int×Int)→Option R):Option S67→Option R | none=>cond (B.inb 0 p0.length) (ob (c102 (Nat.cast (UInt8.toNat (p0.getD (Int.toNat 0) 0)))) fun y0=>cond (y0) (ob (c178 p0) fun y1=>cond (B.le (↑y1.length) 3) (ob (c104 y1) fun y2=>k (1,y1,y2,0)) (k (0,mt UInt8,0,0))) (ob (c105 (Nat.cast (UInt8.toNat (p0.getD (Int.toNat 0) 0)))) fun y1=>cond (y1) (ob (c103 p0) fun y2=>cond (B.le (↑y2.length) 8) (k (2,y2,0,0)) (k (0,mt UInt8,0,0))) (ob (c66 (88::70::71::85::82::mt (Ty.den (Ty.int .u8))) (Nat.cast (UInt8.toNat (p0.getD (Int.toNat 0) 0)))) fun y2=>cond (y2) (cond (B.inb 1 (List.length p0+1)) (k ((3,List.drop 0 (List.take (Int.toNat 1) p0),0,0))) none) (ob (c107) fun y3=>again (.l0 (↑y3.length) 0 y3))))) none | some (.l0 v1 v2 v7)=>cond (B.lt v2 v1) (cond (B.inb v2 v7.length) (ob (c108 p0 (v7.getD v2.toNat ty9.dflt)) fun y0=>cond (y0) (k (4,v7.getD v2.toNat ty9.dflt,0,0)) (again (.l0 v1 (IntKind.wrap .i64 (v2+1)) v7))) none) (k (0,mt UInt8,0,0))
def E67 (p0:LB):S67→List AV×Objs
 | .l0 v1 v2 v7=>(mk 55 [(0,.c (.str p0)),(2,.c (.ptr 2 0)),(42,.c (.own 42)),(43,.c (.int .i64 v1)),(44,.c (.int .i64 v2))],[(2,.box 85 [.int .i64 0,.str (mt UInt8),.int .i64 0,.int .i64 0]),(42,.row 9 ty9 v7)])
def I67:S67→Nat
 | .l0 _ _ _=>0
abbrev K5 {R:Type} (k:AV→Objs→Option R) (y:(Int×LB×Int×Int)):Option R:=k (.agg [.int .i64 y.1,.str y.2.1,.int .i64 y.2.2.1,.int .i64 y.2.2.2]) []
noncomputable abbrev A67 {R:Type} (B:Ops) (c102:C102) (c103:C103) (c178:C178) (c104:C104) (c105:C105) (c106:C106) (c66:C66) (c107:C107) (c108:C108) (p0:LB) (k:AV→Objs→Option R) (s:S67) (n:Nat):Option R:=aloop tau B gl0 X67 (ent 102 (e102 c102) (ent 103 (eAlt 1 106 (e103 c103) (e178 c178)) (ent 104 (e104 c104) (ent 105 (e105 c105) (ent 106 (e106 c106) (ent 66 (e66 c66) (ent 107 (e107 c107) (ent 108 (e108 c108) gnil)))))))) ow [] Tryd.f67 k (I67 s) (E67 p0 s) n
theorem eq67 {R:Type} (B:Ops) (c102:C102) (c103:C103) (c178:C178) (c104:C104) (c105:C105) (c106:C106) (c66:C66) (c107:C107) (c108:C108) (p0:LB) (k:AV→Objs→Option R) (n:Nat):afun tau B gl0 X67 (ent 102 (e102 c102) (ent 103 (eAlt 1 106 (e103 c103) (e178 c178)) (ent 104 (e104 c104) (ent 105 (e105 c105) (ent 106 (e106 c106) (ent 66 (e66 c66) (ent 107 (e107 c107) (ent 108 (e108 c108) gnil)))))))) ow Tryd.f67 [.c (.str p0)] [] k n=T67 B c102 c103 c178 c104 c105 c106 c66 c107 c108 p0 (fun s=>A67 B c102 c103 c178 c104 c105 c106 c66 c107 c108 p0 k s n) (K5 k) none:=by kernel_rfl
theorem el67 {R:Type} (B:Ops) (c102:C102) (c103:C103) (c178:C178) (c104:C104) (c105:C105) (c106:C106) (c66:C66) (c107:C107) (c108:C108) (p0:LB) (k:AV→Objs→Option R) (n:Nat):∀ s,A67 B c102 c103 c178 c104 c105 c106 c66 c107 c108 p0 k s (n+1)=T67 B c102 c103 c178 c104 c105 c106 c66 c107 c108 p0 (fun s=>A67 B c102 c103 c178 c104 c105 c106 c66 c107 c108 p0 k s n) (K5 k) (some s):=by
 intro s
 cases s<;>kernel_rfl
theorem nt67 {R R':Type} (B:Ops) (c102:C102) (c103:C103) (c178:C178) (c104:C104) (c105:C105) (c106:C106) (c66:C66) (c107:C107) (c108:C108) (p0:LB) (again:S67→Option R) (again':S67→Option R') (k0:(Int×LB×Int×Int)→Option R') (k:R'→Option R) (h:∀ s,again s=ob (again' s) k):∀ s,T67 B c102 c103 c178 c104 c105 c106 c66 c107 c108 p0 again (fun y=>ob (k0 y) k) s=ob (T67 B c102 c103 c178 c104 c105 c106 c66 c107 c108 p0 again' k0 s) k:=by
 rintro (_ | x)
 all_goals try cases x
 all_goals (unfold T67;repeat' first | exact rfl | exact h _ | apply qac | (apply qai;intro))
def R67 (c102:C102) (c103:C103) (c178:C178) (c104:C104) (c105:C105) (c106:C106) (c66:C66) (c107:C107) (c108:C108) (p0:LB):Nat→S67→Option (Int×LB×Int×Int)
 | 0,_=>none
 | n+1,s=>T67 Ops.std c102 c103 c178 c104 c105 c106 c66 c107 c108 p0 (R67 c102 c103 c178 c104 c105 c106 c66 c107 c108 p0 n) some (some s)
theorem rr67 {R:Type} (c102:C102) (c103:C103) (c178:C178) (c104:C104) (c105:C105) (c106:C106) (c66:C66) (c107:C107) (c108:C108) (p0:LB) (k:AV→Objs→Option R):∀ (n:Nat) (s:S67),A67 Ops.std c102 c103 c178 c104 c105 c106 c66 c107 c108 p0 k s n=ob (R67 c102 c103 c178 c104 c105 c106 c66 c107 c108 p0 n s) (K5 k)
 | 0,s=>by cases s<;>rfl
 | n+1,s=>by rw [el67];exact nt67 Ops.std c102 c103 c178 c104 c105 c106 c66 c107 c108 p0 _ _ some (K5 k) (rr67 c102 c103 c178 c104 c105 c106 c66 c107 c108 p0 k n) (some s)
def F67 (c102:C102) (c103:C103) (c178:C178) (c104:C104) (c105:C105) (c106:C106) (c66:C66) (c107:C107) (c108:C108) (p0:LB):Option (Int×LB×Int×Int):=T67 Ops.std c102 c103 c178 c104 c105 c106 c66 c107 c108 p0 (R67 c102 c103 c178 c104 c105 c106 c66 c107 c108 p0 1000000) some none
abbrev C67:Type:=LB→Option (Int×LB×Int×Int)
def e67 {R:Type} (c:C67):Ent R:=eG [.aC .cS] [] fun v k=>ob (c v.1) (K5 k)
abbrev Sp67 (c:C67):Prop:=∀ (p0:LB) (y:Int×LB×Int×Int),c p0=some y→Spec Tryd.prog gl0 67 [.c (.str p0)] [] (.agg [.int .i64 y.1,.str y.2.1,.int .i64 y.2.2.1,.int .i64 y.2.2.2]) []
theorem ek67 {R:Type} {c:C67} (hs:Sp67 c):EOk 67 (e67 (R:=R) c):=qan fun v=>hs v.1
theorem sf67 {c102:C102} {c103:C103} {c178:C178} {c104:C104} {c105:C105} {c106:C106} {c66:C66} {c107:C107} {c108:C108} (h102:Sp102 c102) (h103:Sp103 c103) (h178:Sp178 c178) (h104:Sp104 c104) (h105:Sp105 c105) (h106:Sp106 c106) (h66:Sp66 c66) (h107:Sp107 c107) (h108:Sp108 c108):Sp67 (F67 c102 c103 c178 c104 c105 c106 c66 c107 c108):=fun p0 y hy=>by
 refine qae (G:=ent 102 (e102 c102) (ent 103 (eAlt 1 106 (e103 c103) (e178 c178)) (ent 104 (e104 c104) (ent 105 (e105 c105) (ent 106 (e106 c106) (ent 66 (e66 c66) (ent 107 (e107 c107) (ent 108 (e108 c108) gnil)))))))) (qab (ek102 h102) (qab (eAlt_ok (ek103 h103) (ek178 h178)) (qab (ek104 h104) (qab (ek105 h105) (qab (ek106 h106) (qab (ek66 h66) (qab (ek107 h107) (qab (ek108 h108) qad)))))))) 1000000 (fn:=Tryd.f67) (by kernel_rfl) (by kernel_rfl) (X:=X67) (by kernel_rfl) ?_
 rw [eq67]
 exact (nt67 Ops.std c102 c103 c178 c104 c105 c106 c66 c107 c108 p0 _ _ some (K5 k0) (rr67 c102 c103 c178 c104 c105 c106 c66 c107 c108 p0 k0 1000000) none).trans (by show ob (F67 c102 c103 c178 c104 c105 c106 c66 c107 c108 p0) _=_;rw [hy];rfl)
noncomputable def M67:C67:=F67 M102 M103 M178 M104 M105 M106 M66 M107 M108
theorem sm67:Sp67 M67:=sf67 sm102 sm103 sm178 sm104 sm105 sm106 sm66 sm107 sm108
def X29:Aux:=⟨[(5,([1,2,3,4]++rg 7 41))],[]⟩
inductive S29 where
 | l0 (v1:Int) (v2:L85)
def T29 {R:Type} (B:Ops) (c66:C66) (c67:C67) (p0:LB) (again:S29→Option R) (k:(Int×Int×L85)→Option R):Option S29→Option R | none=>cond (B.lt 60000 (↑p0.length)) (k ((14,0,mt (Ty.den ty85)))) (again (.l0 0 (mt (Ty.den ty85)))) | some (.l0 v1 v2)=>cond (B.lt v1 (↑p0.length)) (cond (B.inb v1 p0.length) (ob (c66 (32::9::10::mt (Ty.den (Ty.int .u8))) (Nat.cast (UInt8.toNat (p0.getD v1.toNat 0)))) fun y0=>cond (y0) (again (.l0 (IntKind.wrap .i64 (v1+1)) v2)) (cond (B.inb v1 (List.length p0+1)) (ob (c67 (List.drop v1.toNat (List.take p0.length p0))) fun y1=>cond (B.eq y1.1 0) (k ((2,v1,mt (Ty.den ty85)))) (cond (B.lim (List.length v2+List.length ((y1.1,y1.2.1,y1.2.2.1,v1)::mt (Ty.den ty85))) 40) (again (.l0 (IntKind.wrap .i64 (v1+Nat.cast (List.length y1.2.1))) (v2++(y1.1,y1.2.1,y1.2.2.1,v1)::mt (Ty.den ty85)))) none)) none)) none) (cond (B.lim (List.length v2+List.length ((5,mt UInt8,0,Nat.cast p0.length)::mt (Ty.den ty85))) 40) (k ((0,0,v2++(5,mt UInt8,0,Nat.cast p0.length)::mt (Ty.den ty85)))) none)
def E29 (p0:LB):S29→List AV×Objs
 | .l0 v1 v2=>(mk 48 [(0,.c (.str p0)),(5,.c (.own 5)),(6,.c (.int .i64 v1))],[(5,.row 85 ty85 v2)])
def I29:S29→Nat
 | .l0 _ _=>0
abbrev K6 {R:Type} (k:AV→Objs→Option R) (y:(Int×Int×L85)):Option R:=k (.tup [(false,[.own 501000]),(false,[.int .i64 y.1]),(false,[.int .i64 y.2.1])]) [(501000,.row 85 ty85 y.2.2)]
noncomputable abbrev A29 {R:Type} (B:Ops) (c66:C66) (c67:C67) (p0:LB) (k:AV→Objs→Option R) (s:S29) (n:Nat):Option R:=aloop tau B gl0 X29 (ent 66 (e66 c66) (ent 67 (e67 c67) gnil)) ow [] Tryd.f29 k (I29 s) (E29 p0 s) n
theorem eq29 {R:Type} (B:Ops) (c66:C66) (c67:C67) (p0:LB) (k:AV→Objs→Option R) (n:Nat):afun tau B gl0 X29 (ent 66 (e66 c66) (ent 67 (e67 c67) gnil)) ow Tryd.f29 [.c (.str p0)] [] k n=T29 B c66 c67 p0 (fun s=>A29 B c66 c67 p0 k s n) (K6 k) none:=by kernel_rfl
theorem el29 {R:Type} (B:Ops) (c66:C66) (c67:C67) (p0:LB) (k:AV→Objs→Option R) (n:Nat):∀ s,A29 B c66 c67 p0 k s (n+1)=T29 B c66 c67 p0 (fun s=>A29 B c66 c67 p0 k s n) (K6 k) (some s):=by
 intro s
 cases s<;>kernel_rfl
theorem nt29 {R R':Type} (B:Ops) (c66:C66) (c67:C67) (p0:LB) (again:S29→Option R) (again':S29→Option R') (k0:(Int×Int×L85)→Option R') (k:R'→Option R) (h:∀ s,again s=ob (again' s) k):∀ s,T29 B c66 c67 p0 again (fun y=>ob (k0 y) k) s=ob (T29 B c66 c67 p0 again' k0 s) k:=by
 rintro (_ | x)
 all_goals try cases x
 all_goals (unfold T29;repeat' first | exact rfl | exact h _ | apply qac | (apply qai;intro))
def R29 (c66:C66) (c67:C67) (p0:LB):Nat→S29→Option (Int×Int×L85)
 | 0,_=>none
 | n+1,s=>T29 Ops.std c66 c67 p0 (R29 c66 c67 p0 n) some (some s)
theorem rr29 {R:Type} (c66:C66) (c67:C67) (p0:LB) (k:AV→Objs→Option R):∀ (n:Nat) (s:S29),A29 Ops.std c66 c67 p0 k s n=ob (R29 c66 c67 p0 n s) (K6 k)
 | 0,s=>by cases s<;>rfl
 | n+1,s=>by rw [el29];exact nt29 Ops.std c66 c67 p0 _ _ some (K6 k) (rr29 c66 c67 p0 k n) (some s)
def F29 (c66:C66) (c67:C67) (p0:LB):Option (Int×Int×L85):=T29 Ops.std c66 c67 p0 (R29 c66 c67 p0 1000000) some none
abbrev C29:Type:=LB→Option (Int×Int×L85)
def e29 {R:Type} (c:C29):Ent R:=eG [.aC .cS] [] fun v k=>ob (c v.1) (K6 k)
abbrev Sp29 (c:C29):Prop:=∀ (p0:LB) (y:Int×Int×L85),c p0=some y→Spec Tryd.prog gl0 29 [.c (.str p0)] [] (.tup [(false,[.own 501000]),(false,[.int .i64 y.1]),(false,[.int .i64 y.2.1])]) [(501000,.row 85 ty85 y.2.2)]
theorem ek29 {R:Type} {c:C29} (hs:Sp29 c):EOk 29 (e29 (R:=R) c):=qan fun v=>hs v.1
theorem sf29 {c66:C66} {c67:C67} (h66:Sp66 c66) (h67:Sp67 c67):Sp29 (F29 c66 c67):=fun p0 y hy=>by
 refine qae (qab (ek66 h66) (qab (ek67 h67) qad)) 1000000 (fn:=Tryd.f29) (by kernel_rfl) (by kernel_rfl) (X:=X29) (by kernel_rfl) ?_
 rw [eq29]
 exact (nt29 Ops.std c66 c67 p0 _ _ some (K6 k0) (rr29 c66 c67 p0 k0 1000000) none).trans (by show ob (F29 c66 c67 p0) _=_;rw [hy];rfl)
noncomputable def M29:C29:=F29 M66 M67
theorem sm29:Sp29 M29:=sf29 sm66 sm67
def X62:Aux:=⟨[],[]⟩
def T62 {R:Type} (B:Ops) (p0:L85) (p1:Int) (k:(Bool)→Option R):Option R:=cond (B.le 0 p1) (cond (B.lt p1 (↑p0.length)) (cond (B.inb (IntKind.wrap .i64 (Nat.cast p0.length-1)) p0.length) (k (B.eq (p0.getD (Int.toNat (IntKind.wrap .i64 (Nat.cast p0.length-1))) ty85.dflt).1 5)) none) (k false)) (k false)
theorem eq62 {R:Type} (B:Ops) (p0:L85) (p1:Int) (k:AV→Objs→Option R) (n:Nat):afun tau B gl0 X62 gnil ow Tryd.f62 [.c (.list 85 ty85 p0),.c (.int .i64 p1)] [] k n=T62 B p0 p1 (K2 k):=by kernel_rfl
theorem nt62 {R R':Type} (B:Ops) (p0:L85) (p1:Int) (k0:(Bool)→Option R') (k:R'→Option R):T62 B p0 p1 (fun y=>ob (k0 y) k)=ob (T62 B p0 p1 k0) k:=by
 unfold T62
 repeat' first | exact rfl | apply qac | (apply qai;intro)
def F62 (p0:L85) (p1:Int):Option (Bool):=T62 Ops.std p0 p1 some
abbrev C62:Type:=L85→Int→Option (Bool)
def e62 {R:Type} (c:C62):Ent R:=eG [.aC (.cL 85 ty85),.aC (.cI .i64)] [] fun v k=>ob (c v.1 v.2.1) (K2 k)
abbrev Sp62 (c:C62):Prop:=∀ (p0:L85) (p1:Int) (y:Bool),c p0 p1=some y→Spec Tryd.prog gl0 62 [.c (.list 85 ty85 p0),.c (.int .i64 p1)] [] (.c (.bool y)) []
theorem ek62 {R:Type} {c:C62} (hs:Sp62 c):EOk 62 (e62 (R:=R) c):=qan fun v=>hs v.1 v.2.1
theorem sf62:Sp62 (F62):=fun p0 p1 y hy=>by
 refine qae qad 1000000 (fn:=Tryd.f62) (by kernel_rfl) (by kernel_rfl) (X:=X62) (by kernel_rfl) ?_
 rw [eq62]
 exact (nt62 Ops.std p0 p1 some (K2 k0)).trans (by show ob (F62 p0 p1) _=_;rw [hy];rfl)
noncomputable def M62:C62:=F62
theorem sm62:Sp62 M62:=sf62
def X98:Aux:=⟨[],[(1,.lin (rg 0 12))]⟩
def T98 {R:Type} (B:Ops) (p0:L85) (p1:Int) (p2:L56) (k:(LB×L85×Int×L56)→Option R):Option R:=cond (B.inb p1 p0.length) (cond (B.eq (p0.getD p1.toNat ty85.dflt).1 4) (k ((((p0.getD p1.toNat ty85.dflt).2).1,p0,p1,p2))) (k (mt UInt8,p0,p1,p2))) none
abbrev K7 {R:Type} (k:AV→Objs→Option R) (y:(LB×L85×Int×L56)):Option R:=k (.c (.str y.1)) [(0,.box 101 [.list 85 ty85 y.2.1,.int .i64 y.2.2.1,.own 1002]),(1002,.row 56 ty56 y.2.2.2)]
theorem eq98 {R:Type} (B:Ops) (p0:L85) (p1:Int) (p2:L56) (k:AV→Objs→Option R) (n:Nat):afun tau B gl0 X98 gnil ow Tryd.f98 [.c (.ptr 0 0)] [(0,.box 101 [.list 85 ty85 p0,.int .i64 p1,.own 1002]),(1002,.row 56 ty56 p2)] k n=T98 B p0 p1 p2 (K7 k):=by kernel_rfl
theorem nt98 {R R':Type} (B:Ops) (p0:L85) (p1:Int) (p2:L56) (k0:(LB×L85×Int×L56)→Option R') (k:R'→Option R):T98 B p0 p1 p2 (fun y=>ob (k0 y) k)=ob (T98 B p0 p1 p2 k0) k:=by
 unfold T98
 repeat' first | exact rfl | apply qac | (apply qai;intro)
def F98 (p0:L85) (p1:Int) (p2:L56):Option (LB×L85×Int×L56):=T98 Ops.std p0 p1 p2 some
abbrev C98:Type:=L85→Int→L56→Option (LB×L85×Int×L56)
def e98 {R:Type} (c:C98):Ent R:=eG [.aC (.cP 0)] [.oB 0 101 [.cL 85 ty85,.cI .i64,.cO 1002],.oR 1002 56 ty56] fun v k=>ob (c v.1 v.2.1 v.2.2.1) (K7 k)
abbrev Sp98 (c:C98):Prop:=∀ (p0:L85) (p1:Int) (p2:L56) (y:LB×L85×Int×L56),c p0 p1 p2=some y→Spec Tryd.prog gl0 98 [.c (.ptr 0 0)] [(0,.box 101 [.list 85 ty85 p0,.int .i64 p1,.own 1002]),(1002,.row 56 ty56 p2)] (.c (.str y.1)) [(0,.box 101 [.list 85 ty85 y.2.1,.int .i64 y.2.2.1,.own 1002]),(1002,.row 56 ty56 y.2.2.2)]
theorem ek98 {R:Type} {c:C98} (hs:Sp98 c):EOk 98 (e98 (R:=R) c):=qan fun v=>hs v.1 v.2.1 v.2.2.1
theorem sf98:Sp98 (F98):=fun p0 p1 p2 y hy=>by
 refine qae qad 1000000 (fn:=Tryd.f98) (by kernel_rfl) (by kernel_rfl) (X:=X98) (by kernel_rfl) ?_
 rw [eq98]
 exact (nt98 Ops.std p0 p1 p2 some (K7 k0)).trans (by show ob (F98 p0 p1 p2) _=_;rw [hy];rfl)
noncomputable def M98:C98:=F98
theorem sm98:Sp98 M98:=sf98
def X135:Aux:=⟨[],[(1,.lin (rg 0 12)),(7,.lin (rg 0 12)),(9,.lin (rg 0 23))]⟩
def T135 {R:Type} (B:Ops) (c98:C98) (p0:L85) (p1:Int) (p2:L56) (k:(Bool×L85×Int×L56)→Option R):Option R:=cond (B.inb p1 p0.length) (ob (c98 p0 (IntKind.wrap .i64 (p1+1)) p2) fun y0=>cond (!y0.1 == ([64]:LB)) (cond (B.lim (List.length (y0.2.2.2)+List.length ((2,0,((p0.getD p1.toNat ty85.dflt).2).1,mt UInt8)::mt (Ty.den ty56))) 48) (k ((true,y0.2.1,y0.2.2.1,y0.2.2.2++(2,0,((p0.getD p1.toNat ty85.dflt).2).1,mt UInt8)::mt (Ty.den ty56)))) none) (cond (B.inb (IntKind.wrap .i64 (y0.2.2.1+1)) (List.length y0.2.1)) (cond (!B.eq (List.getD y0.2.1 (Int.toNat (IntKind.wrap .i64 (y0.2.2.1+1))) ty85.dflt).1 2) (k ((false,y0.2.1,IntKind.wrap .i64 (y0.2.2.1+1),y0.2.2.2))) (cond (B.inb (IntKind.wrap .i64 (y0.2.2.1+1)) (List.length y0.2.1)) (cond (B.lim (List.length (y0.2.2.2)+List.length ((3,0,((p0.getD p1.toNat ty85.dflt).2).1,((List.getD y0.2.1 (Int.toNat (IntKind.wrap .i64 (y0.2.2.1+1))) ty85.dflt).2).1)::mt (Ty.den ty56))) 48) (k ((true,y0.2.1,IntKind.wrap .i64 (IntKind.wrap .i64 (y0.2.2.1+1)+1),y0.2.2.2++(3,0,((p0.getD p1.toNat ty85.dflt).2).1,((List.getD y0.2.1 (Int.toNat (IntKind.wrap .i64 (y0.2.2.1+1))) ty85.dflt).2).1)::mt (Ty.den ty56)))) none) none)) none)) none
abbrev K8 {R:Type} (k:AV→Objs→Option R) (y:(Bool×L85×Int×L56)):Option R:=k (.c (.bool y.1)) [(0,.box 101 [.list 85 ty85 y.2.1,.int .i64 y.2.2.1,.own 1002]),(1002,.row 56 ty56 y.2.2.2)]
theorem eq135 {R:Type} (B:Ops) (c98:C98) (p0:L85) (p1:Int) (p2:L56) (k:AV→Objs→Option R) (n:Nat):afun tau B gl0 X135 (ent 98 (e98 c98) gnil) ow Tryd.f135 [.c (.ptr 0 0)] [(0,.box 101 [.list 85 ty85 p0,.int .i64 p1,.own 1002]),(1002,.row 56 ty56 p2)] k n=T135 B c98 p0 p1 p2 (K8 k):=by kernel_rfl
theorem nt135 {R R':Type} (B:Ops) (c98:C98) (p0:L85) (p1:Int) (p2:L56) (k0:(Bool×L85×Int×L56)→Option R') (k:R'→Option R):T135 B c98 p0 p1 p2 (fun y=>ob (k0 y) k)=ob (T135 B c98 p0 p1 p2 k0) k:=by
 unfold T135
 repeat' first | exact rfl | apply qac | (apply qai;intro)
def F135 (c98:C98) (p0:L85) (p1:Int) (p2:L56):Option (Bool×L85×Int×L56):=T135 Ops.std c98 p0 p1 p2 some
abbrev C135:Type:=L85→Int→L56→Option (Bool×L85×Int×L56)
def e135 {R:Type} (c:C135):Ent R:=eG [.aC (.cP 0)] [.oB 0 101 [.cL 85 ty85,.cI .i64,.cO 1002],.oR 1002 56 ty56] fun v k=>ob (c v.1 v.2.1 v.2.2.1) (K8 k)
abbrev Sp135 (c:C135):Prop:=∀ (p0:L85) (p1:Int) (p2:L56) (y:Bool×L85×Int×L56),c p0 p1 p2=some y→Spec Tryd.prog gl0 135 [.c (.ptr 0 0)] [(0,.box 101 [.list 85 ty85 p0,.int .i64 p1,.own 1002]),(1002,.row 56 ty56 p2)] (.c (.bool y.1)) [(0,.box 101 [.list 85 ty85 y.2.1,.int .i64 y.2.2.1,.own 1002]),(1002,.row 56 ty56 y.2.2.2)]
theorem ek135 {R:Type} {c:C135} (hs:Sp135 c):EOk 135 (e135 (R:=R) c):=qan fun v=>hs v.1 v.2.1 v.2.2.1
theorem sf135 {c98:C98} (h98:Sp98 c98):Sp135 (F135 c98):=fun p0 p1 p2 y hy=>by
 refine qae (qab (ek98 h98) qad) 1000000 (fn:=Tryd.f135) (by kernel_rfl) (by kernel_rfl) (X:=X135) (by kernel_rfl) ?_
 rw [eq135]
 exact (nt135 Ops.std c98 p0 p1 p2 some (K8 k0)).trans (by show ob (F135 c98 p0 p1 p2) _=_;rw [hy];rfl)
noncomputable def M135:C135:=F135 M98
theorem sm135:Sp135 M135:=sf135 sm98
def X123:Aux:=⟨[],[]⟩
def T123 {R:Type} (B:Ops) (p0:L3) (k:(L3)→Option R):Option R:=k p0
abbrev K9 {R:Type} (k:AV→Objs→Option R) (y:(L3)):Option R:=k (.fn 136 [.ptr 501500 0]) [(501500,.box 22 [.list 3 ty3 y])]
theorem eq123 {R:Type} (B:Ops) (p0:L3) (k:AV→Objs→Option R) (n:Nat):afun tau B gl0 X123 gnil ow Tryd.f123 [.c (.list 3 ty3 p0)] [] k n=T123 B p0 (K9 k):=by kernel_rfl
theorem nt123 {R R':Type} (B:Ops) (p0:L3) (k0:(L3)→Option R') (k:R'→Option R):T123 B p0 (fun y=>ob (k0 y) k)=ob (T123 B p0 k0) k:=by
 unfold T123
 repeat' first | exact rfl | apply qac | (apply qai;intro)
def F123 (p0:L3):Option (L3):=T123 Ops.std p0 some
abbrev C123:Type:=L3→Option (L3)
def e123 {R:Type} (c:C123):Ent R:=eG [.aC (.cL 3 ty3)] [] fun v k=>ob (c v.1) (K9 k)
abbrev Sp123 (c:C123):Prop:=∀ (p0 y:L3),c p0=some y→Spec Tryd.prog gl0 123 [.c (.list 3 ty3 p0)] [] (.fn 136 [.ptr 501500 0]) [(501500,.box 22 [.list 3 ty3 y])]
theorem ek123 {R:Type} {c:C123} (hs:Sp123 c):EOk 123 (e123 (R:=R) c):=qan fun v=>hs v.1
theorem sf123:Sp123 (F123):=fun p0 y hy=>by
 refine qae qad 1000000 (fn:=Tryd.f123) (by kernel_rfl) (by kernel_rfl) (X:=X123) (by kernel_rfl) ?_
 rw [eq123]
 exact (nt123 Ops.std p0 some (K9 k0)).trans (by show ob (F123 p0) _=_;rw [hy];rfl)
noncomputable def M123:C123:=F123
theorem sm123:Sp123 M123:=sf123
def X92:Aux:=⟨[],[]⟩
def T92 {R:Type} (B:Ops) (k:(LB×LB×LB×LB×LB×LB×LB×LB×LB×LB×LB)→Option R):Option R:=k ((([42]:LB),([43]:LB),([45]:LB),([60]:LB),([60,61]:LB),([62]:LB),([62,61]:LB),([61,61]:LB),([33,61]:LB),([38,38]:LB),([124,124]:LB)))
abbrev K10 {R:Type} (k:AV→Objs→Option R) (y:(LB×LB×LB×LB×LB×LB×LB×LB×LB×LB×LB)):Option R:=k (.agg [.str y.1,.str y.2.1,.str y.2.2.1,.str y.2.2.2.1,.str y.2.2.2.2.1,.str y.2.2.2.2.2.1,.str y.2.2.2.2.2.2.1,.str y.2.2.2.2.2.2.2.1,.str y.2.2.2.2.2.2.2.2.1,.str y.2.2.2.2.2.2.2.2.2.1,.str y.2.2.2.2.2.2.2.2.2.2]) []
theorem eq92 {R:Type} (B:Ops) (k:AV→Objs→Option R) (n:Nat):afun tau B gl0 X92 gnil ow Tryd.f92 [] [] k n=T92 B (K10 k):=by kernel_rfl
theorem nt92 {R R':Type} (B:Ops) (k0:(LB×LB×LB×LB×LB×LB×LB×LB×LB×LB×LB)→Option R') (k:R'→Option R):T92 B (fun y=>ob (k0 y) k)=ob (T92 B k0) k:=by
 unfold T92
 repeat' first | exact rfl | apply qac | (apply qai;intro)
def F92:Option (LB×LB×LB×LB×LB×LB×LB×LB×LB×LB×LB):=T92 Ops.std some
abbrev C92:Type:=Option (LB×LB×LB×LB×LB×LB×LB×LB×LB×LB×LB)
def e92 {R:Type} (c:C92):Ent R:=eG [] [] fun _ k=>ob c (K10 k)
abbrev Sp92 (c:C92):Prop:=∀ (y:LB×LB×LB×LB×LB×LB×LB×LB×LB×LB×LB),c=some y→Spec Tryd.prog gl0 92 [] [] (.agg [.str y.1,.str y.2.1,.str y.2.2.1,.str y.2.2.2.1,.str y.2.2.2.2.1,.str y.2.2.2.2.2.1,.str y.2.2.2.2.2.2.1,.str y.2.2.2.2.2.2.2.1,.str y.2.2.2.2.2.2.2.2.1,.str y.2.2.2.2.2.2.2.2.2.1,.str y.2.2.2.2.2.2.2.2.2.2]) []
theorem ek92 {R:Type} {c:C92} (hs:Sp92 c):EOk 92 (e92 (R:=R) c):=qan fun _=>hs
theorem sf92:Sp92 (F92):=fun y hy=>by
 refine qae qad 1000000 (fn:=Tryd.f92) (by kernel_rfl) (by kernel_rfl) (X:=X92) (by kernel_rfl) ?_
 rw [eq92]
 exact (nt92 Ops.std some (K10 k0)).trans (by show ob (F92) _=_;rw [hy];rfl)
noncomputable def M92:C92:=F92
theorem sm92:Sp92 M92:=sf92
def X93:Aux:=⟨[],[]⟩
def T93 {R:Type} (B:Ops) (k:(Int×Int×Int×Int×Int×Int×Int×Int×Int×Int×Int)→Option R):Option R:=k (4,3,3,2,2,2,2,2,2,1,0)
abbrev K11 {R:Type} (k:AV→Objs→Option R) (y:(Int×Int×Int×Int×Int×Int×Int×Int×Int×Int×Int)):Option R:=k (.agg [.int .i64 y.1,.int .i64 y.2.1,.int .i64 y.2.2.1,.int .i64 y.2.2.2.1,.int .i64 y.2.2.2.2.1,.int .i64 y.2.2.2.2.2.1,.int .i64 y.2.2.2.2.2.2.1,.int .i64 y.2.2.2.2.2.2.2.1,.int .i64 y.2.2.2.2.2.2.2.2.1,.int .i64 y.2.2.2.2.2.2.2.2.2.1,.int .i64 y.2.2.2.2.2.2.2.2.2.2]) []
theorem eq93 {R:Type} (B:Ops) (k:AV→Objs→Option R) (n:Nat):afun tau B gl0 X93 gnil ow Tryd.f93 [] [] k n=T93 B (K11 k):=by kernel_rfl
theorem nt93 {R R':Type} (B:Ops) (k0:(Int×Int×Int×Int×Int×Int×Int×Int×Int×Int×Int)→Option R') (k:R'→Option R):T93 B (fun y=>ob (k0 y) k)=ob (T93 B k0) k:=by
 unfold T93
 repeat' first | exact rfl | apply qac | (apply qai;intro)
def F93:Option (Int×Int×Int×Int×Int×Int×Int×Int×Int×Int×Int):=T93 Ops.std some
abbrev C93:Type:=Option (Int×Int×Int×Int×Int×Int×Int×Int×Int×Int×Int)
def e93 {R:Type} (c:C93):Ent R:=eG [] [] fun _ k=>ob c (K11 k)
abbrev Sp93 (c:C93):Prop:=∀ (y:Int×Int×Int×Int×Int×Int×Int×Int×Int×Int×Int),c=some y→Spec Tryd.prog gl0 93 [] [] (.agg [.int .i64 y.1,.int .i64 y.2.1,.int .i64 y.2.2.1,.int .i64 y.2.2.2.1,.int .i64 y.2.2.2.2.1,.int .i64 y.2.2.2.2.2.1,.int .i64 y.2.2.2.2.2.2.1,.int .i64 y.2.2.2.2.2.2.2.1,.int .i64 y.2.2.2.2.2.2.2.2.1,.int .i64 y.2.2.2.2.2.2.2.2.2.1,.int .i64 y.2.2.2.2.2.2.2.2.2.2]) []
theorem ek93 {R:Type} {c:C93} (hs:Sp93 c):EOk 93 (e93 (R:=R) c):=qan fun _=>hs
theorem sf93:Sp93 (F93):=fun y hy=>by
 refine qae qad 1000000 (fn:=Tryd.f93) (by kernel_rfl) (by kernel_rfl) (X:=X93) (by kernel_rfl) ?_
 rw [eq93]
 exact (nt93 Ops.std some (K11 k0)).trans (by show ob (F93) _=_;rw [hy];rfl)
noncomputable def M93:C93:=F93
theorem sm93:Sp93 M93:=sf93
def X97:Aux:=⟨[(2,([1,2,3,4,5]++rg 8 12))],[(5,.lin [0,1,3,2,4,5,6])]⟩
inductive S97 where
 | l0 (v1 v2 v3 v4 v5 v6 v7 v8 v9 v10 v11:LB) (v12:Int)
def T97 {R:Type} (B:Ops) (c92:C92) (c93:C93) (p0:LB) (again:S97→Option R) (k:(Int×Int)→Option R):Option S97→Option R | none=>ob (c92) fun y0=>again (.l0 y0.1 y0.2.1 y0.2.2.1 y0.2.2.2.1 y0.2.2.2.2.1 y0.2.2.2.2.2.1 y0.2.2.2.2.2.2.1 y0.2.2.2.2.2.2.2.1 y0.2.2.2.2.2.2.2.2.1 y0.2.2.2.2.2.2.2.2.2.1 y0.2.2.2.2.2.2.2.2.2.2 0) | some (.l0 v1 v2 v3 v4 v5 v6 v7 v8 v9 v10 v11 v12)=>cond (B.lt v12 11) (cond (B.inb v12 11) (cond (List.getD (v1::v2::v3::v4::v5::v6::v7::v8::v9::v10::v11::mt LB) v12.toNat (mt UInt8) == p0) (ob (c93) fun y0=>cond (B.inb v12 11) (k ((IntKind.wrap .i64 (6+v12),List.getD (y0.1::y0.2.1::y0.2.2.1::y0.2.2.2.1::y0.2.2.2.2.1::y0.2.2.2.2.2.1::y0.2.2.2.2.2.2.1::y0.2.2.2.2.2.2.2.1::y0.2.2.2.2.2.2.2.2.1::y0.2.2.2.2.2.2.2.2.2.1::y0.2.2.2.2.2.2.2.2.2.2::mt Int) v12.toNat 0))) none) (again (.l0 v1 v2 v3 v4 v5 v6 v7 v8 v9 v10 v11 (IntKind.wrap .i64 (v12+1))))) none) (k (0,-1))
def E97 (p0:LB):S97→List AV×Objs
 | .l0 v1 v2 v3 v4 v5 v6 v7 v8 v9 v10 v11 v12=>(mk 20 [(0,.c (.str p0)),(6,.agg [.str v1,.str v2,.str v3,.str v4,.str v5,.str v6,.str v7,.str v8,.str v9,.str v10,.str v11]),(7,.c (.int .i64 v12))],[])
def I97:S97→Nat
 | .l0 _ _ _ _ _ _ _ _ _ _ _ _=>0
abbrev K12 {R:Type} (k:AV→Objs→Option R) (y:(Int×Int)):Option R:=k (.tup [(false,[.int .i64 y.1]),(false,[.int .i64 y.2])]) []
noncomputable abbrev A97 {R:Type} (B:Ops) (c92:C92) (c93:C93) (p0:LB) (k:AV→Objs→Option R) (s:S97) (n:Nat):Option R:=aloop tau B gl0 X97 (ent 92 (e92 c92) (ent 93 (e93 c93) gnil)) ow [] Tryd.f97 k (I97 s) (E97 p0 s) n
theorem eq97 {R:Type} (B:Ops) (c92:C92) (c93:C93) (p0:LB) (k:AV→Objs→Option R) (n:Nat):afun tau B gl0 X97 (ent 92 (e92 c92) (ent 93 (e93 c93) gnil)) ow Tryd.f97 [.c (.str p0)] [] k n=T97 B c92 c93 p0 (fun s=>A97 B c92 c93 p0 k s n) (K12 k) none:=by kernel_rfl
theorem el97 {R:Type} (B:Ops) (c92:C92) (c93:C93) (p0:LB) (k:AV→Objs→Option R) (n:Nat):∀ s,A97 B c92 c93 p0 k s (n+1)=T97 B c92 c93 p0 (fun s=>A97 B c92 c93 p0 k s n) (K12 k) (some s):=by
 intro s
 cases s<;>kernel_rfl
theorem nt97 {R R':Type} (B:Ops) (c92:C92) (c93:C93) (p0:LB) (again:S97→Option R) (again':S97→Option R') (k0:(Int×Int)→Option R') (k:R'→Option R) (h:∀ s,again s=ob (again' s) k):∀ s,T97 B c92 c93 p0 again (fun y=>ob (k0 y) k) s=ob (T97 B c92 c93 p0 again' k0 s) k:=by
 rintro (_ | x)
 all_goals try cases x
 all_goals (unfold T97;repeat' first | exact rfl | exact h _ | apply qac | (apply qai;intro))
def R97 (c92:C92) (c93:C93) (p0:LB):Nat→S97→Option (Int×Int)
 | 0,_=>none
 | n+1,s=>T97 Ops.std c92 c93 p0 (R97 c92 c93 p0 n) some (some s)
theorem rr97 {R:Type} (c92:C92) (c93:C93) (p0:LB) (k:AV→Objs→Option R):∀ (n:Nat) (s:S97),A97 Ops.std c92 c93 p0 k s n=ob (R97 c92 c93 p0 n s) (K12 k)
 | 0,s=>by cases s<;>rfl
 | n+1,s=>by rw [el97];exact nt97 Ops.std c92 c93 p0 _ _ some (K12 k) (rr97 c92 c93 p0 k n) (some s)
def F97 (c92:C92) (c93:C93) (p0:LB):Option (Int×Int):=T97 Ops.std c92 c93 p0 (R97 c92 c93 p0 1000000) some none
abbrev C97:Type:=LB→Option (Int×Int)
def e97 {R:Type} (c:C97):Ent R:=eG [.aC .cS] [] fun v k=>ob (c v.1) (K12 k)
abbrev Sp97 (c:C97):Prop:=∀ (p0:LB) (y:Int×Int),c p0=some y→Spec Tryd.prog gl0 97 [.c (.str p0)] [] (.tup [(false,[.int .i64 y.1]),(false,[.int .i64 y.2])]) []
theorem ek97 {R:Type} {c:C97} (hs:Sp97 c):EOk 97 (e97 (R:=R) c):=qan fun v=>hs v.1
theorem sf97 {c92:C92} {c93:C93} (h92:Sp92 c92) (h93:Sp93 c93):Sp97 (F97 c92 c93):=fun p0 y hy=>by
 refine qae (qab (ek92 h92) (qab (ek93 h93) qad)) 1000000 (fn:=Tryd.f97) (by kernel_rfl) (by kernel_rfl) (X:=X97) (by kernel_rfl) ?_
 rw [eq97]
 exact (nt97 Ops.std c92 c93 p0 _ _ some (K12 k0) (rr97 c92 c93 p0 k0 1000000) none).trans (by show ob (F97 c92 c93 p0) _=_;rw [hy];rfl)
noncomputable def M97:C97:=F97 M92 M93
theorem sm97:Sp97 M97:=sf97 sm92 sm93
abbrev C122:Type:=L85→Int→L56→Option (Bool×L85×Int×L56)
def e122 {R:Type} (c:C122):Ent R:=eG [.aC (.cP 0)] [.oB 0 101 [.cL 85 ty85,.cI .i64,.cO 1002],.oR 1002 56 ty56] fun v k=>ob (c v.1 v.2.1 v.2.2.1) (K8 k)
abbrev Sp122 (c:C122):Prop:=∀ (p0:L85) (p1:Int) (p2:L56) (y:Bool×L85×Int×L56),c p0 p1 p2=some y→Spec Tryd.prog gl0 122 [.c (.ptr 0 0)] [(0,.box 101 [.list 85 ty85 p0,.int .i64 p1,.own 1002]),(1002,.row 56 ty56 p2)] (.c (.bool y.1)) [(0,.box 101 [.list 85 ty85 y.2.1,.int .i64 y.2.2.1,.own 1002]),(1002,.row 56 ty56 y.2.2.2)]
theorem ek122 {R:Type} {c:C122} (hs:Sp122 c):EOk 122 (e122 (R:=R) c):=qan fun v=>hs v.1 v.2.1 v.2.2.1
abbrev C96:Type:=L85→Int→L56→Option (Bool×L85×Int×L56)
def e96 {R:Type} (c:C96):Ent R:=eG [.aC (.cP 0)] [.oB 0 101 [.cL 85 ty85,.cI .i64,.cO 1002],.oR 1002 56 ty56] fun v k=>ob (c v.1 v.2.1 v.2.2.1) (K8 k)
abbrev Sp96 (c:C96):Prop:=∀ (p0:L85) (p1:Int) (p2:L56) (y:Bool×L85×Int×L56),c p0 p1 p2=some y→Spec Tryd.prog gl0 96 [.c (.ptr 0 0)] [(0,.box 101 [.list 85 ty85 p0,.int .i64 p1,.own 1002]),(1002,.row 56 ty56 p2)] (.c (.bool y.1)) [(0,.box 101 [.list 85 ty85 y.2.1,.int .i64 y.2.2.1,.own 1002]),(1002,.row 56 ty56 y.2.2.2)]
theorem ek96 {R:Type} {c:C96} (hs:Sp96 c):EOk 96 (e96 (R:=R) c):=qan fun v=>hs v.1 v.2.1 v.2.2.1
abbrev C63:Type:=Int→L85→Int→L56→Option (Bool×L85×Int×L56)
def e63 {R:Type} (c:C63):Ent R:=eG [.aC (.cP 0),.aC (.cI .i64)] [.oB 0 101 [.cL 85 ty85,.cI .i64,.cO 1002],.oR 1002 56 ty56] fun v k=>ob (c v.1 v.2.1 v.2.2.1 v.2.2.2.1) (K8 k)
abbrev Sp63 (c:C63):Prop:=∀ (p0:Int) (p1:L85) (p2:Int) (p3:L56) (y:Bool×L85×Int×L56),c p0 p1 p2 p3=some y→Spec Tryd.prog gl0 63 [.c (.ptr 0 0),.c (.int .i64 p0)] [(0,.box 101 [.list 85 ty85 p1,.int .i64 p2,.own 1002]),(1002,.row 56 ty56 p3)] (.c (.bool y.1)) [(0,.box 101 [.list 85 ty85 y.2.1,.int .i64 y.2.2.1,.own 1002]),(1002,.row 56 ty56 y.2.2.2)]
theorem ek63 {R:Type} {c:C63} (hs:Sp63 c):EOk 63 (e63 (R:=R) c):=qan fun v=>hs v.1 v.2.1 v.2.2.1 v.2.2.2.1
def X63:Aux:=⟨[(5,(rg 2 48))],[]⟩
inductive S63 where
 | l0 (v1:L85) (v2:Int) (v3:L56)
def T63 {R:Type} (B:Ops) (c96:C96) (c63:C63) (c98:C98) (c97:C97) (p0:Int) (p1:L85) (p2:Int) (p3:L56) (again:S63→Option R) (k:(Bool×L85×Int×L56)→Option R):Option S63→Option R | none=>cond (B.eq p0 5) (ob (c96 p1 p2 p3) fun y0=>k (y0.1,y0.2.1,y0.2.2.1,y0.2.2.2)) (ob (c63 (IntKind.wrap .i64 (p0+1)) p1 p2 p3) fun y0=>cond (!y0.1) (k (false,y0.2.1,y0.2.2.1,y0.2.2.2)) (again (.l0 y0.2.1 y0.2.2.1 y0.2.2.2))) | some (.l0 v1 v2 v3)=>ob (c98 v1 v2 v3) fun y0=>ob (c97 y0.1) fun y1=>cond (!B.eq y1.2 p0) (k (true,y0.2.1,y0.2.2.1,y0.2.2.2)) (ob (c63 (IntKind.wrap .i64 (p0+1)) y0.2.1 (IntKind.wrap .i64 (y0.2.2.1+1)) y0.2.2.2) fun y2=>cond (!y2.1) (k (false,y2.2.1,y2.2.2.1,y2.2.2.2)) (cond (B.lim (List.length (y2.2.2.2)+List.length ((y1.1,0,mt UInt8,mt UInt8)::mt (Ty.den ty56))) 48) (cond (B.eq p0 2) (k ((true,y2.2.1,y2.2.2.1,y2.2.2.2++(y1.1,0,mt UInt8,mt UInt8)::mt (Ty.den ty56)))) (again (.l0 y2.2.1 y2.2.2.1 (y2.2.2.2++(y1.1,0,mt UInt8,mt UInt8)::mt (Ty.den ty56))))) none))
def E63 (p0:Int) (p1:L85) (p2:Int) (p3:L56):S63→List AV×Objs
 | .l0 v1 v2 v3=>(mk 50 [(0,.c (.ptr 0 0)),(1,.c (.int .i64 p0))],[(0,.box 101 [.list 85 ty85 v1,.int .i64 v2,.own 1002]),(1002,.row 56 ty56 v3)])
def I63:S63→Nat
 | .l0 _ _ _=>0
noncomputable abbrev A63 {R:Type} (B:Ops) (c96:C96) (c63:C63) (c98:C98) (c97:C97) (p0:Int) (p1:L85) (p2:Int) (p3:L56) (k:AV→Objs→Option R) (s:S63) (n:Nat):Option R:=aloop tau B gl0 X63 (ent 96 (e96 c96) (ent 63 (e63 c63) (ent 98 (e98 c98) (ent 97 (e97 c97) gnil)))) ow [0] Tryd.f63 k (I63 s) (E63 p0 p1 p2 p3 s) n
theorem eq63 {R:Type} (B:Ops) (c96:C96) (c63:C63) (c98:C98) (c97:C97) (p0:Int) (p1:L85) (p2:Int) (p3:L56) (k:AV→Objs→Option R) (n:Nat):afun tau B gl0 X63 (ent 96 (e96 c96) (ent 63 (e63 c63) (ent 98 (e98 c98) (ent 97 (e97 c97) gnil)))) ow Tryd.f63 [.c (.ptr 0 0),.c (.int .i64 p0)] [(0,.box 101 [.list 85 ty85 p1,.int .i64 p2,.own 1002]),(1002,.row 56 ty56 p3)] k n=T63 B c96 c63 c98 c97 p0 p1 p2 p3 (fun s=>A63 B c96 c63 c98 c97 p0 p1 p2 p3 k s n) (K8 k) none:=by kernel_rfl
theorem el63 {R:Type} (B:Ops) (c96:C96) (c63:C63) (c98:C98) (c97:C97) (p0:Int) (p1:L85) (p2:Int) (p3:L56) (k:AV→Objs→Option R) (n:Nat):∀ s,A63 B c96 c63 c98 c97 p0 p1 p2 p3 k s (n+1)=T63 B c96 c63 c98 c97 p0 p1 p2 p3 (fun s=>A63 B c96 c63 c98 c97 p0 p1 p2 p3 k s n) (K8 k) (some s):=by
 intro s
 cases s<;>kernel_rfl
theorem nt63 {R R':Type} (B:Ops) (c96:C96) (c63:C63) (c98:C98) (c97:C97) (p0:Int) (p1:L85) (p2:Int) (p3:L56) (again:S63→Option R) (again':S63→Option R') (k0:(Bool×L85×Int×L56)→Option R') (k:R'→Option R) (h:∀ s,again s=ob (again' s) k):∀ s,T63 B c96 c63 c98 c97 p0 p1 p2 p3 again (fun y=>ob (k0 y) k) s=ob (T63 B c96 c63 c98 c97 p0 p1 p2 p3 again' k0 s) k:=by
 rintro (_ | x)
 all_goals try cases x
 all_goals (unfold T63;repeat' first | exact rfl | exact h _ | apply qac | (apply qai;intro))
def R63 (c96:C96) (c63:C63) (c98:C98) (c97:C97) (p0:Int) (p1:L85) (p2:Int) (p3:L56):Nat→S63→Option (Bool×L85×Int×L56)
 | 0,_=>none
 | n+1,s=>T63 Ops.std c96 c63 c98 c97 p0 p1 p2 p3 (R63 c96 c63 c98 c97 p0 p1 p2 p3 n) some (some s)
theorem rr63 {R:Type} (c96:C96) (c63:C63) (c98:C98) (c97:C97) (p0:Int) (p1:L85) (p2:Int) (p3:L56) (k:AV→Objs→Option R):∀ (n:Nat) (s:S63),A63 Ops.std c96 c63 c98 c97 p0 p1 p2 p3 k s n=ob (R63 c96 c63 c98 c97 p0 p1 p2 p3 n s) (K8 k)
 | 0,s=>by cases s<;>rfl
 | n+1,s=>by rw [el63];exact nt63 Ops.std c96 c63 c98 c97 p0 p1 p2 p3 _ _ some (K8 k) (rr63 c96 c63 c98 c97 p0 p1 p2 p3 k n) (some s)
def F63 (c96:C96) (c63:C63) (c98:C98) (c97:C97) (p0:Int) (p1:L85) (p2:Int) (p3:L56):Option (Bool×L85×Int×L56):=T63 Ops.std c96 c63 c98 c97 p0 p1 p2 p3 (R63 c96 c63 c98 c97 p0 p1 p2 p3 1000000) some none
theorem sf63 {c96:C96} {c63:C63} {c98:C98} {c97:C97} (h96:Sp96 c96) (h63:Sp63 c63) (h98:Sp98 c98) (h97:Sp97 c97):Sp63 (F63 c96 c63 c98 c97):=fun p0 p1 p2 p3 y hy=>by
 refine qae (qab (ek96 h96) (qab (ek63 h63) (qab (ek98 h98) (qab (ek97 h97) qad)))) 1000000 (fn:=Tryd.f63) (by kernel_rfl) (by kernel_rfl) (X:=X63) (by kernel_rfl) ?_
 rw [eq63]
 exact (nt63 Ops.std c96 c63 c98 c97 p0 p1 p2 p3 _ _ some (K8 k0) (rr63 c96 c63 c98 c97 p0 p1 p2 p3 k0 1000000) none).trans (by show ob (F63 c96 c63 c98 c97 p0 p1 p2 p3) _=_;rw [hy];rfl)
def X96:Aux:=⟨[(3,([0,2]++rg 4 39)),(3000012,([0]++rg 2 27++rg 30 13))],[(12,.lin (rg 0 12))]⟩
inductive S96 where
 | l0 (v0:L85) (v1:Int) (v2:L3) (v3:L56)
 | l1012 (v0:Int) (v1:L85) (v2:Int) (v3:L56) (v4:L3)
def T96 {R:Type} (B:Ops) (c98:C98) (c122:C122) (c123:C123) (p0:L85) (p1:Int) (p2:L56) (again:S96→Option R) (k:(Bool×L85×Int×L56)→Option R):Option S96→Option R | none=>again (.l0 p0 p1 (mt (Ty.den (Ty.int .i64))) p2) | some (.l0 v0 v1 v2 v3)=>ob (c98 v0 v1 v3) fun y0=>cond (y0.1 == ([33]:LB)) (cond (B.lim (List.length v2+List.length (4::mt (Ty.den (Ty.int .i64)))) 8) (again (.l0 y0.2.1 (IntKind.wrap .i64 (y0.2.2.1+1)) (v2++4::mt (Ty.den (Ty.int .i64))) y0.2.2.2)) none) (cond (y0.1 == ([45]:LB)) (cond (B.lim (List.length v2+List.length (5::mt (Ty.den (Ty.int .i64)))) 8) (again (.l0 y0.2.1 (IntKind.wrap .i64 (y0.2.2.1+1)) (v2++5::mt (Ty.den (Ty.int .i64))) y0.2.2.2)) none) (ob (c122 y0.2.1 y0.2.2.1 y0.2.2.2) fun y1=>cond (!y1.1) (k (false,y1.2.1,y1.2.2.1,y1.2.2.2)) (ob (c123 v2) fun y2=>again (.l1012 (Nat.cast y2.length-1) y1.2.1 y1.2.2.1 y1.2.2.2 y2)))) | some (.l1012 v0 v1 v2 v3 v4)=>cond (B.lt v0 0) (k (true,v1,v2,v3)) (cond (B.lt v0 (↑v4.length)) (cond (B.lim (List.length v3+List.length ((v4.getD v0.toNat 0,0,mt UInt8,mt UInt8)::mt (Ty.den ty56))) 48) (again (.l1012 (v0-1) v1 v2 (v3++(v4.getD v0.toNat 0,0,mt UInt8,mt UInt8)::mt (Ty.den ty56)) v4)) none) none)
def E96 (p0:L85) (p1:Int) (p2:L56):S96→List AV×Objs
 | .l0 v0 v1 v2 v3=>(mk 43 [(1,.c (.ptr 1 0)),(3,.c (.own 3))],[(0,.box 101 [.list 85 ty85 v0,.int .i64 v1,.own 1002]),(1,.box 99 [.ptr 0 0]),(3,.row 3 ty3 v2),(1002,.row 56 ty56 v3)])
 | .l1012 v0 v1 v2 v3 v4=>(mk 43 [(1,.c (.ptr 1 0)),(29,.fn 136 [.ptr 30500 0]),(30,.c (.int .i64 v0))],[(0,.box 101 [.list 85 ty85 v1,.int .i64 v2,.own 1002]),(1,.box 99 [.ptr 0 0]),(1002,.row 56 ty56 v3),(30500,.box 22 [.list 3 ty3 v4])])
def I96:S96→Nat
 | .l0 _ _ _ _=>0
 | .l1012 _ _ _ _ _=>1012
noncomputable abbrev A96 {R:Type} (B:Ops) (c98:C98) (c122:C122) (c123:C123) (p0:L85) (p1:Int) (p2:L56) (k:AV→Objs→Option R) (s:S96) (n:Nat):Option R:=aloop tau B gl0 X96 (ent 98 (e98 c98) (ent 122 (e122 c122) (ent 123 (e123 c123) gnil))) ow [0] Tryd.f96 k (I96 s) (E96 p0 p1 p2 s) n
theorem eq96 {R:Type} (B:Ops) (c98:C98) (c122:C122) (c123:C123) (p0:L85) (p1:Int) (p2:L56) (k:AV→Objs→Option R) (n:Nat):afun tau B gl0 X96 (ent 98 (e98 c98) (ent 122 (e122 c122) (ent 123 (e123 c123) gnil))) ow Tryd.f96 [.c (.ptr 0 0)] [(0,.box 101 [.list 85 ty85 p0,.int .i64 p1,.own 1002]),(1002,.row 56 ty56 p2)] k n=T96 B c98 c122 c123 p0 p1 p2 (fun s=>A96 B c98 c122 c123 p0 p1 p2 k s n) (K8 k) none:=by kernel_rfl
theorem el96 {R:Type} (B:Ops) (c98:C98) (c122:C122) (c123:C123) (p0:L85) (p1:Int) (p2:L56) (k:AV→Objs→Option R) (n:Nat):∀ s,A96 B c98 c122 c123 p0 p1 p2 k s (n+1)=T96 B c98 c122 c123 p0 p1 p2 (fun s=>A96 B c98 c122 c123 p0 p1 p2 k s n) (K8 k) (some s):=by
 intro s
 cases s<;>kernel_rfl
theorem nt96 {R R':Type} (B:Ops) (c98:C98) (c122:C122) (c123:C123) (p0:L85) (p1:Int) (p2:L56) (again:S96→Option R) (again':S96→Option R') (k0:(Bool×L85×Int×L56)→Option R') (k:R'→Option R) (h:∀ s,again s=ob (again' s) k):∀ s,T96 B c98 c122 c123 p0 p1 p2 again (fun y=>ob (k0 y) k) s=ob (T96 B c98 c122 c123 p0 p1 p2 again' k0 s) k:=by
 rintro (_ | x)
 all_goals try cases x
 all_goals (unfold T96;repeat' first | exact rfl | exact h _ | apply qac | (apply qai;intro))
def R96 (c98:C98) (c122:C122) (c123:C123) (p0:L85) (p1:Int) (p2:L56):Nat→S96→Option (Bool×L85×Int×L56)
 | 0,_=>none
 | n+1,s=>T96 Ops.std c98 c122 c123 p0 p1 p2 (R96 c98 c122 c123 p0 p1 p2 n) some (some s)
theorem rr96 {R:Type} (c98:C98) (c122:C122) (c123:C123) (p0:L85) (p1:Int) (p2:L56) (k:AV→Objs→Option R):∀ (n:Nat) (s:S96),A96 Ops.std c98 c122 c123 p0 p1 p2 k s n=ob (R96 c98 c122 c123 p0 p1 p2 n s) (K8 k)
 | 0,s=>by cases s<;>rfl
 | n+1,s=>by rw [el96];exact nt96 Ops.std c98 c122 c123 p0 p1 p2 _ _ some (K8 k) (rr96 c98 c122 c123 p0 p1 p2 k n) (some s)
def F96 (c98:C98) (c122:C122) (c123:C123) (p0:L85) (p1:Int) (p2:L56):Option (Bool×L85×Int×L56):=T96 Ops.std c98 c122 c123 p0 p1 p2 (R96 c98 c122 c123 p0 p1 p2 1000000) some none
theorem sf96 {c98:C98} {c122:C122} {c123:C123} (h98:Sp98 c98) (h122:Sp122 c122) (h123:Sp123 c123):Sp96 (F96 c98 c122 c123):=fun p0 p1 p2 y hy=>by
 refine qae (qab (ek98 h98) (qab (ek122 h122) (qab (ek123 h123) qad))) 1000000 (fn:=Tryd.f96) (by kernel_rfl) (by kernel_rfl) (X:=X96) (by kernel_rfl) ?_
 rw [eq96]
 exact (nt96 Ops.std c98 c122 c123 p0 p1 p2 _ _ some (K8 k0) (rr96 c98 c122 c123 p0 p1 p2 k0 1000000) none).trans (by show ob (F96 c98 c122 c123 p0 p1 p2) _=_;rw [hy];rfl)
def X122:Aux:=⟨[],[(1,.lin (rg 0 12)),(3,.lin (rg 0 13))]⟩
def T122 {R:Type} (B:Ops) (c135:C135) (c98:C98) (c63:C63) (p0:L85) (p1:Int) (p2:L56) (k:(Bool×L85×Int×L56)→Option R):Option R:=cond (B.inb p1 p0.length) (cond (B.eq (p0.getD p1.toNat ty85.dflt).1 1) (cond (B.lim (List.length p2+List.length ((1,(((p0.getD p1.toNat ty85.dflt).2).2).1,mt UInt8,mt UInt8)::mt (Ty.den ty56))) 48) (k ((true,p0,IntKind.wrap .i64 (p1+1),p2++(1,(((p0.getD p1.toNat ty85.dflt).2).2).1,mt UInt8,mt UInt8)::mt (Ty.den ty56)))) none) (cond (B.eq (p0.getD p1.toNat ty85.dflt).1 2) (ob (c135 p0 p1 p2) fun y0=>k (y0.1,y0.2.1,y0.2.2.1,y0.2.2.2)) (ob (c98 p0 p1 p2) fun y0=>cond (!y0.1 == ([40]:LB)) (k (false,y0.2.1,y0.2.2.1,y0.2.2.2)) (ob (c63 0 y0.2.1 (IntKind.wrap .i64 (y0.2.2.1+1)) y0.2.2.2) fun y1=>cond (!y1.1) (k (false,y1.2.1,y1.2.2.1,y1.2.2.2)) (ob (c98 y1.2.1 y1.2.2.1 y1.2.2.2) fun y2=>cond (!y2.1 == ([41]:LB)) (k (false,y2.2.1,y2.2.2.1,y2.2.2.2)) (k ((true,y2.2.1,IntKind.wrap .i64 (y2.2.2.1+1),y2.2.2.2)))))))) none
theorem eq122 {R:Type} (B:Ops) (c135:C135) (c98:C98) (c63:C63) (p0:L85) (p1:Int) (p2:L56) (k:AV→Objs→Option R) (n:Nat):afun tau B gl0 X122 (ent 135 (e135 c135) (ent 98 (e98 c98) (ent 63 (e63 c63) gnil))) ow Tryd.f122 [.c (.ptr 0 0)] [(0,.box 101 [.list 85 ty85 p0,.int .i64 p1,.own 1002]),(1002,.row 56 ty56 p2)] k n=T122 B c135 c98 c63 p0 p1 p2 (K8 k):=by kernel_rfl
theorem nt122 {R R':Type} (B:Ops) (c135:C135) (c98:C98) (c63:C63) (p0:L85) (p1:Int) (p2:L56) (k0:(Bool×L85×Int×L56)→Option R') (k:R'→Option R):T122 B c135 c98 c63 p0 p1 p2 (fun y=>ob (k0 y) k)=ob (T122 B c135 c98 c63 p0 p1 p2 k0) k:=by
 unfold T122
 repeat' first | exact rfl | apply qac | (apply qai;intro)
def F122 (c135:C135) (c98:C98) (c63:C63) (p0:L85) (p1:Int) (p2:L56):Option (Bool×L85×Int×L56):=T122 Ops.std c135 c98 c63 p0 p1 p2 some
theorem sf122 {c135:C135} {c98:C98} {c63:C63} (h135:Sp135 c135) (h98:Sp98 c98) (h63:Sp63 c63):Sp122 (F122 c135 c98 c63):=fun p0 p1 p2 y hy=>by
 refine qae (qab (ek135 h135) (qab (ek98 h98) (qab (ek63 h63) qad))) 1000000 (fn:=Tryd.f122) (by kernel_rfl) (by kernel_rfl) (X:=X122) (by kernel_rfl) ?_
 rw [eq122]
 exact (nt122 Ops.std c135 c98 c63 p0 p1 p2 some (K8 k0)).trans (by show ob (F122 c135 c98 c63 p0 p1 p2) _=_;rw [hy];rfl)
noncomputable def Rec63:Nat→(Int→L85→Int→L56→Option (Bool×L85×Int×L56))×(L85→Int→L56→Option (Bool×L85×Int×L56))×(L85→Int→L56→Option (Bool×L85×Int×L56))
 | 0=>(fun _ _ _ _=>none,fun _ _ _=>none,fun _ _ _=>none)
 | d+1=>(F63 (Rec63 d).2.1 (Rec63 d).1 M98 M97,F96 M98 (Rec63 d).2.2 M123,F122 M135 M98 (Rec63 d).1)
theorem rec63:∀ d,Sp63 (Rec63 d).1∧Sp96 (Rec63 d).2.1∧Sp122 (Rec63 d).2.2
 | 0=>⟨(fun p0 p1 p2 p3 y (h:(none:Option (Bool×L85×Int×L56))=some y)=>by cases h),(fun p0 p1 p2 y (h:(none:Option (Bool×L85×Int×L56))=some y)=>by cases h),(fun p0 p1 p2 y (h:(none:Option (Bool×L85×Int×L56))=some y)=>by cases h)⟩
 | d+1=>⟨sf63 (rec63 d).2.1 (rec63 d).1 sm98 sm97,sf96 sm98 (rec63 d).2.2 sm123,sf122 sm135 sm98 (rec63 d).1⟩
noncomputable def M63:C63:=(Rec63 1000000).1
theorem sm63:Sp63 M63:=(rec63 1000000).1
def X25:Aux:=⟨[],[(5,.lin [0,1,2,3,4,5,6]),(8,.lin (rg 0 11))]⟩
def T25 {R:Type} (B:Ops) (c62:C62) (c63:C63) (p0:L85) (p1:Int) (k:(Int×Int×L56)→Option R):Option R:=ob (c62 p0 p1) fun y0=>cond (!y0) (k ((p1,2,mt (Ty.den ty56)))) (ob (c63 0 p0 p1 (mt (Ty.den ty56))) fun y1=>cond (!y1.1) (k ((y1.2.2.1,2,mt (Ty.den ty56)))) (cond (B.lt 30 (Nat.cast (List.length y1.2.2.2))) (k ((p1,13,mt (Ty.den ty56)))) (k (y1.2.2.1,0,y1.2.2.2))))
abbrev K13 {R:Type} (k:AV→Objs→Option R) (y:(Int×Int×L56)):Option R:=k (.tup [(false,[.own 501000]),(false,[.int .i64 y.1]),(false,[.int .i64 y.2.1])]) [(501000,.row 56 ty56 y.2.2)]
theorem eq25 {R:Type} (B:Ops) (c62:C62) (c63:C63) (p0:L85) (p1:Int) (k:AV→Objs→Option R) (n:Nat):afun tau B gl0 X25 (ent 62 (e62 c62) (ent 63 (e63 c63) gnil)) ow Tryd.f25 [.c (.list 85 ty85 p0),.c (.int .i64 p1)] [] k n=T25 B c62 c63 p0 p1 (K13 k):=by kernel_rfl
theorem nt25 {R R':Type} (B:Ops) (c62:C62) (c63:C63) (p0:L85) (p1:Int) (k0:(Int×Int×L56)→Option R') (k:R'→Option R):T25 B c62 c63 p0 p1 (fun y=>ob (k0 y) k)=ob (T25 B c62 c63 p0 p1 k0) k:=by
 unfold T25
 repeat' first | exact rfl | apply qac | (apply qai;intro)
def F25 (c62:C62) (c63:C63) (p0:L85) (p1:Int):Option (Int×Int×L56):=T25 Ops.std c62 c63 p0 p1 some
abbrev C25:Type:=L85→Int→Option (Int×Int×L56)
def e25 {R:Type} (c:C25):Ent R:=eG [.aC (.cL 85 ty85),.aC (.cI .i64)] [] fun v k=>ob (c v.1 v.2.1) (K13 k)
abbrev Sp25 (c:C25):Prop:=∀ (p0:L85) (p1:Int) (y:Int×Int×L56),c p0 p1=some y→Spec Tryd.prog gl0 25 [.c (.list 85 ty85 p0),.c (.int .i64 p1)] [] (.tup [(false,[.own 501000]),(false,[.int .i64 y.1]),(false,[.int .i64 y.2.1])]) [(501000,.row 56 ty56 y.2.2)]
theorem ek25 {R:Type} {c:C25} (hs:Sp25 c):EOk 25 (e25 (R:=R) c):=qan fun v=>hs v.1 v.2.1
theorem sf25 {c62:C62} {c63:C63} (h62:Sp62 c62) (h63:Sp63 c63):Sp25 (F25 c62 c63):=fun p0 p1 y hy=>by
 refine qae (qab (ek62 h62) (qab (ek63 h63) qad)) 1000000 (fn:=Tryd.f25) (by kernel_rfl) (by kernel_rfl) (X:=X25) (by kernel_rfl) ?_
 rw [eq25]
 exact (nt25 Ops.std c62 c63 p0 p1 some (K13 k0)).trans (by show ob (F25 c62 c63 p0 p1) _=_;rw [hy];rfl)
noncomputable def M25:C25:=F25 M62 M63
theorem sm25:Sp25 M25:=sf25 sm62 sm63
def X50:Aux:=⟨[],[]⟩
def T50 {R:Type} (B:Ops) (p0:Int) (k:(Int)→Option R):Option R:=cond (B.lt p0 1) (k (-1)) (cond (B.lt 16 p0) (k (-1)) (cond (B.le p0 3) (k 0) (cond (B.le p0 5) (k 1) (k 2))))
theorem eq50 {R:Type} (B:Ops) (p0:Int) (k:AV→Objs→Option R) (n:Nat):afun tau B gl0 X50 gnil ow Tryd.f50 [.c (.int .i64 p0)] [] k n=T50 B p0 (K1 k):=by kernel_rfl
theorem nt50 {R R':Type} (B:Ops) (p0:Int) (k0:(Int)→Option R') (k:R'→Option R):T50 B p0 (fun y=>ob (k0 y) k)=ob (T50 B p0 k0) k:=by
 unfold T50
 repeat' first | exact rfl | apply qac | (apply qai;intro)
def F50 (p0:Int):Option (Int):=T50 Ops.std p0 some
abbrev C50:Type:=Int→Option (Int)
def e50 {R:Type} (c:C50):Ent R:=eG [.aC (.cI .i64)] [] fun v k=>ob (c v.1) (K1 k)
abbrev Sp50 (c:C50):Prop:=∀ (p0 y:Int),c p0=some y→Spec Tryd.prog gl0 50 [.c (.int .i64 p0)] [] (.c (.int .i64 y)) []
theorem ek50 {R:Type} {c:C50} (hs:Sp50 c):EOk 50 (e50 (R:=R) c):=qan fun v=>hs v.1
theorem sf50:Sp50 (F50):=fun p0 y hy=>by
 refine qae qad 1000000 (fn:=Tryd.f50) (by kernel_rfl) (by kernel_rfl) (X:=X50) (by kernel_rfl) ?_
 rw [eq50]
 exact (nt50 Ops.std p0 some (K1 k0)).trans (by show ob (F50 p0) _=_;rw [hy];rfl)
noncomputable def M50:C50:=F50
theorem sm50:Sp50 M50:=sf50
def X95:Aux:=⟨[],[]⟩
def T95 {R:Type} (B:Ops) (c105:C105) (c103:C103) (c178:C178) (c106:C106) (p0:LB) (k:(Bool)→Option R):Option R:=cond (!p0 == mt UInt8) (cond (B.le (↑p0.length) 8) (cond (B.inb 0 p0.length) (ob (c105 (Nat.cast (UInt8.toNat (p0.getD (Int.toNat 0) 0)))) fun y0=>cond (y0) (ob (c103 p0) fun y1=>k (y1 == p0)) (k false)) none) (k false)) (k false)
theorem eq95 {R:Type} (B:Ops) (c105:C105) (c103:C103) (c178:C178) (c106:C106) (p0:LB) (k:AV→Objs→Option R) (n:Nat):afun tau B gl0 X95 (ent 105 (e105 c105) (ent 103 (eAlt 1 106 (e103 c103) (e178 c178)) (ent 106 (e106 c106) gnil))) ow Tryd.f95 [.c (.str p0)] [] k n=T95 B c105 c103 c178 c106 p0 (K2 k):=by kernel_rfl
theorem nt95 {R R':Type} (B:Ops) (c105:C105) (c103:C103) (c178:C178) (c106:C106) (p0:LB) (k0:(Bool)→Option R') (k:R'→Option R):T95 B c105 c103 c178 c106 p0 (fun y=>ob (k0 y) k)=ob (T95 B c105 c103 c178 c106 p0 k0) k:=by
 unfold T95
 repeat' first | exact rfl | apply qac | (apply qai;intro)
def F95 (c105:C105) (c103:C103) (c178:C178) (c106:C106) (p0:LB):Option (Bool):=T95 Ops.std c105 c103 c178 c106 p0 some
abbrev C95:Type:=LB→Option (Bool)
def e95 {R:Type} (c:C95):Ent R:=eG [.aC .cS] [] fun v k=>ob (c v.1) (K2 k)
abbrev Sp95 (c:C95):Prop:=∀ (p0:LB) (y:Bool),c p0=some y→Spec Tryd.prog gl0 95 [.c (.str p0)] [] (.c (.bool y)) []
theorem ek95 {R:Type} {c:C95} (hs:Sp95 c):EOk 95 (e95 (R:=R) c):=qan fun v=>hs v.1
theorem sf95 {c105:C105} {c103:C103} {c178:C178} {c106:C106} (h105:Sp105 c105) (h103:Sp103 c103) (h178:Sp178 c178) (h106:Sp106 c106):Sp95 (F95 c105 c103 c178 c106):=fun p0 y hy=>by
 refine qae (G:=ent 105 (e105 c105) (ent 103 (eAlt 1 106 (e103 c103) (e178 c178)) (ent 106 (e106 c106) gnil))) (qab (ek105 h105) (qab (eAlt_ok (ek103 h103) (ek178 h178)) (qab (ek106 h106) qad))) 1000000 (fn:=Tryd.f95) (by kernel_rfl) (by kernel_rfl) (X:=X95) (by kernel_rfl) ?_
 rw [eq95]
 exact (nt95 Ops.std c105 c103 c178 c106 p0 some (K2 k0)).trans (by show ob (F95 c105 c103 c178 c106 p0) _=_;rw [hy];rfl)
noncomputable def M95:C95:=F95 M105 M103 M178 M106
theorem sm95:Sp95 M95:=sf95 sm105 sm103 sm178 sm106
def X58:Aux:=⟨[],[]⟩
def T58 {R:Type} (B:Ops) (c95:C95) (c50:C50) (p0 p1:Int) (p2 p3:LB) (k:(Bool)→Option R):Option R:=cond (B.eq p0 1) (cond (B.le 0 p1) (cond (B.le p1 999) (cond (p2 == mt UInt8) (k (p3 == mt UInt8)) (k false)) (k false)) (k false)) (cond (B.eq p0 2) (cond (B.eq p1 0) (ob (c95 p2) fun y0=>cond (y0) (k (p3 == mt UInt8)) (k false)) (k false)) (cond (B.eq p0 3) (cond (B.eq p1 0) (ob (c95 p2) fun y0=>cond (y0) (ob (c95 p3) fun y1=>k y1) (k false)) (k false)) (ob (c50 p0) fun y0=>cond (B.lt 0 y0) (cond (B.eq p1 0) (cond (p2 == mt UInt8) (k (p3 == mt UInt8)) (k false)) (k false)) (k false))))
theorem eq58 {R:Type} (B:Ops) (c95:C95) (c50:C50) (p0 p1:Int) (p2 p3:LB) (k:AV→Objs→Option R) (n:Nat):afun tau B gl0 X58 (ent 95 (e95 c95) (ent 50 (e50 c50) gnil)) ow Tryd.f58 [.agg [.int .i64 p0,.int .i64 p1,.str p2,.str p3]] [] k n=T58 B c95 c50 p0 p1 p2 p3 (K2 k):=by kernel_rfl
theorem nt58 {R R':Type} (B:Ops) (c95:C95) (c50:C50) (p0 p1:Int) (p2 p3:LB) (k0:(Bool)→Option R') (k:R'→Option R):T58 B c95 c50 p0 p1 p2 p3 (fun y=>ob (k0 y) k)=ob (T58 B c95 c50 p0 p1 p2 p3 k0) k:=by
 unfold T58
 repeat' first | exact rfl | apply qac | (apply qai;intro)
def F58 (c95:C95) (c50:C50) (p0 p1:Int) (p2 p3:LB):Option (Bool):=T58 Ops.std c95 c50 p0 p1 p2 p3 some
abbrev C58:Type:=Int→Int→LB→LB→Option (Bool)
def e58 {R:Type} (c:C58):Ent R:=eG [.aG [.cI .i64,.cI .i64,.cS,.cS]] [] fun v k=>ob (c v.1 v.2.1 v.2.2.1 v.2.2.2.1) (K2 k)
abbrev Sp58 (c:C58):Prop:=∀ (p0 p1:Int) (p2 p3:LB) (y:Bool),c p0 p1 p2 p3=some y→Spec Tryd.prog gl0 58 [.agg [.int .i64 p0,.int .i64 p1,.str p2,.str p3]] [] (.c (.bool y)) []
theorem ek58 {R:Type} {c:C58} (hs:Sp58 c):EOk 58 (e58 (R:=R) c):=qan fun v=>hs v.1 v.2.1 v.2.2.1 v.2.2.2.1
theorem sf58 {c95:C95} {c50:C50} (h95:Sp95 c95) (h50:Sp50 c50):Sp58 (F58 c95 c50):=fun p0 p1 p2 p3 y hy=>by
 refine qae (qab (ek95 h95) (qab (ek50 h50) qad)) 1000000 (fn:=Tryd.f58) (by kernel_rfl) (by kernel_rfl) (X:=X58) (by kernel_rfl) ?_
 rw [eq58]
 exact (nt58 Ops.std c95 c50 p0 p1 p2 p3 some (K2 k0)).trans (by show ob (F58 c95 c50 p0 p1 p2 p3) _=_;rw [hy];rfl)
noncomputable def M58:C58:=F58 M95 M50
theorem sm58:Sp58 M58:=sf58 sm95 sm50
def X22:Aux:=⟨[(3,([1,2,4,5,6]++rg 10 26))],[]⟩
inductive S22 where
 | l0 (v1 v3 v4:Int)
def T22 {R:Type} (B:Ops) (c50:C50) (c58:C58) (p0:L56) (again:S22→Option R) (k:(Bool)→Option R):Option S22→Option R | none=>again (.l0 0 (↑p0.length) 0) | some (.l0 v1 v3 v4)=>cond (B.lt v4 v3) (cond (B.inb v4 p0.length) (ob (c50 (p0.getD v4.toNat ty56.dflt).1) fun y0=>ob (c58 (p0.getD v4.toNat ty56.dflt).1 ((p0.getD v4.toNat ty56.dflt).2).1 (((p0.getD v4.toNat ty56.dflt).2).2).1 (((p0.getD v4.toNat ty56.dflt).2).2).2) fun y1=>cond (!y1) (k false) (cond (B.lt v1 y0) (k false) (again (.l0 (IntKind.wrap .i64 (v1+IntKind.wrap .i64 (1-y0))) v3 (IntKind.wrap .i64 (v4+1)))))) none) (cond (B.eq v1 1) (k (B.le (↑p0.length) 30)) (k false))
def E22 (p0:L56):S22→List AV×Objs
 | .l0 v1 v3 v4=>(mk 36 [(0,.c (.list 56 ty56 p0)),(3,.c (.int .i64 v1)),(7,.c (.list 56 ty56 p0)),(8,.c (.int .i64 v3)),(9,.c (.int .i64 v4))],[])
def I22:S22→Nat
 | .l0 _ _ _=>0
noncomputable abbrev A22 {R:Type} (B:Ops) (c50:C50) (c58:C58) (p0:L56) (k:AV→Objs→Option R) (s:S22) (n:Nat):Option R:=aloop tau B gl0 X22 (ent 50 (e50 c50) (ent 58 (e58 c58) gnil)) ow [] Tryd.f22 k (I22 s) (E22 p0 s) n
theorem eq22 {R:Type} (B:Ops) (c50:C50) (c58:C58) (p0:L56) (k:AV→Objs→Option R) (n:Nat):afun tau B gl0 X22 (ent 50 (e50 c50) (ent 58 (e58 c58) gnil)) ow Tryd.f22 [.c (.list 56 ty56 p0)] [] k n=T22 B c50 c58 p0 (fun s=>A22 B c50 c58 p0 k s n) (K2 k) none:=by kernel_rfl
theorem el22 {R:Type} (B:Ops) (c50:C50) (c58:C58) (p0:L56) (k:AV→Objs→Option R) (n:Nat):∀ s,A22 B c50 c58 p0 k s (n+1)=T22 B c50 c58 p0 (fun s=>A22 B c50 c58 p0 k s n) (K2 k) (some s):=by
 intro s
 cases s<;>kernel_rfl
theorem nt22 {R R':Type} (B:Ops) (c50:C50) (c58:C58) (p0:L56) (again:S22→Option R) (again':S22→Option R') (k0:(Bool)→Option R') (k:R'→Option R) (h:∀ s,again s=ob (again' s) k):∀ s,T22 B c50 c58 p0 again (fun y=>ob (k0 y) k) s=ob (T22 B c50 c58 p0 again' k0 s) k:=by
 rintro (_ | x)
 all_goals try cases x
 all_goals (unfold T22;repeat' first | exact rfl | exact h _ | apply qac | (apply qai;intro))
def R22 (c50:C50) (c58:C58) (p0:L56):Nat→S22→Option (Bool)
 | 0,_=>none
 | n+1,s=>T22 Ops.std c50 c58 p0 (R22 c50 c58 p0 n) some (some s)
theorem rr22 {R:Type} (c50:C50) (c58:C58) (p0:L56) (k:AV→Objs→Option R):∀ (n:Nat) (s:S22),A22 Ops.std c50 c58 p0 k s n=ob (R22 c50 c58 p0 n s) (K2 k)
 | 0,s=>by cases s<;>rfl
 | n+1,s=>by rw [el22];exact nt22 Ops.std c50 c58 p0 _ _ some (K2 k) (rr22 c50 c58 p0 k n) (some s)
def F22 (c50:C50) (c58:C58) (p0:L56):Option (Bool):=T22 Ops.std c50 c58 p0 (R22 c50 c58 p0 1000000) some none
abbrev C22:Type:=L56→Option (Bool)
def e22 {R:Type} (c:C22):Ent R:=eG [.aC (.cL 56 ty56)] [] fun v k=>ob (c v.1) (K2 k)
abbrev Sp22 (c:C22):Prop:=∀ (p0:L56) (y:Bool),c p0=some y→Spec Tryd.prog gl0 22 [.c (.list 56 ty56 p0)] [] (.c (.bool y)) []
theorem ek22 {R:Type} {c:C22} (hs:Sp22 c):EOk 22 (e22 (R:=R) c):=qan fun v=>hs v.1
theorem sf22 {c50:C50} {c58:C58} (h50:Sp50 c50) (h58:Sp58 c58):Sp22 (F22 c50 c58):=fun p0 y hy=>by
 refine qae (qab (ek50 h50) (qab (ek58 h58) qad)) 1000000 (fn:=Tryd.f22) (by kernel_rfl) (by kernel_rfl) (X:=X22) (by kernel_rfl) ?_
 rw [eq22]
 exact (nt22 Ops.std c50 c58 p0 _ _ some (K2 k0) (rr22 c50 c58 p0 k0 1000000) none).trans (by show ob (F22 c50 c58 p0) _=_;rw [hy];rfl)
noncomputable def M22:C22:=F22 M50 M58
theorem sm22:Sp22 M22:=sf22 sm50 sm58
def X52:Aux:=⟨[],[]⟩
def T52 {R:Type} (B:Ops) (p0:LB) (p1 p2:Int) (k:(LB)→Option R):Option R:=cond (B.lt p1 p2) (cond (B.lim (1+List.length p0) 1) (cond (B.lim (List.length (([40]:LB)++p0)+1) 1) (k (([40]:LB)++p0++([41]:LB))) none) none) (k p0)
theorem eq52 {R:Type} (B:Ops) (p0:LB) (p1 p2:Int) (k:AV→Objs→Option R) (n:Nat):afun tau B gl0 X52 gnil ow Tryd.f52 [.agg [.str p0,.int .i64 p1],.c (.int .i64 p2)] [] k n=T52 B p0 p1 p2 (K3 k):=by kernel_rfl
theorem nt52 {R R':Type} (B:Ops) (p0:LB) (p1 p2:Int) (k0:(LB)→Option R') (k:R'→Option R):T52 B p0 p1 p2 (fun y=>ob (k0 y) k)=ob (T52 B p0 p1 p2 k0) k:=by
 unfold T52
 repeat' first | exact rfl | apply qac | (apply qai;intro)
def F52 (p0:LB) (p1 p2:Int):Option (LB):=T52 Ops.std p0 p1 p2 some
abbrev C52:Type:=LB→Int→Int→Option (LB)
def e52 {R:Type} (c:C52):Ent R:=eG [.aG [.cS,.cI .i64],.aC (.cI .i64)] [] fun v k=>ob (c v.1 v.2.1 v.2.2.1) (K3 k)
abbrev Sp52 (c:C52):Prop:=∀ (p0:LB) (p1 p2:Int) (y:LB),c p0 p1 p2=some y→Spec Tryd.prog gl0 52 [.agg [.str p0,.int .i64 p1],.c (.int .i64 p2)] [] (.c (.str y)) []
theorem ek52 {R:Type} {c:C52} (hs:Sp52 c):EOk 52 (e52 (R:=R) c):=qan fun v=>hs v.1 v.2.1 v.2.2.1
theorem sf52:Sp52 (F52):=fun p0 p1 p2 y hy=>by
 refine qae qad 1000000 (fn:=Tryd.f52) (by kernel_rfl) (by kernel_rfl) (X:=X52) (by kernel_rfl) ?_
 rw [eq52]
 exact (nt52 Ops.std p0 p1 p2 some (K3 k0)).trans (by show ob (F52 p0 p1 p2) _=_;rw [hy];rfl)
noncomputable def M52:C52:=F52
theorem sm52:Sp52 M52:=sf52
def X53:Aux:=⟨[],[(1,.lin ([1,2,5,6,0,3,4,7,8,9])),(5,.lin ([0,1,3,5,6,7,10,2,4,8,9,11,12]))]⟩
def T53 {R:Type} (B:Ops) (c92:C92) (c93:C93) (c52:C52) (p0:Int) (p1:LB) (p2:Int) (p3:LB) (p4:Int) (k:(LB×Int)→Option R):Option R:=ob (c92) fun y0=>cond (B.inb (IntKind.wrap .i64 (p0-6)) 11) (ob (c93) fun y1=>cond (B.inb (IntKind.wrap .i64 (p0-6)) 11) (cond (B.eq (List.getD (y1.1::y1.2.1::y1.2.2.1::y1.2.2.2.1::y1.2.2.2.2.1::y1.2.2.2.2.2.1::y1.2.2.2.2.2.2.1::y1.2.2.2.2.2.2.2.1::y1.2.2.2.2.2.2.2.2.1::y1.2.2.2.2.2.2.2.2.2.1::y1.2.2.2.2.2.2.2.2.2.2::mt Int) (Int.toNat (IntKind.wrap .i64 (p0-6))) 0) 2) (ob (c52 p1 p2 (IntKind.wrap .i64 (List.getD (y1.1::y1.2.1::y1.2.2.1::y1.2.2.2.1::y1.2.2.2.2.1::y1.2.2.2.2.2.1::y1.2.2.2.2.2.2.1::y1.2.2.2.2.2.2.2.1::y1.2.2.2.2.2.2.2.2.1::y1.2.2.2.2.2.2.2.2.2.1::y1.2.2.2.2.2.2.2.2.2.2::mt Int) (Int.toNat (IntKind.wrap .i64 (p0-6))) (0)+1))) fun y2=>cond (B.lim (List.length y2+List.length (List.getD (y0.1::y0.2.1::y0.2.2.1::y0.2.2.2.1::y0.2.2.2.2.1::y0.2.2.2.2.2.1::y0.2.2.2.2.2.2.1::y0.2.2.2.2.2.2.2.1::y0.2.2.2.2.2.2.2.2.1::y0.2.2.2.2.2.2.2.2.2.1::y0.2.2.2.2.2.2.2.2.2.2::mt LB) (Int.toNat (IntKind.wrap .i64 (p0-6))) (mt UInt8))) 1) (ob (c52 p3 p4 (IntKind.wrap .i64 (List.getD (y1.1::y1.2.1::y1.2.2.1::y1.2.2.2.1::y1.2.2.2.2.1::y1.2.2.2.2.2.1::y1.2.2.2.2.2.2.1::y1.2.2.2.2.2.2.2.1::y1.2.2.2.2.2.2.2.2.1::y1.2.2.2.2.2.2.2.2.2.1::y1.2.2.2.2.2.2.2.2.2.2::mt Int) (Int.toNat (IntKind.wrap .i64 (p0-6))) (0)+1))) fun y3=>cond (B.lim (List.length (y2++List.getD (y0.1::y0.2.1::y0.2.2.1::y0.2.2.2.1::y0.2.2.2.2.1::y0.2.2.2.2.2.1::y0.2.2.2.2.2.2.1::y0.2.2.2.2.2.2.2.1::y0.2.2.2.2.2.2.2.2.1::y0.2.2.2.2.2.2.2.2.2.1::y0.2.2.2.2.2.2.2.2.2.2::mt LB) (Int.toNat (IntKind.wrap .i64 (p0-6))) (mt UInt8))+List.length y3) 1) (k ((y2++List.getD (y0.1::y0.2.1::y0.2.2.1::y0.2.2.2.1::y0.2.2.2.2.1::y0.2.2.2.2.2.1::y0.2.2.2.2.2.2.1::y0.2.2.2.2.2.2.2.1::y0.2.2.2.2.2.2.2.2.1::y0.2.2.2.2.2.2.2.2.2.1::y0.2.2.2.2.2.2.2.2.2.2::mt LB) (Int.toNat (IntKind.wrap .i64 (p0-6))) (mt UInt8)++y3,List.getD (y1.1::y1.2.1::y1.2.2.1::y1.2.2.2.1::y1.2.2.2.2.1::y1.2.2.2.2.2.1::y1.2.2.2.2.2.2.1::y1.2.2.2.2.2.2.2.1::y1.2.2.2.2.2.2.2.2.1::y1.2.2.2.2.2.2.2.2.2.1::y1.2.2.2.2.2.2.2.2.2.2::mt Int) (Int.toNat (IntKind.wrap .i64 (p0-6))) 0))) none) none) (ob (c52 p1 p2 (List.getD (y1.1::y1.2.1::y1.2.2.1::y1.2.2.2.1::y1.2.2.2.2.1::y1.2.2.2.2.2.1::y1.2.2.2.2.2.2.1::y1.2.2.2.2.2.2.2.1::y1.2.2.2.2.2.2.2.2.1::y1.2.2.2.2.2.2.2.2.2.1::y1.2.2.2.2.2.2.2.2.2.2::mt Int) (Int.toNat (IntKind.wrap .i64 (p0-6))) 0)) fun y2=>cond (B.lim (List.length y2+List.length (List.getD (y0.1::y0.2.1::y0.2.2.1::y0.2.2.2.1::y0.2.2.2.2.1::y0.2.2.2.2.2.1::y0.2.2.2.2.2.2.1::y0.2.2.2.2.2.2.2.1::y0.2.2.2.2.2.2.2.2.1::y0.2.2.2.2.2.2.2.2.2.1::y0.2.2.2.2.2.2.2.2.2.2::mt LB) (Int.toNat (IntKind.wrap .i64 (p0-6))) (mt UInt8))) 1) (ob (c52 p3 p4 (IntKind.wrap .i64 (List.getD (y1.1::y1.2.1::y1.2.2.1::y1.2.2.2.1::y1.2.2.2.2.1::y1.2.2.2.2.2.1::y1.2.2.2.2.2.2.1::y1.2.2.2.2.2.2.2.1::y1.2.2.2.2.2.2.2.2.1::y1.2.2.2.2.2.2.2.2.2.1::y1.2.2.2.2.2.2.2.2.2.2::mt Int) (Int.toNat (IntKind.wrap .i64 (p0-6))) (0)+1))) fun y3=>cond (B.lim (List.length (y2++List.getD (y0.1::y0.2.1::y0.2.2.1::y0.2.2.2.1::y0.2.2.2.2.1::y0.2.2.2.2.2.1::y0.2.2.2.2.2.2.1::y0.2.2.2.2.2.2.2.1::y0.2.2.2.2.2.2.2.2.1::y0.2.2.2.2.2.2.2.2.2.1::y0.2.2.2.2.2.2.2.2.2.2::mt LB) (Int.toNat (IntKind.wrap .i64 (p0-6))) (mt UInt8))+List.length y3) 1) (k ((y2++List.getD (y0.1::y0.2.1::y0.2.2.1::y0.2.2.2.1::y0.2.2.2.2.1::y0.2.2.2.2.2.1::y0.2.2.2.2.2.2.1::y0.2.2.2.2.2.2.2.1::y0.2.2.2.2.2.2.2.2.1::y0.2.2.2.2.2.2.2.2.2.1::y0.2.2.2.2.2.2.2.2.2.2::mt LB) (Int.toNat (IntKind.wrap .i64 (p0-6))) (mt UInt8)++y3,List.getD (y1.1::y1.2.1::y1.2.2.1::y1.2.2.2.1::y1.2.2.2.2.1::y1.2.2.2.2.2.1::y1.2.2.2.2.2.2.1::y1.2.2.2.2.2.2.2.1::y1.2.2.2.2.2.2.2.2.1::y1.2.2.2.2.2.2.2.2.2.1::y1.2.2.2.2.2.2.2.2.2.2::mt Int) (Int.toNat (IntKind.wrap .i64 (p0-6))) 0))) none) none)) none) none
abbrev K14 {R:Type} (k:AV→Objs→Option R) (y:(LB×Int)):Option R:=k (.agg [.str y.1,.int .i64 y.2]) []
theorem eq53 {R:Type} (B:Ops) (c92:C92) (c93:C93) (c52:C52) (p0:Int) (p1:LB) (p2:Int) (p3:LB) (p4:Int) (k:AV→Objs→Option R) (n:Nat):afun tau B gl0 X53 (ent 92 (e92 c92) (ent 93 (e93 c93) (ent 52 (e52 c52) gnil))) ow Tryd.f53 [.c (.int .i64 p0),.agg [.str p1,.int .i64 p2],.agg [.str p3,.int .i64 p4]] [] k n=T53 B c92 c93 c52 p0 p1 p2 p3 p4 (K14 k):=by kernel_rfl
theorem nt53 {R R':Type} (B:Ops) (c92:C92) (c93:C93) (c52:C52) (p0:Int) (p1:LB) (p2:Int) (p3:LB) (p4:Int) (k0:(LB×Int)→Option R') (k:R'→Option R):T53 B c92 c93 c52 p0 p1 p2 p3 p4 (fun y=>ob (k0 y) k)=ob (T53 B c92 c93 c52 p0 p1 p2 p3 p4 k0) k:=by
 unfold T53
 repeat' first | exact rfl | apply qac | (apply qai;intro)
def F53 (c92:C92) (c93:C93) (c52:C52) (p0:Int) (p1:LB) (p2:Int) (p3:LB) (p4:Int):Option (LB×Int):=T53 Ops.std c92 c93 c52 p0 p1 p2 p3 p4 some
abbrev C53:Type:=Int→LB→Int→LB→Int→Option (LB×Int)
def e53 {R:Type} (c:C53):Ent R:=eG [.aC (.cI .i64),.aG [.cS,.cI .i64],.aG [.cS,.cI .i64]] [] fun v k=>ob (c v.1 v.2.1 v.2.2.1 v.2.2.2.1 v.2.2.2.2.1) (K14 k)
abbrev Sp53 (c:C53):Prop:=∀ (p0:Int) (p1:LB) (p2:Int) (p3:LB) (p4:Int) (y:LB×Int),c p0 p1 p2 p3 p4=some y→Spec Tryd.prog gl0 53 [.c (.int .i64 p0),.agg [.str p1,.int .i64 p2],.agg [.str p3,.int .i64 p4]] [] (.agg [.str y.1,.int .i64 y.2]) []
theorem ek53 {R:Type} {c:C53} (hs:Sp53 c):EOk 53 (e53 (R:=R) c):=qan fun v=>hs v.1 v.2.1 v.2.2.1 v.2.2.2.1 v.2.2.2.2.1
theorem sf53 {c92:C92} {c93:C93} {c52:C52} (h92:Sp92 c92) (h93:Sp93 c93) (h52:Sp52 c52):Sp53 (F53 c92 c93 c52):=fun p0 p1 p2 p3 p4 y hy=>by
 refine qae (qab (ek92 h92) (qab (ek93 h93) (qab (ek52 h52) qad))) 1000000 (fn:=Tryd.f53) (by kernel_rfl) (by kernel_rfl) (X:=X53) (by kernel_rfl) ?_
 rw [eq53]
 exact (nt53 Ops.std c92 c93 c52 p0 p1 p2 p3 p4 some (K14 k0)).trans (by show ob (F53 c92 c93 c52 p0 p1 p2 p3 p4) _=_;rw [hy];rfl)
noncomputable def M53:C53:=F53 M92 M93 M52
theorem sm53:Sp53 M53:=sf53 sm92 sm93 sm52
abbrev C51:Type:=Int→Option (LB)
def e51 {R:Type} (c:C51):Ent R:=eG [.aC (.cI .i64)] [] fun v k=>ob (c v.1) (K3 k)
abbrev Sp51 (c:C51):Prop:=∀ (p0:Int) (y:LB),c p0=some y→Spec Tryd.prog gl0 51 [.c (.int .i64 p0)] [] (.c (.str y)) []
theorem ek51 {R:Type} {c:C51} (hs:Sp51 c):EOk 51 (e51 (R:=R) c):=qan fun v=>hs v.1
def M51:Int→Option (LB):=itoaF
theorem sm51:Sp51 M51:=fun p0 y hy=>itoa_sp p0 y hy
def X20:Aux:=⟨[(5,([0,1,2,4,5,6,7,8,9,10]++rg 14 72))],[(10,.lin (rg 0 13)),(21,.lin [0,1,2,3,4,5,6])]⟩
inductive S20 where
 | l0 (v1 v2:Int) (v3:L88)
def T20 {R:Type} (B:Ops) (c22:C22) (c50:C50) (c51:C51) (c52:C52) (c53:C53) (p0:L56) (again:S20→Option R) (k:(LB)→Option R):Option S20→Option R | none=>ob (c22 p0) fun y0=>cond (!y0) (k (mt UInt8)) (again (.l0 (↑p0.length) 0 (mt (Ty.den ty88)))) | some (.l0 v1 v2 v3)=>cond (B.lt v2 v1) (cond (B.inb v2 p0.length) (ob (c50 (p0.getD v2.toNat ty56.dflt).1) fun y0=>cond (B.eq (p0.getD v2.toNat ty56.dflt).1 1) (ob (c51 ((p0.getD v2.toNat ty56.dflt).2).1) fun y1=>cond (B.inb (IntKind.wrap .i64 (Nat.cast v3.length-y0)) (List.length v3+1)) (cond (B.lim (List.length (List.take (Int.toNat (IntKind.wrap .i64 (Nat.cast v3.length-y0))) v3)+List.length ((y1,6)::mt (Ty.den ty88))) 24) (again (.l0 v1 (IntKind.wrap .i64 (v2+1)) (List.take (Int.toNat (IntKind.wrap .i64 (Nat.cast v3.length-y0))) v3++(y1,6)::mt (Ty.den ty88)))) none) none) (cond (B.eq (p0.getD v2.toNat ty56.dflt).1 2) (cond (B.inb (IntKind.wrap .i64 (Nat.cast v3.length-y0)) (List.length v3+1)) (cond (B.lim (List.length (List.take (Int.toNat (IntKind.wrap .i64 (Nat.cast v3.length-y0))) v3)+List.length (((((p0.getD v2.toNat ty56.dflt).2).2).1,6)::mt (Ty.den ty88))) 24) (again (.l0 v1 (IntKind.wrap .i64 (v2+1)) (List.take (Int.toNat (IntKind.wrap .i64 (Nat.cast v3.length-y0))) v3++((((p0.getD v2.toNat ty56.dflt).2).2).1,6)::mt (Ty.den ty88)))) none) none) (cond (B.eq (p0.getD v2.toNat ty56.dflt).1 3) (cond (B.lim (List.length ((((p0.getD v2.toNat ty56.dflt).2).2).1)+1) 1) (cond (B.lim (List.length ((((p0.getD v2.toNat ty56.dflt).2).2).1++([64]:LB))+List.length (((p0.getD v2.toNat ty56.dflt).2).2).2) 1) (cond (B.inb (IntKind.wrap .i64 (Nat.cast v3.length-y0)) (List.length v3+1)) (cond (B.lim (List.length (List.take (Int.toNat (IntKind.wrap .i64 (Nat.cast v3.length-y0))) v3)+List.length (((((p0.getD v2.toNat ty56.dflt).2).2).1++([64]:LB)++(((p0.getD v2.toNat ty56.dflt).2).2).2,6)::mt (Ty.den ty88))) 24) (again (.l0 v1 (IntKind.wrap .i64 (v2+1)) (List.take (Int.toNat (IntKind.wrap .i64 (Nat.cast v3.length-y0))) v3++((((p0.getD v2.toNat ty56.dflt).2).2).1++([64]:LB)++(((p0.getD v2.toNat ty56.dflt).2).2).2,6)::mt (Ty.den ty88)))) none) none) none) none) (cond (B.eq (p0.getD v2.toNat ty56.dflt).1 4) (cond (B.inb (IntKind.wrap .i64 (Nat.cast v3.length-y0)) v3.length) (ob (c52 (v3.getD (Int.toNat (IntKind.wrap .i64 (Nat.cast v3.length-y0))) ty88.dflt).1 (v3.getD (Int.toNat (IntKind.wrap .i64 (Nat.cast v3.length-y0))) ty88.dflt).2 5) fun y1=>cond (B.lim (1+List.length y1) 1) (cond (B.inb (IntKind.wrap .i64 (Nat.cast v3.length-y0)) (List.length v3+1)) (cond (B.lim (List.length (List.take (Int.toNat (IntKind.wrap .i64 (Nat.cast v3.length-y0))) v3)+List.length ((([33]:LB)++y1,5)::mt (Ty.den ty88))) 24) (again (.l0 v1 (IntKind.wrap .i64 (v2+1)) (List.take (Int.toNat (IntKind.wrap .i64 (Nat.cast v3.length-y0))) v3++(([33]:LB)++y1,5)::mt (Ty.den ty88)))) none) none) none) none) (cond (B.eq (p0.getD v2.toNat ty56.dflt).1 5) (cond (B.inb (IntKind.wrap .i64 (Nat.cast v3.length-y0)) v3.length) (ob (c52 (v3.getD (Int.toNat (IntKind.wrap .i64 (Nat.cast v3.length-y0))) ty88.dflt).1 (v3.getD (Int.toNat (IntKind.wrap .i64 (Nat.cast v3.length-y0))) ty88.dflt).2 5) fun y1=>cond (B.lim (1+List.length y1) 1) (cond (B.inb (IntKind.wrap .i64 (Nat.cast v3.length-y0)) (List.length v3+1)) (cond (B.lim (List.length (List.take (Int.toNat (IntKind.wrap .i64 (Nat.cast v3.length-y0))) v3)+List.length ((([45]:LB)++y1,5)::mt (Ty.den ty88))) 24) (again (.l0 v1 (IntKind.wrap .i64 (v2+1)) (List.take (Int.toNat (IntKind.wrap .i64 (Nat.cast v3.length-y0))) v3++(([45]:LB)++y1,5)::mt (Ty.den ty88)))) none) none) none) none) (cond (B.inb (IntKind.wrap .i64 (Nat.cast v3.length-y0)) v3.length) (cond (B.inb (IntKind.wrap .i64 (IntKind.wrap .i64 (Nat.cast v3.length-y0)+1)) v3.length) (ob (c53 (p0.getD v2.toNat ty56.dflt).1 (v3.getD (Int.toNat (IntKind.wrap .i64 (Nat.cast v3.length-y0))) ty88.dflt).1 (v3.getD (Int.toNat (IntKind.wrap .i64 (Nat.cast v3.length-y0))) ty88.dflt).2 ((v3.getD (Int.toNat (IntKind.wrap .i64 (IntKind.wrap .i64 (Nat.cast v3.length-y0)+1))) ty88.dflt).1) ((v3.getD (Int.toNat (IntKind.wrap .i64 (IntKind.wrap .i64 (Nat.cast v3.length-y0)+1))) ty88.dflt).2)) fun y1=>cond (B.inb (IntKind.wrap .i64 (Nat.cast v3.length-y0)) (List.length v3+1)) (cond (B.lim (List.length (List.take (Int.toNat (IntKind.wrap .i64 (Nat.cast v3.length-y0))) v3)+List.length ((y1.1,y1.2)::mt (Ty.den ty88))) 24) (again (.l0 v1 (IntKind.wrap .i64 (v2+1)) (List.take (Int.toNat (IntKind.wrap .i64 (Nat.cast v3.length-y0))) v3++(y1.1,y1.2)::mt (Ty.den ty88)))) none) none) none) none)))))) none) (cond (B.inb 0 v3.length) (k (v3.getD (Int.toNat 0) ty88.dflt).1) none)
def E20 (p0:L56):S20→List AV×Objs
 | .l0 v1 v2 v3=>(mk 86 [(3,.c (.own 3)),(11,.c (.list 56 ty56 p0)),(12,.c (.int .i64 v1)),(13,.c (.int .i64 v2))],[(3,.row 88 ty88 v3)])
def I20:S20→Nat
 | .l0 _ _ _=>0
noncomputable abbrev A20 {R:Type} (B:Ops) (c22:C22) (c50:C50) (c51:C51) (c52:C52) (c53:C53) (p0:L56) (k:AV→Objs→Option R) (s:S20) (n:Nat):Option R:=aloop tau B gl0 X20 (ent 22 (e22 c22) (ent 50 (e50 c50) (ent 51 (e51 c51) (ent 52 (e52 c52) (ent 53 (e53 c53) gnil))))) ow [] Tryd.f20 k (I20 s) (E20 p0 s) n
theorem eq20 {R:Type} (B:Ops) (c22:C22) (c50:C50) (c51:C51) (c52:C52) (c53:C53) (p0:L56) (k:AV→Objs→Option R) (n:Nat):afun tau B gl0 X20 (ent 22 (e22 c22) (ent 50 (e50 c50) (ent 51 (e51 c51) (ent 52 (e52 c52) (ent 53 (e53 c53) gnil))))) ow Tryd.f20 [.c (.list 56 ty56 p0)] [] k n=T20 B c22 c50 c51 c52 c53 p0 (fun s=>A20 B c22 c50 c51 c52 c53 p0 k s n) (K3 k) none:=by kernel_rfl
theorem el20 {R:Type} (B:Ops) (c22:C22) (c50:C50) (c51:C51) (c52:C52) (c53:C53) (p0:L56) (k:AV→Objs→Option R) (n:Nat):∀ s,A20 B c22 c50 c51 c52 c53 p0 k s (n+1)=T20 B c22 c50 c51 c52 c53 p0 (fun s=>A20 B c22 c50 c51 c52 c53 p0 k s n) (K3 k) (some s):=by
 intro s
 cases s<;>kernel_rfl
theorem nt20 {R R':Type} (B:Ops) (c22:C22) (c50:C50) (c51:C51) (c52:C52) (c53:C53) (p0:L56) (again:S20→Option R) (again':S20→Option R') (k0:(LB)→Option R') (k:R'→Option R) (h:∀ s,again s=ob (again' s) k):∀ s,T20 B c22 c50 c51 c52 c53 p0 again (fun y=>ob (k0 y) k) s=ob (T20 B c22 c50 c51 c52 c53 p0 again' k0 s) k:=by
 rintro (_ | x)
 all_goals try cases x
 all_goals (unfold T20;repeat' first | exact rfl | exact h _ | apply qac | (apply qai;intro))
def R20 (c22:C22) (c50:C50) (c51:C51) (c52:C52) (c53:C53) (p0:L56):Nat→S20→Option (LB)
 | 0,_=>none
 | n+1,s=>T20 Ops.std c22 c50 c51 c52 c53 p0 (R20 c22 c50 c51 c52 c53 p0 n) some (some s)
theorem rr20 {R:Type} (c22:C22) (c50:C50) (c51:C51) (c52:C52) (c53:C53) (p0:L56) (k:AV→Objs→Option R):∀ (n:Nat) (s:S20),A20 Ops.std c22 c50 c51 c52 c53 p0 k s n=ob (R20 c22 c50 c51 c52 c53 p0 n s) (K3 k)
 | 0,s=>by cases s<;>rfl
 | n+1,s=>by rw [el20];exact nt20 Ops.std c22 c50 c51 c52 c53 p0 _ _ some (K3 k) (rr20 c22 c50 c51 c52 c53 p0 k n) (some s)
def F20 (c22:C22) (c50:C50) (c51:C51) (c52:C52) (c53:C53) (p0:L56):Option (LB):=T20 Ops.std c22 c50 c51 c52 c53 p0 (R20 c22 c50 c51 c52 c53 p0 1000000) some none
abbrev C20:Type:=L56→Option (LB)
def e20 {R:Type} (c:C20):Ent R:=eG [.aC (.cL 56 ty56)] [] fun v k=>ob (c v.1) (K3 k)
abbrev Sp20 (c:C20):Prop:=∀ (p0:L56) (y:LB),c p0=some y→Spec Tryd.prog gl0 20 [.c (.list 56 ty56 p0)] [] (.c (.str y)) []
theorem ek20 {R:Type} {c:C20} (hs:Sp20 c):EOk 20 (e20 (R:=R) c):=qan fun v=>hs v.1
theorem sf20 {c22:C22} {c50:C50} {c51:C51} {c52:C52} {c53:C53} (h22:Sp22 c22) (h50:Sp50 c50) (h51:Sp51 c51) (h52:Sp52 c52) (h53:Sp53 c53):Sp20 (F20 c22 c50 c51 c52 c53):=fun p0 y hy=>by
 refine qae (qab (ek22 h22) (qab (ek50 h50) (qab (ek51 h51) (qab (ek52 h52) (qab (ek53 h53) qad))))) 1000000 (fn:=Tryd.f20) (by kernel_rfl) (by kernel_rfl) (X:=X20) (by kernel_rfl) ?_
 rw [eq20]
 exact (nt20 Ops.std c22 c50 c51 c52 c53 p0 _ _ some (K3 k0) (rr20 c22 c50 c51 c52 c53 p0 k0 1000000) none).trans (by show ob (F20 c22 c50 c51 c52 c53 p0) _=_;rw [hy];rfl)
noncomputable def M20:C20:=F20 M22 M50 M51 M52 M53
theorem sm20:Sp20 M20:=sf20 sm22 sm50 sm51 sm52 sm53
def X127:Aux:=⟨[],[(1,.lin (rg 0 12))]⟩
def T127 {R:Type} (B:Ops) (p0:L85) (p1 p2:Int) (p3:L78) (k:(LB×L85×Int×Int×L78)→Option R):Option R:=cond (B.inb p1 p0.length) (cond (!B.eq (p0.getD p1.toNat ty85.dflt).1 1) (k ((((p0.getD p1.toNat ty85.dflt).2).1,p0,p1,p2,p3))) (k (mt UInt8,p0,p1,p2,p3))) none
abbrev K15 {R:Type} (k:AV→Objs→Option R) (y:(LB×L85×Int×Int×L78)):Option R:=k (.c (.str y.1)) [(0,.box 122 [.list 85 ty85 y.2.1,.int .i64 y.2.2.1,.own 1002,.int .i64 y.2.2.2.1]),(1002,.row 78 ty78 y.2.2.2.2)]
theorem eq127 {R:Type} (B:Ops) (p0:L85) (p1 p2:Int) (p3:L78) (k:AV→Objs→Option R) (n:Nat):afun tau B gl0 X127 gnil ow Tryd.f127 [.c (.ptr 0 0)] [(0,.box 122 [.list 85 ty85 p0,.int .i64 p1,.own 1002,.int .i64 p2]),(1002,.row 78 ty78 p3)] k n=T127 B p0 p1 p2 p3 (K15 k):=by kernel_rfl
theorem nt127 {R R':Type} (B:Ops) (p0:L85) (p1 p2:Int) (p3:L78) (k0:(LB×L85×Int×Int×L78)→Option R') (k:R'→Option R):T127 B p0 p1 p2 p3 (fun y=>ob (k0 y) k)=ob (T127 B p0 p1 p2 p3 k0) k:=by
 unfold T127
 repeat' first | exact rfl | apply qac | (apply qai;intro)
def F127 (p0:L85) (p1 p2:Int) (p3:L78):Option (LB×L85×Int×Int×L78):=T127 Ops.std p0 p1 p2 p3 some
abbrev C127:Type:=L85→Int→Int→L78→Option (LB×L85×Int×Int×L78)
def e127 {R:Type} (c:C127):Ent R:=eG [.aC (.cP 0)] [.oB 0 122 [.cL 85 ty85,.cI .i64,.cO 1002,.cI .i64],.oR 1002 78 ty78] fun v k=>ob (c v.1 v.2.1 v.2.2.1 v.2.2.2.1) (K15 k)
abbrev Sp127 (c:C127):Prop:=∀ (p0:L85) (p1 p2:Int) (p3:L78) (y:LB×L85×Int×Int×L78),c p0 p1 p2 p3=some y→Spec Tryd.prog gl0 127 [.c (.ptr 0 0)] [(0,.box 122 [.list 85 ty85 p0,.int .i64 p1,.own 1002,.int .i64 p2]),(1002,.row 78 ty78 p3)] (.c (.str y.1)) [(0,.box 122 [.list 85 ty85 y.2.1,.int .i64 y.2.2.1,.own 1002,.int .i64 y.2.2.2.1]),(1002,.row 78 ty78 y.2.2.2.2)]
theorem ek127 {R:Type} {c:C127} (hs:Sp127 c):EOk 127 (e127 (R:=R) c):=qan fun v=>hs v.1 v.2.1 v.2.2.1 v.2.2.2.1
theorem sf127:Sp127 (F127):=fun p0 p1 p2 p3 y hy=>by
 refine qae qad 1000000 (fn:=Tryd.f127) (by kernel_rfl) (by kernel_rfl) (X:=X127) (by kernel_rfl) ?_
 rw [eq127]
 exact (nt127 Ops.std p0 p1 p2 p3 some (K15 k0)).trans (by show ob (F127 p0 p1 p2 p3) _=_;rw [hy];rfl)
noncomputable def M127:C127:=F127
theorem sm127:Sp127 M127:=sf127
def X147:Aux:=⟨[],[]⟩
def T147 {R:Type} (B:Ops) (p0:LB) (k:(Int)→Option R):Option R:=cond (p0 == ([33]:LB)) (k 4) (cond (p0 == ([88]:LB)) (k 8) (cond (p0 == ([70]:LB)) (k 11) (cond (p0 == ([71]:LB)) (k 12) (k 0))))
theorem eq147 {R:Type} (B:Ops) (p0:LB) (k:AV→Objs→Option R) (n:Nat):afun tau B gl0 X147 gnil ow Tryd.f147 [.c (.str p0)] [] k n=T147 B p0 (K1 k):=by kernel_rfl
theorem nt147 {R R':Type} (B:Ops) (p0:LB) (k0:(Int)→Option R') (k:R'→Option R):T147 B p0 (fun y=>ob (k0 y) k)=ob (T147 B p0 k0) k:=by
 unfold T147
 repeat' first | exact rfl | apply qac | (apply qai;intro)
def F147 (p0:LB):Option (Int):=T147 Ops.std p0 some
abbrev C147:Type:=LB→Option (Int)
def e147 {R:Type} (c:C147):Ent R:=eG [.aC .cS] [] fun v k=>ob (c v.1) (K1 k)
abbrev Sp147 (c:C147):Prop:=∀ (p0:LB) (y:Int),c p0=some y→Spec Tryd.prog gl0 147 [.c (.str p0)] [] (.c (.int .i64 y)) []
theorem ek147 {R:Type} {c:C147} (hs:Sp147 c):EOk 147 (e147 (R:=R) c):=qan fun v=>hs v.1
theorem sf147:Sp147 (F147):=fun p0 y hy=>by
 refine qae qad 1000000 (fn:=Tryd.f147) (by kernel_rfl) (by kernel_rfl) (X:=X147) (by kernel_rfl) ?_
 rw [eq147]
 exact (nt147 Ops.std p0 some (K1 k0)).trans (by show ob (F147 p0) _=_;rw [hy];rfl)
noncomputable def M147:C147:=F147
theorem sm147:Sp147 M147:=sf147
def X128:Aux:=⟨[],[]⟩
def T128 {R:Type} (B:Ops) (p0:Int) (p1:L85) (p2 p3:Int) (p4:L78) (k:(Bool×L85×Int×Int×L78)→Option R):Option R:=cond (B.lim (List.length p4+List.length ((p0,mt (Ty.den ty56))::mt (Ty.den ty78))) 32) (k ((true,p1,p2,p3,p4++(p0,mt (Ty.den ty56))::mt (Ty.den ty78)))) none
abbrev K16 {R:Type} (k:AV→Objs→Option R) (y:(Bool×L85×Int×Int×L78)):Option R:=k (.c (.bool y.1)) [(0,.box 122 [.list 85 ty85 y.2.1,.int .i64 y.2.2.1,.own 1002,.int .i64 y.2.2.2.1]),(1002,.row 78 ty78 y.2.2.2.2)]
theorem eq128 {R:Type} (B:Ops) (p0:Int) (p1:L85) (p2 p3:Int) (p4:L78) (k:AV→Objs→Option R) (n:Nat):afun tau B gl0 X128 gnil ow Tryd.f128 [.c (.ptr 0 0),.c (.int .i64 p0)] [(0,.box 122 [.list 85 ty85 p1,.int .i64 p2,.own 1002,.int .i64 p3]),(1002,.row 78 ty78 p4)] k n=T128 B p0 p1 p2 p3 p4 (K16 k):=by kernel_rfl
theorem nt128 {R R':Type} (B:Ops) (p0:Int) (p1:L85) (p2 p3:Int) (p4:L78) (k0:(Bool×L85×Int×Int×L78)→Option R') (k:R'→Option R):T128 B p0 p1 p2 p3 p4 (fun y=>ob (k0 y) k)=ob (T128 B p0 p1 p2 p3 p4 k0) k:=by
 unfold T128
 repeat' first | exact rfl | apply qac | (apply qai;intro)
def F128 (p0:Int) (p1:L85) (p2 p3:Int) (p4:L78):Option (Bool×L85×Int×Int×L78):=T128 Ops.std p0 p1 p2 p3 p4 some
abbrev C128:Type:=Int→L85→Int→Int→L78→Option (Bool×L85×Int×Int×L78)
def e128 {R:Type} (c:C128):Ent R:=eG [.aC (.cP 0),.aC (.cI .i64)] [.oB 0 122 [.cL 85 ty85,.cI .i64,.cO 1002,.cI .i64],.oR 1002 78 ty78] fun v k=>ob (c v.1 v.2.1 v.2.2.1 v.2.2.2.1 v.2.2.2.2.1) (K16 k)
abbrev Sp128 (c:C128):Prop:=∀ (p0:Int) (p1:L85) (p2 p3:Int) (p4:L78) (y:Bool×L85×Int×Int×L78),c p0 p1 p2 p3 p4=some y→Spec Tryd.prog gl0 128 [.c (.ptr 0 0),.c (.int .i64 p0)] [(0,.box 122 [.list 85 ty85 p1,.int .i64 p2,.own 1002,.int .i64 p3]),(1002,.row 78 ty78 p4)] (.c (.bool y.1)) [(0,.box 122 [.list 85 ty85 y.2.1,.int .i64 y.2.2.1,.own 1002,.int .i64 y.2.2.2.1]),(1002,.row 78 ty78 y.2.2.2.2)]
theorem ek128 {R:Type} {c:C128} (hs:Sp128 c):EOk 128 (e128 (R:=R) c):=qan fun v=>hs v.1 v.2.1 v.2.2.1 v.2.2.2.1 v.2.2.2.2.1
theorem sf128:Sp128 (F128):=fun p0 p1 p2 p3 p4 y hy=>by
 refine qae qad 1000000 (fn:=Tryd.f128) (by kernel_rfl) (by kernel_rfl) (X:=X128) (by kernel_rfl) ?_
 rw [eq128]
 exact (nt128 Ops.std p0 p1 p2 p3 p4 some (K16 k0)).trans (by show ob (F128 p0 p1 p2 p3 p4) _=_;rw [hy];rfl)
noncomputable def M128:C128:=F128
theorem sm128:Sp128 M128:=sf128
def X151:Aux:=⟨[],[]⟩
def T151 {R:Type} (B:Ops) (p0:Int) (p1:L85) (p2 p3:Int) (p4:L78) (k:(Bool×L85×Int×Int×L78)→Option R):Option R:=k (false,p1,p2,p0,p4)
theorem eq151 {R:Type} (B:Ops) (p0:Int) (p1:L85) (p2 p3:Int) (p4:L78) (k:AV→Objs→Option R) (n:Nat):afun tau B gl0 X151 gnil ow Tryd.f151 [.c (.ptr 0 0),.c (.int .i64 p0)] [(0,.box 122 [.list 85 ty85 p1,.int .i64 p2,.own 1002,.int .i64 p3]),(1002,.row 78 ty78 p4)] k n=T151 B p0 p1 p2 p3 p4 (K16 k):=by kernel_rfl
theorem nt151 {R R':Type} (B:Ops) (p0:Int) (p1:L85) (p2 p3:Int) (p4:L78) (k0:(Bool×L85×Int×Int×L78)→Option R') (k:R'→Option R):T151 B p0 p1 p2 p3 p4 (fun y=>ob (k0 y) k)=ob (T151 B p0 p1 p2 p3 p4 k0) k:=by
 unfold T151
 repeat' first | exact rfl | apply qac | (apply qai;intro)
def F151 (p0:Int) (p1:L85) (p2 p3:Int) (p4:L78):Option (Bool×L85×Int×Int×L78):=T151 Ops.std p0 p1 p2 p3 p4 some
abbrev C151:Type:=Int→L85→Int→Int→L78→Option (Bool×L85×Int×Int×L78)
def e151 {R:Type} (c:C151):Ent R:=eG [.aC (.cP 0),.aC (.cI .i64)] [.oB 0 122 [.cL 85 ty85,.cI .i64,.cO 1002,.cI .i64],.oR 1002 78 ty78] fun v k=>ob (c v.1 v.2.1 v.2.2.1 v.2.2.2.1 v.2.2.2.2.1) (K16 k)
abbrev Sp151 (c:C151):Prop:=∀ (p0:Int) (p1:L85) (p2 p3:Int) (p4:L78) (y:Bool×L85×Int×Int×L78),c p0 p1 p2 p3 p4=some y→Spec Tryd.prog gl0 151 [.c (.ptr 0 0),.c (.int .i64 p0)] [(0,.box 122 [.list 85 ty85 p1,.int .i64 p2,.own 1002,.int .i64 p3]),(1002,.row 78 ty78 p4)] (.c (.bool y.1)) [(0,.box 122 [.list 85 ty85 y.2.1,.int .i64 y.2.2.1,.own 1002,.int .i64 y.2.2.2.1]),(1002,.row 78 ty78 y.2.2.2.2)]
theorem ek151 {R:Type} {c:C151} (hs:Sp151 c):EOk 151 (e151 (R:=R) c):=qan fun v=>hs v.1 v.2.1 v.2.2.1 v.2.2.2.1 v.2.2.2.2.1
theorem sf151:Sp151 (F151):=fun p0 p1 p2 p3 p4 y hy=>by
 refine qae qad 1000000 (fn:=Tryd.f151) (by kernel_rfl) (by kernel_rfl) (X:=X151) (by kernel_rfl) ?_
 rw [eq151]
 exact (nt151 Ops.std p0 p1 p2 p3 p4 some (K16 k0)).trans (by show ob (F151 p0 p1 p2 p3 p4) _=_;rw [hy];rfl)
noncomputable def M151:C151:=F151
theorem sm151:Sp151 M151:=sf151
def X149:Aux:=⟨[],[]⟩
def T149 {R:Type} (B:Ops) (c25:C25) (c151:C151) (c127:C127) (p0:L85) (p1 p2:Int) (p3:L78) (k:(Bool×L85×Int×Int×L78)→Option R):Option R:=ob (c25 p0 (IntKind.wrap .i64 (p1+1))) fun y0=>cond (B.eq y0.2.1 13) (ob (c151 y0.2.1 p0 p1 p2 p3) fun y1=>k (y1.1,y1.2.1,y1.2.2.1,y1.2.2.2.1,y1.2.2.2.2)) (cond (!B.eq y0.2.1 0) (ob (c151 y0.2.1 p0 y0.1 p2 p3) fun y1=>k (y1.1,y1.2.1,y1.2.2.1,y1.2.2.2.1,y1.2.2.2.2)) (ob (c127 p0 y0.1 p2 p3) fun y1=>cond (!y1.1 == ([93]:LB)) (ob (c151 2 y1.2.1 y1.2.2.1 y1.2.2.2.1 y1.2.2.2.2) fun y2=>k (y2.1,y2.2.1,y2.2.2.1,y2.2.2.2.1,y2.2.2.2.2)) (cond (B.lim (List.length (y1.2.2.2.2)+List.length ((3,y0.2.2)::mt (Ty.den ty78))) 32) (k ((true,y1.2.1,IntKind.wrap .i64 (y1.2.2.1+1),y1.2.2.2.1,y1.2.2.2.2++(3,y0.2.2)::mt (Ty.den ty78)))) none)))
theorem eq149 {R:Type} (B:Ops) (c25:C25) (c151:C151) (c127:C127) (p0:L85) (p1 p2:Int) (p3:L78) (k:AV→Objs→Option R) (n:Nat):afun tau B gl0 X149 (ent 25 (e25 c25) (ent 151 (e151 c151) (ent 127 (e127 c127) gnil))) ow Tryd.f149 [.c (.ptr 0 0)] [(0,.box 122 [.list 85 ty85 p0,.int .i64 p1,.own 1002,.int .i64 p2]),(1002,.row 78 ty78 p3)] k n=T149 B c25 c151 c127 p0 p1 p2 p3 (K16 k):=by kernel_rfl
theorem nt149 {R R':Type} (B:Ops) (c25:C25) (c151:C151) (c127:C127) (p0:L85) (p1 p2:Int) (p3:L78) (k0:(Bool×L85×Int×Int×L78)→Option R') (k:R'→Option R):T149 B c25 c151 c127 p0 p1 p2 p3 (fun y=>ob (k0 y) k)=ob (T149 B c25 c151 c127 p0 p1 p2 p3 k0) k:=by
 unfold T149
 repeat' first | exact rfl | apply qac | (apply qai;intro)
def F149 (c25:C25) (c151:C151) (c127:C127) (p0:L85) (p1 p2:Int) (p3:L78):Option (Bool×L85×Int×Int×L78):=T149 Ops.std c25 c151 c127 p0 p1 p2 p3 some
abbrev C149:Type:=L85→Int→Int→L78→Option (Bool×L85×Int×Int×L78)
def e149 {R:Type} (c:C149):Ent R:=eG [.aC (.cP 0)] [.oB 0 122 [.cL 85 ty85,.cI .i64,.cO 1002,.cI .i64],.oR 1002 78 ty78] fun v k=>ob (c v.1 v.2.1 v.2.2.1 v.2.2.2.1) (K16 k)
abbrev Sp149 (c:C149):Prop:=∀ (p0:L85) (p1 p2:Int) (p3:L78) (y:Bool×L85×Int×Int×L78),c p0 p1 p2 p3=some y→Spec Tryd.prog gl0 149 [.c (.ptr 0 0)] [(0,.box 122 [.list 85 ty85 p0,.int .i64 p1,.own 1002,.int .i64 p2]),(1002,.row 78 ty78 p3)] (.c (.bool y.1)) [(0,.box 122 [.list 85 ty85 y.2.1,.int .i64 y.2.2.1,.own 1002,.int .i64 y.2.2.2.1]),(1002,.row 78 ty78 y.2.2.2.2)]
theorem ek149 {R:Type} {c:C149} (hs:Sp149 c):EOk 149 (e149 (R:=R) c):=qan fun v=>hs v.1 v.2.1 v.2.2.1 v.2.2.2.1
theorem sf149 {c25:C25} {c151:C151} {c127:C127} (h25:Sp25 c25) (h151:Sp151 c151) (h127:Sp127 c127):Sp149 (F149 c25 c151 c127):=fun p0 p1 p2 p3 y hy=>by
 refine qae (qab (ek25 h25) (qab (ek151 h151) (qab (ek127 h127) qad))) 1000000 (fn:=Tryd.f149) (by kernel_rfl) (by kernel_rfl) (X:=X149) (by kernel_rfl) ?_
 rw [eq149]
 exact (nt149 Ops.std c25 c151 c127 p0 p1 p2 p3 some (K16 k0)).trans (by show ob (F149 c25 c151 c127 p0 p1 p2 p3) _=_;rw [hy];rfl)
noncomputable def M149:C149:=F149 M25 M151 M127
theorem sm149:Sp149 M149:=sf149 sm25 sm151 sm127
def X143:Aux:=⟨[],[]⟩
def T143 {R:Type} (B:Ops) (p0:LB) (k:(Int)→Option R):Option R:=cond (p0 == ([85]:LB)) (k 9) (cond (p0 == ([82]:LB)) (k 10) (k 0))
theorem eq143 {R:Type} (B:Ops) (p0:LB) (k:AV→Objs→Option R) (n:Nat):afun tau B gl0 X143 gnil ow Tryd.f143 [.c (.str p0)] [] k n=T143 B p0 (K1 k):=by kernel_rfl
theorem nt143 {R R':Type} (B:Ops) (p0:LB) (k0:(Int)→Option R') (k:R'→Option R):T143 B p0 (fun y=>ob (k0 y) k)=ob (T143 B p0 k0) k:=by
 unfold T143
 repeat' first | exact rfl | apply qac | (apply qai;intro)
def F143 (p0:LB):Option (Int):=T143 Ops.std p0 some
abbrev C143:Type:=LB→Option (Int)
def e143 {R:Type} (c:C143):Ent R:=eG [.aC .cS] [] fun v k=>ob (c v.1) (K1 k)
abbrev Sp143 (c:C143):Prop:=∀ (p0:LB) (y:Int),c p0=some y→Spec Tryd.prog gl0 143 [.c (.str p0)] [] (.c (.int .i64 y)) []
theorem ek143 {R:Type} {c:C143} (hs:Sp143 c):EOk 143 (e143 (R:=R) c):=qan fun v=>hs v.1
theorem sf143:Sp143 (F143):=fun p0 y hy=>by
 refine qae qad 1000000 (fn:=Tryd.f143) (by kernel_rfl) (by kernel_rfl) (X:=X143) (by kernel_rfl) ?_
 rw [eq143]
 exact (nt143 Ops.std p0 some (K1 k0)).trans (by show ob (F143 p0) _=_;rw [hy];rfl)
noncomputable def M143:C143:=F143
theorem sm143:Sp143 M143:=sf143
def X115:Aux:=⟨[],[]⟩
def T115 {R:Type} (B:Ops) (p0:LB) (k:(Int)→Option R):Option R:=cond (p0 == ([45,62]:LB)) (k 7) (k 0)
theorem eq115 {R:Type} (B:Ops) (p0:LB) (k:AV→Objs→Option R) (n:Nat):afun tau B gl0 X115 gnil ow Tryd.f115 [.c (.str p0)] [] k n=T115 B p0 (K1 k):=by kernel_rfl
theorem nt115 {R R':Type} (B:Ops) (p0:LB) (k0:(Int)→Option R') (k:R'→Option R):T115 B p0 (fun y=>ob (k0 y) k)=ob (T115 B p0 k0) k:=by
 unfold T115
 repeat' first | exact rfl | apply qac | (apply qai;intro)
def F115 (p0:LB):Option (Int):=T115 Ops.std p0 some
abbrev C115:Type:=LB→Option (Int)
def e115 {R:Type} (c:C115):Ent R:=eG [.aC .cS] [] fun v k=>ob (c v.1) (K1 k)
abbrev Sp115 (c:C115):Prop:=∀ (p0:LB) (y:Int),c p0=some y→Spec Tryd.prog gl0 115 [.c (.str p0)] [] (.c (.int .i64 y)) []
theorem ek115 {R:Type} {c:C115} (hs:Sp115 c):EOk 115 (e115 (R:=R) c):=qan fun v=>hs v.1
theorem sf115:Sp115 (F115):=fun p0 y hy=>by
 refine qae qad 1000000 (fn:=Tryd.f115) (by kernel_rfl) (by kernel_rfl) (X:=X115) (by kernel_rfl) ?_
 rw [eq115]
 exact (nt115 Ops.std p0 some (K1 k0)).trans (by show ob (F115 p0) _=_;rw [hy];rfl)
noncomputable def M115:C115:=F115
theorem sm115:Sp115 M115:=sf115
abbrev C148:Type:=L85→Int→Int→L78→Option (Bool×L85×Int×Int×L78)
def e148 {R:Type} (c:C148):Ent R:=eG [.aC (.cP 0)] [.oB 0 122 [.cL 85 ty85,.cI .i64,.cO 1002,.cI .i64],.oR 1002 78 ty78] fun v k=>ob (c v.1 v.2.1 v.2.2.1 v.2.2.2.1) (K16 k)
abbrev Sp148 (c:C148):Prop:=∀ (p0:L85) (p1 p2:Int) (p3:L78) (y:Bool×L85×Int×Int×L78),c p0 p1 p2 p3=some y→Spec Tryd.prog gl0 148 [.c (.ptr 0 0)] [(0,.box 122 [.list 85 ty85 p0,.int .i64 p1,.own 1002,.int .i64 p2]),(1002,.row 78 ty78 p3)] (.c (.bool y.1)) [(0,.box 122 [.list 85 ty85 y.2.1,.int .i64 y.2.2.1,.own 1002,.int .i64 y.2.2.2.1]),(1002,.row 78 ty78 y.2.2.2.2)]
theorem ek148 {R:Type} {c:C148} (hs:Sp148 c):EOk 148 (e148 (R:=R) c):=qan fun v=>hs v.1 v.2.1 v.2.2.1 v.2.2.2.1
abbrev C144:Type:=L85→Int→Int→L78→Option (Bool×L85×Int×Int×L78)
def e144 {R:Type} (c:C144):Ent R:=eG [.aC (.cP 0)] [.oB 0 122 [.cL 85 ty85,.cI .i64,.cO 1002,.cI .i64],.oR 1002 78 ty78] fun v k=>ob (c v.1 v.2.1 v.2.2.1 v.2.2.2.1) (K16 k)
abbrev Sp144 (c:C144):Prop:=∀ (p0:L85) (p1 p2:Int) (p3:L78) (y:Bool×L85×Int×Int×L78),c p0 p1 p2 p3=some y→Spec Tryd.prog gl0 144 [.c (.ptr 0 0)] [(0,.box 122 [.list 85 ty85 p0,.int .i64 p1,.own 1002,.int .i64 p2]),(1002,.row 78 ty78 p3)] (.c (.bool y.1)) [(0,.box 122 [.list 85 ty85 y.2.1,.int .i64 y.2.2.1,.own 1002,.int .i64 y.2.2.2.1]),(1002,.row 78 ty78 y.2.2.2.2)]
theorem ek144 {R:Type} {c:C144} (hs:Sp144 c):EOk 144 (e144 (R:=R) c):=qan fun v=>hs v.1 v.2.1 v.2.2.1 v.2.2.2.1
abbrev C179:Type:=L85→Int→Int→L78→Option (Bool×L85×Int×Int×L78)
def e179 {R:Type} (c:C179):Ent R:=eG [.aC (.cP 0),.aF 143 [],.aM 144 [.cP 0]] [.oB 0 122 [.cL 85 ty85,.cI .i64,.cO 1002,.cI .i64],.oR 1002 78 ty78] fun v k=>ob (c v.1 v.2.1 v.2.2.1 v.2.2.2.1) (K16 k)
abbrev Sp179 (c:C179):Prop:=∀ (p0:L85) (p1 p2:Int) (p3:L78) (y:Bool×L85×Int×Int×L78),c p0 p1 p2 p3=some y→Spec Tryd.prog gl0 114 [.c (.ptr 0 0),.fn 143 [],.bm 144 [.ptr 0 0]] [(0,.box 122 [.list 85 ty85 p0,.int .i64 p1,.own 1002,.int .i64 p2]),(1002,.row 78 ty78 p3)] (.c (.bool y.1)) [(0,.box 122 [.list 85 ty85 y.2.1,.int .i64 y.2.2.1,.own 1002,.int .i64 y.2.2.2.1]),(1002,.row 78 ty78 y.2.2.2.2)]
theorem ek179 {R:Type} {c:C179} (hs:Sp179 c):EOk 114 (e179 (R:=R) c):=qan fun v=>hs v.1 v.2.1 v.2.2.1 v.2.2.2.1
end Go.Proofs.YtkmpkebaloejhaaDoor.Av
