/- Twins of functions,printed by gen.py. Conditions: none. -/
import Derived.Test.YtccnmhdgghjgoaaCl1
import Derived.Test.YtccnmhdgghjgoaaGrow
import Derived.Test.YtccnmhdgghjgoaaOk
import Derived.KernelRfl
set_option linter.unusedSimpArgs false
set_option linter.unusedVariables false
set_option maxRecDepth 100000
set_option maxHeartbeats 8000000
namespace Go.Proofs.Ytccnmhdgghjgoaa.Av
open Go
abbrev LB:=List UInt8
abbrev rg:=List.range'
abbrev L3:=List ty3.den
abbrev L4:=List ty4.den
abbrev L9:=List ty9.den
abbrev L27:=List ty27.den
abbrev L36:=List ty36.den
abbrev L42:=List ty42.den
abbrev L49:=List ty49.den
abbrev L70:=List ty70.den
abbrev L73:=List ty73.den
abbrev L77:=List ty77.den
abbrev L97:=List ty97.den
abbrev L106:=List ty106.den
abbrev L124:=List ty124.den
abbrev L148:=List ty148.den
abbrev oE {R:Type} (l:List AV) (o:Objs) (x:Option R):Option R:=oNil l <| oNilO o <| x
theorem oE_some {R:Type} {l:List AV} {o:Objs} {x:Option R} {r:R} (h:oE l o x=some r):l=[]∧o=[]∧x=some r:=by
 obtain ⟨rfl,q1⟩:=oNil_some h
 obtain ⟨rfl,q2⟩:=oNilO_some q1
 exact ⟨rfl,rfl,q2⟩
abbrev oL {R:Type} (l:List AV) (n:Nat) (t:Ty) (f:List t.den→List AV→Option R):Option R:=oCons l fun a l=>oC a fun x=>cList n t x fun p=>f p l
theorem oL_some {R:Type} {l:List AV} {n:Nat} {t:Ty} {f:List t.den→List AV→Option R} {r:R} (h:oL l n t f=some r):∃ p l',l=.c (.list n t p)::l'∧f p l'=some r:=by
 obtain ⟨a,l',rfl,q1⟩:=qb7 h
 obtain ⟨x,rfl,q2⟩:=oC_some q1
 obtain ⟨p,rfl,q3⟩:=cList_some q2
 exact ⟨p,l',rfl,q3⟩
abbrev oI {R:Type} (l:List AV) (n:IntKind) (f:Int→List AV→Option R):Option R:=oCons l fun a l=>oC a fun x=>cInt n x fun p=>f p l
theorem oI_some {R:Type} {l:List AV} {n:IntKind} {f:Int→List AV→Option R} {r:R} (h:oI l n f=some r):∃ p l',l=.c (.int n p)::l'∧f p l'=some r:=by
 obtain ⟨a,l',rfl,q1⟩:=qb7 h
 obtain ⟨x,rfl,q2⟩:=oC_some q1
 obtain ⟨p,rfl,q3⟩:=cInt_some q2
 exact ⟨p,l',rfl,q3⟩
abbrev oS {R:Type} (l:List AV) (f:LB→List AV→Option R):Option R:=oCons l fun a l=>oC a fun x=>cStr x fun p=>f p l
theorem oS_some {R:Type} {l:List AV} {f:LB→List AV→Option R} {r:R} (h:oS l f=some r):∃ p l',l=.c (.str p)::l'∧f p l'=some r:=by
 obtain ⟨a,l',rfl,q1⟩:=qb7 h
 obtain ⟨x,rfl,q2⟩:=oC_some q1
 obtain ⟨p,rfl,q3⟩:=cStr_some q2
 exact ⟨p,l',rfl,q3⟩
inductive Dc where
 | cI (k:IntKind)
 | cB
 | cS
 | cL (e:Nat) (t:Ty)
 | cO (i:Nat)
 | cP (i:Nat)
 | cN
abbrev Dc.ty (d:Dc) (A:Type):Type:=match d with
 | .cI _=>Int×A
 | .cB=>Bool×A
 | .cS=>LB×A
 | .cL _ t=>List t.den×A
 | _=>A
def Dc.mk (d:Dc) {A:Type} (x:CV) (r:Option A):Option (d.ty A):=match d with
 | .cI k=>match x with
   | .int k' n=>if k'=k then ob r fun a=>some (n,a) else none
   | _=>none
 | .cB=>match x with
   | .bool n=>ob r fun a=>some (n,a)
   | _=>none
 | .cS=>match x with
   | .str n=>ob r fun a=>some (n,a)
   | _=>none
 | .cL e t=>match x with
   | .list e' t' xs=>match Ty.same t' t with
     | some ⟨h⟩=>bif Nat.beq e' e then ob r fun a=>some (h ▸ xs,a) else none
     | none=>none
   | _=>none
 | .cO i=>match x with
   | .own j=>bif Nat.beq j i then r else none
   | _=>none
 | .cP i=>match x with
   | .ptr j 0=>bif Nat.beq j i then r else none
   | _=>none
 | .cN=>match x with
   | .nil=>r
   | _=>none
abbrev Dc.to (d:Dc) {A:Type} (v:d.ty A):CV:=match d,v with
 | .cI k,v=>.int k v.1
 | .cB,v=>.bool v.1
 | .cS,v=>.str v.1
 | .cL e t,v=>.list e t v.1
 | .cO i,_=>.own i
 | .cP i,_=>.ptr i 0
 | .cN,_=>.nil
abbrev Dc.re (d:Dc) {A:Type} (v:d.ty A):A:=match d,v with
 | .cI _,v=>v.2
 | .cB,v=>v.2
 | .cS,v=>v.2
 | .cL _ _,v=>v.2
 | .cO _,v=>v
 | .cP _,v=>v
 | .cN,v=>v
theorem Dc.ok {d:Dc} {A:Type} {x:CV} {r:Option A} {v:d.ty A} (h:d.mk x r=some v):x=d.to v∧r=some (d.re v):=by
 cases d with
 | cI k=>
   simp only [Dc.mk] at h
   split at h
   ·split at h
    ·rename_i hk;subst hk;obtain ⟨a,h1,h2⟩:=qb6 h;cases h2;exact ⟨rfl,h1⟩
    ·cases h
   ·cases h
 | cB=>
   simp only [Dc.mk] at h
   split at h
   ·obtain ⟨a,h1,h2⟩:=qb6 h;cases h2;exact ⟨rfl,h1⟩
   ·cases h
 | cS=>
   simp only [Dc.mk] at h
   split at h
   ·obtain ⟨a,h1,h2⟩:=qb6 h;cases h2;exact ⟨rfl,h1⟩
   ·cases h
 | cL e t=>
   simp only [Dc.mk] at h
   split at h
   ·split at h
    ·rename_i e' t' xs _ hs heq
     subst hs
     cases hb:Nat.beq e' e with
     | false=>rw [hb] at h;cases h
     | true=>
       rw [hb] at h
       have:=Nat.eq_of_beq_eq_true hb
       subst this
       obtain ⟨a,h1,h2⟩:=qb6 h;cases h2;exact ⟨rfl,h1⟩
    ·cases h
   ·cases h
 | cO i=>
   simp only [Dc.mk] at h
   split at h
   ·rename_i j
    cases hb:Nat.beq j i with
    | false=>rw [hb] at h;cases h
    | true=>rw [hb] at h;have:=Nat.eq_of_beq_eq_true hb;subst this;exact ⟨rfl,h⟩
   ·cases h
 | cP i=>
   simp only [Dc.mk] at h
   split at h
   ·rename_i j
    cases hb:Nat.beq j i with
    | false=>rw [hb] at h;cases h
    | true=>rw [hb] at h;have:=Nat.eq_of_beq_eq_true hb;subst this;exact ⟨rfl,h⟩
   ·cases h
 | cN=>
   simp only [Dc.mk] at h
   split at h
   ·exact ⟨rfl,h⟩
   ·cases h
abbrev Dl.ty:List Dc→Type→Type
 | [],A=>A
 | d::l,A=>d.ty (Dl.ty l A)
def Dl.mk:(l:List Dc)→{A:Type}→List CV→Option A→Option (Dl.ty l A)
 | [],_,[],r=>r
 | d::l,_,x::xs,r=>d.mk x (Dl.mk l xs r)
 | [],_,_::_,_=>none
 | _::_,_,[],_=>none
abbrev Dl.to:(l:List Dc)→{A:Type}→Dl.ty l A→List CV
 | [],_,_=>[]
 | d::l,_,v=>d.to v::Dl.to l (d.re v)
abbrev Dl.re:(l:List Dc)→{A:Type}→Dl.ty l A→A
 | [],_,v=>v
 | d::l,_,v=>Dl.re l (d.re v)
theorem Dl.ok:∀ {l:List Dc} {A:Type} {xs:List CV} {r:Option A} {v:Dl.ty l A},Dl.mk l xs r=some v→xs=Dl.to l v∧r=some (Dl.re l v)
 | [],_,[],_,_,h=>⟨rfl,h⟩
 | d::l,_,x::xs,_,_,h=>by
   obtain ⟨h1,h2⟩:=Dc.ok h
   obtain ⟨h3,h4⟩:=Dl.ok h2
   exact ⟨by rw [h1,h3],h4⟩
 | [],_,_::_,_,_,h=>by cases h
 | _::_,_,[],_,_,h=>by cases h
inductive Da where
 | aC (d:Dc)
 | aG (l:List Dc)
 | aF (n:Nat) (l:List Dc)
 | aM (n:Nat) (l:List Dc)
abbrev Da.ty (d:Da) (A:Type):Type:=match d with
 | .aC d=>d.ty A
 | .aG l=>Dl.ty l A
 | .aF _ l=>Dl.ty l A
 | .aM _ l=>Dl.ty l A
def Da.mk (d:Da) {A:Type} (x:AV) (r:Option A):Option (d.ty A):=match d with
 | .aC d=>match x with
   | .c x=>d.mk x r
   | _=>none
 | .aG l=>match x with
   | .agg x=>Dl.mk l x r
   | _=>none
 | .aF n l=>match x with
   | .fn k x=>bif Nat.beq k n then Dl.mk l x r else none
   | _=>none
 | .aM n l=>match x with
   | .bm k x=>bif Nat.beq k n then Dl.mk l x r else none
   | _=>none
abbrev Da.to (d:Da) {A:Type} (v:d.ty A):AV:=match d,v with
 | .aC d,v=>.c (d.to v)
 | .aG l,v=>.agg (Dl.to l v)
 | .aF n l,v=>.fn n (Dl.to l v)
 | .aM n l,v=>.bm n (Dl.to l v)
abbrev Da.re (d:Da) {A:Type} (v:d.ty A):A:=match d,v with
 | .aC d,v=>d.re v
 | .aG l,v=>Dl.re l v
 | .aF _ l,v=>Dl.re l v
 | .aM _ l,v=>Dl.re l v
theorem Da.ok {d:Da} {A:Type} {x:AV} {r:Option A} {v:d.ty A} (h:d.mk x r=some v):x=d.to v∧r=some (d.re v):=by
 cases d with
 | aC d=>
   simp only [Da.mk] at h
   split at h
   ·obtain ⟨h1,h2⟩:=Dc.ok h;exact ⟨by rw [h1],h2⟩
   ·cases h
 | aG l=>
   simp only [Da.mk] at h
   split at h
   ·obtain ⟨h1,h2⟩:=Dl.ok h;exact ⟨by rw [h1],h2⟩
   ·cases h
 | aF n l=>
   simp only [Da.mk] at h
   split at h
   ·rename_i k x
    cases hb:Nat.beq k n with
    | false=>rw [hb] at h;cases h
    | true=>rw [hb] at h;have:=Nat.eq_of_beq_eq_true hb;subst this;obtain ⟨h1,h2⟩:=Dl.ok h;exact ⟨by rw [h1],h2⟩
   ·cases h
 | aM n l=>
   simp only [Da.mk] at h
   split at h
   ·rename_i k x
    cases hb:Nat.beq k n with
    | false=>rw [hb] at h;cases h
    | true=>rw [hb] at h;have:=Nat.eq_of_beq_eq_true hb;subst this;obtain ⟨h1,h2⟩:=Dl.ok h;exact ⟨by rw [h1],h2⟩
   ·cases h
abbrev Ds.ty:List Da→Type→Type
 | [],A=>A
 | d::l,A=>d.ty (Ds.ty l A)
def Ds.mk:(l:List Da)→{A:Type}→List AV→Option A→Option (Ds.ty l A)
 | [],_,[],r=>r
 | d::l,_,x::xs,r=>d.mk x (Ds.mk l xs r)
 | [],_,_::_,_=>none
 | _::_,_,[],_=>none
abbrev Ds.to:(l:List Da)→{A:Type}→Ds.ty l A→List AV
 | [],_,_=>[]
 | d::l,_,v=>d.to v::Ds.to l (d.re v)
abbrev Ds.re:(l:List Da)→{A:Type}→Ds.ty l A→A
 | [],_,v=>v
 | d::l,_,v=>Ds.re l (d.re v)
theorem Ds.ok:∀ {l:List Da} {A:Type} {xs:List AV} {r:Option A} {v:Ds.ty l A},Ds.mk l xs r=some v→xs=Ds.to l v∧r=some (Ds.re l v)
 | [],_,[],_,_,h=>⟨rfl,h⟩
 | d::l,_,x::xs,_,_,h=>by
   obtain ⟨h1,h2⟩:=Da.ok h
   obtain ⟨h3,h4⟩:=Ds.ok h2
   exact ⟨by rw [h1,h3],h4⟩
 | [],_,_::_,_,_,h=>by cases h
 | _::_,_,[],_,_,h=>by cases h
inductive Do where
 | oR (k e:Nat) (t:Ty)
 | oB (k e:Nat) (l:List Dc)
abbrev Do.ty (d:Do) (A:Type):Type:=match d with
 | .oR _ _ t=>List t.den×A
 | .oB _ _ l=>Dl.ty l A
def Do.mk (d:Do) {A:Type} (x:Nat×Obj) (r:Option A):Option (d.ty A):=match d with
 | .oR k e t=>match x with
   | (k',.row e' t' xs)=>bif Nat.beq k' k then (Dc.cL e t).mk (.list e' t' xs) r else none
   | _=>none
 | .oB k e l=>match x with
   | (k',.box e' x)=>bif Nat.beq k' k && Nat.beq e' e then Dl.mk l x r else none
   | _=>none
abbrev Do.to (d:Do) {A:Type} (v:d.ty A):Nat×Obj:=match d,v with
 | .oR k e t,v=>(k,.row e t v.1)
 | .oB k e l,v=>(k,.box e (Dl.to l v))
abbrev Do.re (d:Do) {A:Type} (v:d.ty A):A:=match d,v with
 | .oR _ _ _,v=>v.2
 | .oB _ _ l,v=>Dl.re l v
theorem Do.ok {d:Do} {A:Type} {x:Nat×Obj} {r:Option A} {v:d.ty A} (h:d.mk x r=some v):x=d.to v∧r=some (d.re v):=by
 cases d with
 | oR k e t=>
   simp only [Do.mk] at h
   split at h
   ·rename_i k' e' t' xs
    cases hb:Nat.beq k' k with
    | false=>rw [hb] at h;cases h
    | true=>
      rw [hb] at h
      have:=Nat.eq_of_beq_eq_true hb
      subst this
      have h:(Dc.cL e t).mk (.list e' t' xs) r=some v:=h
      obtain ⟨h1,h2⟩:=Dc.ok h
      have h1:CV.list e' t' xs=.list e t v.1:=h1
      cases h1
      exact ⟨rfl,h2⟩
   ·cases h
 | oB k e l=>
   simp only [Do.mk] at h
   split at h
   ·rename_i k' e' x
    cases hb:(Nat.beq k' k && Nat.beq e' e) with
    | false=>rw [hb] at h;cases h
    | true=>
      rw [hb] at h
      simp only [Bool.and_eq_true] at hb
      have:=Nat.eq_of_beq_eq_true hb.1
      subst this
      have:=Nat.eq_of_beq_eq_true hb.2
      subst this
      obtain ⟨h1,h2⟩:=Dl.ok h
      exact ⟨by rw [h1],h2⟩
   ·cases h
abbrev Dp.ty:List Do→Type
 | []=>Unit
 | d::l=>d.ty (Dp.ty l)
def Dp.mk:(l:List Do)→Objs→Option (Dp.ty l)
 | [],[]=>some ()
 | d::l,x::xs=>d.mk x (Dp.mk l xs)
 | [],_::_=>none
 | _::_,[]=>none
abbrev Dp.to:(l:List Do)→Dp.ty l→Objs
 | [],_=>[]
 | d::l,v=>d.to v::Dp.to l (d.re v)
theorem Dp.ok:∀ {l:List Do} {xs:Objs} {v:Dp.ty l},Dp.mk l xs=some v→xs=Dp.to l v
 | [],[],_,_=>rfl
 | d::l,x::xs,_,h=>by
   obtain ⟨h1,h2⟩:=Do.ok h
   rw [h1,Dp.ok h2]
 | [],_::_,_,h=>by cases h
 | _::_,[],_,h=>by cases h
/-- an entry,by what it is handed -/
def eG {R:Type} (l:List Da) (o:List Do) (g:Ds.ty l (Dp.ty o)→(AV→Objs→Option R)→Option R):Ent R:=fun a b k=>ob (Ds.mk l a (Dp.mk o b)) fun v=>g v k
theorem qah {R α:Type} {l:List Da} {o:List Do} {f:Nat} {m:Ds.ty l (Dp.ty o)→Option α} {V:α→AV} {O:α→Objs} (hs:∀ v y,m v=some y→Spec Try.prog gl0 f (Ds.to l v) (Dp.to o (Ds.re l v)) (V y) (O y)) :
  EOk (R:=R) f (eG l o fun v k=>ob (m v) fun y=>k (V y) (O y)):=fun args objs k r h=>by
 obtain ⟨v,h1,h2⟩:=qb6 h
 obtain ⟨e1,e2⟩:=Ds.ok h1
 rw [e1,Dp.ok e2]
 exact eok_of (hs v) h2
def X132:Aux:=⟨[],[]⟩
def T132 {R:Type} (B:Ops) (p0:Int) (k:(Bool)→Option R):Option R:=cond (B.le 97 p0) (cond (B.le p0 122) (k true) (k (B.eq p0 95))) (k (B.eq p0 95))
abbrev K1 {R:Type} (k:AV→Objs→Option R) (y:(Bool)):Option R:=k (.c (.bool y)) []
theorem eq132 {R:Type} (B:Ops) (p0:Int) (k:AV→Objs→Option R) (n:Nat):afun tau B gl0 X132 gnil ow Try.f132 [.c (.int .u8 p0)] [] k n=T132 B p0 (K1 k):=by kernel_rfl
theorem nt132 {R R':Type} (B:Ops) (p0:Int) (k0:(Bool)→Option R') (k:R'→Option R):T132 B p0 (fun y=>ob (k0 y) k)=ob (T132 B p0 k0) k:=by
 unfold T132
 repeat' first | exact rfl | apply qaa | (apply qaf;intro)
def F132 (p0:Int):Option (Bool):=T132 Ops.std p0 some
abbrev C132:Type:=Int→Option (Bool)
def e132 {R:Type} (c:C132):Ent R:=eG [.aC (.cI .u8)] [] fun v k=>ob (c v.1) (K1 k)
abbrev Sp132 (c:C132):Prop:=∀ (p0:Int) (y:Bool),c p0=some y→Spec Try.prog gl0 132 [.c (.int .u8 p0)] [] (.c (.bool y)) []
theorem ek132 {R:Type} {c:C132} (hs:Sp132 c):EOk 132 (e132 (R:=R) c):=qah fun v=>hs v.1
theorem sf132:Sp132 (F132):=fun p0 y hy=>by
 refine qae qad 1000000 (fn:=Try.f132) (by kernel_rfl) (by kernel_rfl) (X:=X132) (by kernel_rfl) ?_
 rw [eq132]
 exact (nt132 Ops.std p0 some (K1 k0)).trans (by show ob (F132 p0) _=_;rw [hy];rfl)
noncomputable def M132:C132:=F132
theorem sm132:Sp132 M132:=sf132
def X137:Aux:=⟨[],[]⟩
def T137 {R:Type} (B:Ops) (p0:Int) (k:(Bool)→Option R):Option R:=cond (B.le 48 p0) (k (B.le p0 57)) (k false)
theorem eq137 {R:Type} (B:Ops) (p0:Int) (k:AV→Objs→Option R) (n:Nat):afun tau B gl0 X137 gnil ow Try.f137 [.c (.int .u8 p0)] [] k n=T137 B p0 (K1 k):=by kernel_rfl
theorem nt137 {R R':Type} (B:Ops) (p0:Int) (k0:(Bool)→Option R') (k:R'→Option R):T137 B p0 (fun y=>ob (k0 y) k)=ob (T137 B p0 k0) k:=by
 unfold T137
 repeat' first | exact rfl | apply qaa | (apply qaf;intro)
def F137 (p0:Int):Option (Bool):=T137 Ops.std p0 some
abbrev C137:Type:=Int→Option (Bool)
def e137 {R:Type} (c:C137):Ent R:=eG [.aC (.cI .u8)] [] fun v k=>ob (c v.1) (K1 k)
abbrev Sp137 (c:C137):Prop:=∀ (p0:Int) (y:Bool),c p0=some y→Spec Try.prog gl0 137 [.c (.int .u8 p0)] [] (.c (.bool y)) []
theorem ek137 {R:Type} {c:C137} (hs:Sp137 c):EOk 137 (e137 (R:=R) c):=qah fun v=>hs v.1
theorem sf137:Sp137 (F137):=fun p0 y hy=>by
 refine qae qad 1000000 (fn:=Try.f137) (by kernel_rfl) (by kernel_rfl) (X:=X137) (by kernel_rfl) ?_
 rw [eq137]
 exact (nt137 Ops.std p0 some (K1 k0)).trans (by show ob (F137 p0) _=_;rw [hy];rfl)
noncomputable def M137:C137:=F137
theorem sm137:Sp137 M137:=sf137
def X134:Aux:=⟨[],[]⟩
def T134 {R:Type} (B:Ops) (c132:C132) (c137:C137) (p0:Int) (k:(Bool)→Option R):Option R:=ob (c132 p0) fun y0=>cond (y0) (k true) (ob (c137 p0) fun y1=>k y1)
theorem eq134 {R:Type} (B:Ops) (c132:C132) (c137:C137) (p0:Int) (k:AV→Objs→Option R) (n:Nat):afun tau B gl0 X134 (ent 132 (e132 c132) (ent 137 (e137 c137) gnil)) ow Try.f134 [.c (.int .u8 p0)] [] k n=T134 B c132 c137 p0 (K1 k):=by kernel_rfl
theorem nt134 {R R':Type} (B:Ops) (c132:C132) (c137:C137) (p0:Int) (k0:(Bool)→Option R') (k:R'→Option R):T134 B c132 c137 p0 (fun y=>ob (k0 y) k)=ob (T134 B c132 c137 p0 k0) k:=by
 unfold T134
 repeat' first | exact rfl | apply qaa | (apply qaf;intro)
def F134 (c132:C132) (c137:C137) (p0:Int):Option (Bool):=T134 Ops.std c132 c137 p0 some
abbrev C134:Type:=Int→Option (Bool)
def e134 {R:Type} (c:C134):Ent R:=eG [.aC (.cI .u8)] [] fun v k=>ob (c v.1) (K1 k)
abbrev Sp134 (c:C134):Prop:=∀ (p0:Int) (y:Bool),c p0=some y→Spec Try.prog gl0 134 [.c (.int .u8 p0)] [] (.c (.bool y)) []
theorem ek134 {R:Type} {c:C134} (hs:Sp134 c):EOk 134 (e134 (R:=R) c):=qah fun v=>hs v.1
theorem sf134 {c132:C132} {c137:C137} (h132:Sp132 c132) (h137:Sp137 c137):Sp134 (F134 c132 c137):=fun p0 y hy=>by
 refine qae (qac (ek132 h132) (qac (ek137 h137) qad)) 1000000 (fn:=Try.f134) (by kernel_rfl) (by kernel_rfl) (X:=X134) (by kernel_rfl) ?_
 rw [eq134]
 exact (nt134 Ops.std c132 c137 p0 some (K1 k0)).trans (by show ob (F134 c132 c137 p0) _=_;rw [hy];rfl)
noncomputable def M134:C134:=F134 M132 M137
theorem sm134:Sp134 M134:=sf134 sm132 sm137
def X133:Aux:=⟨[(2,([2,3,4]++rg 6 16))],[]⟩
inductive S133 where
 | l0 (v1:Int)
def T133 {R:Type} (B:Ops) (c134:C134) (p0:LB) (again:S133→Option R) (k:(LB)→Option R):Option S133→Option R | none=>again (.l0 0) | some (.l0 v1)=>cond (B.lt v1 (↑p0.length)) (cond (B.inb v1 p0.length) (ob (c134 (Nat.cast (UInt8.toNat (p0.getD v1.toNat 0)))) fun y0=>cond (y0) (again (.l0 (IntKind.wrap .i64 (v1+1)))) (cond (B.inb v1 (List.length p0+1)) (k (List.drop 0 (List.take v1.toNat p0))) none)) none) (cond (B.inb v1 (List.length p0+1)) (k (List.drop 0 (List.take v1.toNat p0))) none)
def E133 (p0:LB):S133→List AV×Objs
 | .l0 v1=>(mk 22 [(0,.c (.str p0)),(1,.fn 134 []),(5,.c (.int .i64 v1))],[])
def I133:S133→Nat
 | .l0 _=>0
abbrev K2 {R:Type} (k:AV→Objs→Option R) (y:(LB)):Option R:=k (.c (.str y)) []
noncomputable abbrev A133 {R:Type} (B:Ops) (c134:C134) (p0:LB) (k:AV→Objs→Option R) (s:S133) (n:Nat):Option R:=aloop tau B gl0 X133 (ent 134 (e134 c134) gnil) ow [] Try.f133 k (I133 s) (E133 p0 s) n
theorem eq133 {R:Type} (B:Ops) (c134:C134) (p0:LB) (k:AV→Objs→Option R) (n:Nat):afun tau B gl0 X133 (ent 134 (e134 c134) gnil) ow Try.f133 [.c (.str p0),.fn 134 []] [] k n=T133 B c134 p0 (fun s=>A133 B c134 p0 k s n) (K2 k) none:=by kernel_rfl
theorem el133 {R:Type} (B:Ops) (c134:C134) (p0:LB) (k:AV→Objs→Option R) (n:Nat):∀ s,A133 B c134 p0 k s (n+1)=T133 B c134 p0 (fun s=>A133 B c134 p0 k s n) (K2 k) (some s):=by
 intro s
 cases s<;>kernel_rfl
theorem nt133 {R R':Type} (B:Ops) (c134:C134) (p0:LB) (again:S133→Option R) (again':S133→Option R') (k0:(LB)→Option R') (k:R'→Option R) (h:∀ s,again s=ob (again' s) k):∀ s,T133 B c134 p0 again (fun y=>ob (k0 y) k) s=ob (T133 B c134 p0 again' k0 s) k:=by
 rintro (_ | x)
 all_goals try cases x
 all_goals (unfold T133;repeat' first | exact rfl | exact h _ | apply qaa | (apply qaf;intro))
def R133 (c134:C134) (p0:LB):Nat→S133→Option (LB)
 | 0,_=>none
 | n+1,s=>T133 Ops.std c134 p0 (R133 c134 p0 n) some (some s)
theorem rr133 {R:Type} (c134:C134) (p0:LB) (k:AV→Objs→Option R):∀ (n:Nat) (s:S133),A133 Ops.std c134 p0 k s n=ob (R133 c134 p0 n s) (K2 k)
 | 0,s=>by cases s<;>rfl
 | n+1,s=>by rw [el133];exact nt133 Ops.std c134 p0 _ _ some (K2 k) (rr133 c134 p0 k n) (some s)
def F133 (c134:C134) (p0:LB):Option (LB):=T133 Ops.std c134 p0 (R133 c134 p0 1000000) some none
abbrev C133:Type:=LB→Option (LB)
def e133 {R:Type} (c:C133):Ent R:=eG [.aC .cS,.aF 134 []] [] fun v k=>ob (c v.1) (K2 k)
abbrev Sp133 (c:C133):Prop:=∀ (p0 y:LB),c p0=some y→Spec Try.prog gl0 133 [.c (.str p0),.fn 134 []] [] (.c (.str y)) []
theorem ek133 {R:Type} {c:C133} (hs:Sp133 c):EOk 133 (e133 (R:=R) c):=qah fun v=>hs v.1
theorem sf133 {c134:C134} (h134:Sp134 c134):Sp133 (F133 c134):=fun p0 y hy=>by
 refine qae (qac (ek134 h134) qad) 1000000 (fn:=Try.f133) (by kernel_rfl) (by kernel_rfl) (X:=X133) (by kernel_rfl) ?_
 rw [eq133]
 exact (nt133 Ops.std c134 p0 _ _ some (K2 k0) (rr133 c134 p0 k0 1000000) none).trans (by show ob (F133 c134 p0) _=_;rw [hy];rfl)
noncomputable def M133:C133:=F133 M134
theorem sm133:Sp133 M133:=sf133 sm134
def X157:Aux:=⟨[(2,([2,3,4]++rg 6 16))],[]⟩
inductive S157 where
 | l0 (v1:Int)
def T157 {R:Type} (B:Ops) (c137:C137) (p0:LB) (again:S157→Option R) (k:(LB)→Option R):Option S157→Option R | none=>again (.l0 0) | some (.l0 v1)=>cond (B.lt v1 (↑p0.length)) (cond (B.inb v1 p0.length) (ob (c137 (Nat.cast (UInt8.toNat (p0.getD v1.toNat 0)))) fun y0=>cond (y0) (again (.l0 (IntKind.wrap .i64 (v1+1)))) (cond (B.inb v1 (List.length p0+1)) (k (List.drop 0 (List.take v1.toNat p0))) none)) none) (cond (B.inb v1 (List.length p0+1)) (k (List.drop 0 (List.take v1.toNat p0))) none)
def E157 (p0:LB):S157→List AV×Objs
 | .l0 v1=>(mk 22 [(0,.c (.str p0)),(1,.fn 137 []),(5,.c (.int .i64 v1))],[])
def I157:S157→Nat
 | .l0 _=>0
noncomputable abbrev A157 {R:Type} (B:Ops) (c137:C137) (p0:LB) (k:AV→Objs→Option R) (s:S157) (n:Nat):Option R:=aloop tau B gl0 X157 (ent 137 (e137 c137) gnil) ow [] Try.f133 k (I157 s) (E157 p0 s) n
theorem eq157 {R:Type} (B:Ops) (c137:C137) (p0:LB) (k:AV→Objs→Option R) (n:Nat):afun tau B gl0 X157 (ent 137 (e137 c137) gnil) ow Try.f133 [.c (.str p0),.fn 137 []] [] k n=T157 B c137 p0 (fun s=>A157 B c137 p0 k s n) (K2 k) none:=by kernel_rfl
theorem el157 {R:Type} (B:Ops) (c137:C137) (p0:LB) (k:AV→Objs→Option R) (n:Nat):∀ s,A157 B c137 p0 k s (n+1)=T157 B c137 p0 (fun s=>A157 B c137 p0 k s n) (K2 k) (some s):=by
 intro s
 cases s<;>kernel_rfl
theorem nt157 {R R':Type} (B:Ops) (c137:C137) (p0:LB) (again:S157→Option R) (again':S157→Option R') (k0:(LB)→Option R') (k:R'→Option R) (h:∀ s,again s=ob (again' s) k):∀ s,T157 B c137 p0 again (fun y=>ob (k0 y) k) s=ob (T157 B c137 p0 again' k0 s) k:=by
 rintro (_ | x)
 all_goals try cases x
 all_goals (unfold T157;repeat' first | exact rfl | exact h _ | apply qaa | (apply qaf;intro))
def R157 (c137:C137) (p0:LB):Nat→S157→Option (LB)
 | 0,_=>none
 | n+1,s=>T157 Ops.std c137 p0 (R157 c137 p0 n) some (some s)
theorem rr157 {R:Type} (c137:C137) (p0:LB) (k:AV→Objs→Option R):∀ (n:Nat) (s:S157),A157 Ops.std c137 p0 k s n=ob (R157 c137 p0 n s) (K2 k)
 | 0,s=>by cases s<;>rfl
 | n+1,s=>by rw [el157];exact nt157 Ops.std c137 p0 _ _ some (K2 k) (rr157 c137 p0 k n) (some s)
def F157 (c137:C137) (p0:LB):Option (LB):=T157 Ops.std c137 p0 (R157 c137 p0 1000000) some none
abbrev C157:Type:=LB→Option (LB)
def e157 {R:Type} (c:C157):Ent R:=eG [.aC .cS,.aF 137 []] [] fun v k=>ob (c v.1) (K2 k)
abbrev Sp157 (c:C157):Prop:=∀ (p0 y:LB),c p0=some y→Spec Try.prog gl0 133 [.c (.str p0),.fn 137 []] [] (.c (.str y)) []
theorem ek157 {R:Type} {c:C157} (hs:Sp157 c):EOk 133 (e157 (R:=R) c):=qah fun v=>hs v.1
theorem sf157 {c137:C137} (h137:Sp137 c137):Sp157 (F157 c137):=fun p0 y hy=>by
 refine qae (qac (ek137 h137) qad) 1000000 (fn:=Try.f133) (by kernel_rfl) (by kernel_rfl) (X:=X157) (by kernel_rfl) ?_
 rw [eq157]
 exact (nt157 Ops.std c137 p0 _ _ some (K2 k0) (rr157 c137 p0 k0 1000000) none).trans (by show ob (F157 c137 p0) _=_;rw [hy];rfl)
noncomputable def M157:C157:=F157 M137
theorem sm157:Sp157 M157:=sf157 sm137
def X130:Aux:=⟨[],[]⟩
def T130 {R:Type} (B:Ops) (c132:C132) (c133:C133) (c157:C157) (c134:C134) (p0:LB) (k:(Bool)→Option R):Option R:=cond (!p0 == mt UInt8) (cond (B.le (↑p0.length) 8) (cond (B.inb 0 p0.length) (ob (c132 (Nat.cast (UInt8.toNat (p0.getD (Int.toNat 0) 0)))) fun y0=>cond (y0) (ob (c133 p0) fun y1=>k (y1 == p0)) (k false)) none) (k false)) (k false)
theorem eq130 {R:Type} (B:Ops) (c132:C132) (c133:C133) (c157:C157) (c134:C134) (p0:LB) (k:AV→Objs→Option R) (n:Nat):afun tau B gl0 X130 (ent 132 (e132 c132) (ent 133 (eAlt 1 134 (e133 c133) (e157 c157)) (ent 134 (e134 c134) gnil))) ow Try.f130 [.c (.str p0)] [] k n=T130 B c132 c133 c157 c134 p0 (K1 k):=by kernel_rfl
theorem nt130 {R R':Type} (B:Ops) (c132:C132) (c133:C133) (c157:C157) (c134:C134) (p0:LB) (k0:(Bool)→Option R') (k:R'→Option R):T130 B c132 c133 c157 c134 p0 (fun y=>ob (k0 y) k)=ob (T130 B c132 c133 c157 c134 p0 k0) k:=by
 unfold T130
 repeat' first | exact rfl | apply qaa | (apply qaf;intro)
def F130 (c132:C132) (c133:C133) (c157:C157) (c134:C134) (p0:LB):Option (Bool):=T130 Ops.std c132 c133 c157 c134 p0 some
abbrev C130:Type:=LB→Option (Bool)
def e130 {R:Type} (c:C130):Ent R:=eG [.aC .cS] [] fun v k=>ob (c v.1) (K1 k)
abbrev Sp130 (c:C130):Prop:=∀ (p0:LB) (y:Bool),c p0=some y→Spec Try.prog gl0 130 [.c (.str p0)] [] (.c (.bool y)) []
theorem ek130 {R:Type} {c:C130} (hs:Sp130 c):EOk 130 (e130 (R:=R) c):=qah fun v=>hs v.1
theorem sf130 {c132:C132} {c133:C133} {c157:C157} {c134:C134} (h132:Sp132 c132) (h133:Sp133 c133) (h157:Sp157 c157) (h134:Sp134 c134):Sp130 (F130 c132 c133 c157 c134):=fun p0 y hy=>by
 refine qae (G:=ent 132 (e132 c132) (ent 133 (eAlt 1 134 (e133 c133) (e157 c157)) (ent 134 (e134 c134) gnil))) (qac (ek132 h132) (qac (qbq (ek133 h133) (ek157 h157)) (qac (ek134 h134) qad))) 1000000 (fn:=Try.f130) (by kernel_rfl) (by kernel_rfl) (X:=X130) (by kernel_rfl) ?_
 rw [eq130]
 exact (nt130 Ops.std c132 c133 c157 c134 p0 some (K1 k0)).trans (by show ob (F130 c132 c133 c157 c134 p0) _=_;rw [hy];rfl)
noncomputable def M130:C130:=F130 M132 M133 M157 M134
theorem sm130:Sp130 M130:=sf130 sm132 sm133 sm157 sm134
def X114:Aux:=⟨[(3,([0,1,2,4,5,6]++rg 10 14))],[]⟩
inductive S114 where
 | l0 (v1 v2:Int) (v3:List (LB×Bool))
def T114 {R:Type} (B:Ops) (c130:C130) (p0:L9) (again:S114→Option R) (k:(Bool)→Option R):Option S114→Option R | none=>again (.l0 (↑p0.length) 0 (mt (Ty.den Ty.str×Ty.den Ty.bool))) | some (.l0 v1 v2 v3)=>cond (B.lt v2 v1) (cond (B.inb v2 p0.length) (ob (c130 (p0.getD v2.toNat ty9.dflt)) fun y0=>cond (!y0) (k false) (cond (Option.getD (mget Ty.str v3 (p0.getD v2.toNat ty9.dflt)) (Ty.dflt Ty.bool)) (k false) (again (.l0 v1 (IntKind.wrap .i64 (v2+1)) (mput Ty.str v3 (p0.getD v2.toNat ty9.dflt) true))))) none) (k true)
def E114 (p0:L9):S114→List AV×Objs
 | .l0 v1 v2 v3=>(mk 24 [(3,.c (.own 3)),(7,.c (.list 9 ty9 p0)),(8,.c (.int .i64 v1)),(9,.c (.int .i64 v2))],[(3,.mp 166 .str .bool v3)])
def I114:S114→Nat
 | .l0 _ _ _=>0
noncomputable abbrev A114 {R:Type} (B:Ops) (c130:C130) (p0:L9) (k:AV→Objs→Option R) (s:S114) (n:Nat):Option R:=aloop tau B gl0 X114 (ent 130 (e130 c130) gnil) ow [] Try.f114 k (I114 s) (E114 p0 s) n
theorem eq114 {R:Type} (B:Ops) (c130:C130) (p0:L9) (k:AV→Objs→Option R) (n:Nat):afun tau B gl0 X114 (ent 130 (e130 c130) gnil) ow Try.f114 [.c (.list 9 ty9 p0)] [] k n=T114 B c130 p0 (fun s=>A114 B c130 p0 k s n) (K1 k) none:=by kernel_rfl
theorem el114 {R:Type} (B:Ops) (c130:C130) (p0:L9) (k:AV→Objs→Option R) (n:Nat):∀ s,A114 B c130 p0 k s (n+1)=T114 B c130 p0 (fun s=>A114 B c130 p0 k s n) (K1 k) (some s):=by
 intro s
 cases s<;>kernel_rfl
theorem nt114 {R R':Type} (B:Ops) (c130:C130) (p0:L9) (again:S114→Option R) (again':S114→Option R') (k0:(Bool)→Option R') (k:R'→Option R) (h:∀ s,again s=ob (again' s) k):∀ s,T114 B c130 p0 again (fun y=>ob (k0 y) k) s=ob (T114 B c130 p0 again' k0 s) k:=by
 rintro (_ | x)
 all_goals try cases x
 all_goals (unfold T114;repeat' first | exact rfl | exact h _ | apply qaa | (apply qaf;intro))
def R114 (c130:C130) (p0:L9):Nat→S114→Option (Bool)
 | 0,_=>none
 | n+1,s=>T114 Ops.std c130 p0 (R114 c130 p0 n) some (some s)
theorem rr114 {R:Type} (c130:C130) (p0:L9) (k:AV→Objs→Option R):∀ (n:Nat) (s:S114),A114 Ops.std c130 p0 k s n=ob (R114 c130 p0 n s) (K1 k)
 | 0,s=>by cases s<;>rfl
 | n+1,s=>by rw [el114];exact nt114 Ops.std c130 p0 _ _ some (K1 k) (rr114 c130 p0 k n) (some s)
def F114 (c130:C130) (p0:L9):Option (Bool):=T114 Ops.std c130 p0 (R114 c130 p0 1000000) some none
abbrev C114:Type:=L9→Option (Bool)
def e114 {R:Type} (c:C114):Ent R:=eG [.aC (.cL 9 ty9)] [] fun v k=>ob (c v.1) (K1 k)
abbrev Sp114 (c:C114):Prop:=∀ (p0:L9) (y:Bool),c p0=some y→Spec Try.prog gl0 114 [.c (.list 9 ty9 p0)] [] (.c (.bool y)) []
theorem ek114 {R:Type} {c:C114} (hs:Sp114 c):EOk 114 (e114 (R:=R) c):=qah fun v=>hs v.1
theorem sf114 {c130:C130} (h130:Sp130 c130):Sp114 (F114 c130):=fun p0 y hy=>by
 refine qae (qac (ek130 h130) qad) 1000000 (fn:=Try.f114) (by kernel_rfl) (by kernel_rfl) (X:=X114) (by kernel_rfl) ?_
 rw [eq114]
 exact (nt114 Ops.std c130 p0 _ _ some (K1 k0) (rr114 c130 p0 k0 1000000) none).trans (by show ob (F114 c130 p0) _=_;rw [hy];rfl)
noncomputable def M114:C114:=F114 M130
theorem sm114:Sp114 M114:=sf114 sm130
def X19:Aux:=⟨[(4,([0,2,3]++rg 8 10++rg 21 33)),(9,([0,1,2,3]++rg 8 27++rg 38 16))],[(13,.lin [0,1,2,3])]⟩
inductive S19 where
 | l0 (v2 v3:Int) (v12:L77)
 | l1 (v1 v2:Int) (v11 v12:L77)
def T19 {R:Type} (B:Ops) (p0 p1:L3) (again:S19→Option R) (k:(L70×L73×L124×L77×L77)→Option R):Option S19→Option R | none=>again (.l0 (↑p0.length) 0 (mt (Ty.den ty77))) | some (.l0 v2 v3 v12)=>cond (B.lt v3 v2) (cond (B.inb v3 p0.length) (cond (B.lim (List.length v12+List.length (((0::mt (Ty.den (Ty.int .i64)),p0.getD v3.toNat ty3.dflt::mt (Ty.den (Ty.int .i64))),mt (Ty.den (Ty.int .i64)))::mt (Ty.den ty77))) 72) (again (.l0 v2 (IntKind.wrap .i64 (v3+1)) (v12++((0::mt (Ty.den (Ty.int .i64)),p0.getD v3.toNat ty3.dflt::mt (Ty.den (Ty.int .i64))),mt (Ty.den (Ty.int .i64)))::mt (Ty.den ty77)))) none) none) (again (.l1 (↑p1.length) 0 v12 ((mt (Ty.den ty77))))) | some (.l1 v1 v2 v11 v12)=>cond (B.lt v2 v1) (cond (B.inb v2 p1.length) (cond (B.lim (List.length v12+List.length (((0::mt (Ty.den (Ty.int .i64)),p1.getD v2.toNat ty3.dflt::mt (Ty.den (Ty.int .i64))),mt (Ty.den (Ty.int .i64)))::mt (Ty.den ty77))) 72) (again (.l1 v1 (IntKind.wrap .i64 (v2+1)) v11 (v12++((0::mt (Ty.den (Ty.int .i64)),p1.getD v2.toNat ty3.dflt::mt (Ty.den (Ty.int .i64))),mt (Ty.den (Ty.int .i64)))::mt (Ty.den ty77)))) none) none) (k ((((([120]:LB),0,9,0)::mt (Ty.den ty70)),((([112]:LB),([97]:LB)::mt (Ty.den Ty.str))::mt (Ty.den ty73)),(mt (Ty.den ty124)),v11,v12)))
def E19 (p0 p1:L3):S19→List AV×Objs
 | .l0 v2 v3 v12=>(mk 54 [(1,.c (.list 3 ty3 p1)),(4,.c (.ptr 4 0)),(5,.c (.ptr 5 0)),(6,.c (.ptr 6 0)),(7,.c (.ptr 7 0)),(18,.c (.list 3 ty3 p0)),(19,.c (.int .i64 v2)),(20,.c (.int .i64 v3))],[(4,.box 41 [.own 5000,.own 5001,.own 5002]),(5,.box 44 [.own 6000,.own 6001]),(6,.box 41 [.own 7000,.own 7001,.own 7002]),(7,.box 44 [.own 8000,.own 8001]),(5000,.row 70 ty70 (mt (Ty.den ty70))),(5001,.row 73 ty73 (mt (Ty.den ty73))),(5002,.row 124 ty124 (mt (Ty.den ty124))),(6000,.row 77 ty77 (mt (Ty.den ty77))),(6001,.row 77 ty77 (mt (Ty.den ty77))),(7000,.row 70 ty70 ((([120]:LB),0,9,0)::mt (Ty.den ty70))),(7001,.row 73 ty73 ((([112]:LB),([97]:LB)::mt (Ty.den Ty.str))::mt (Ty.den ty73))),(7002,.row 124 ty124 (mt (Ty.den ty124))),(8000,.row 77 ty77 v12),(8001,.row 77 ty77 (mt (Ty.den ty77)))])
 | .l1 v1 v2 v11 v12=>(mk 54 [(4,.c (.ptr 4 0)),(5,.c (.ptr 5 0)),(6,.c (.ptr 6 0)),(7,.c (.ptr 7 0)),(35,.c (.list 3 ty3 p1)),(36,.c (.int .i64 v1)),(37,.c (.int .i64 v2))],[(4,.box 41 [.own 5000,.own 5001,.own 5002]),(5,.box 44 [.own 6000,.own 6001]),(6,.box 41 [.own 7000,.own 7001,.own 7002]),(7,.box 44 [.own 8000,.own 8001]),(5000,.row 70 ty70 (mt (Ty.den ty70))),(5001,.row 73 ty73 (mt (Ty.den ty73))),(5002,.row 124 ty124 (mt (Ty.den ty124))),(6000,.row 77 ty77 (mt (Ty.den ty77))),(6001,.row 77 ty77 (mt (Ty.den ty77))),(7000,.row 70 ty70 ((([120]:LB),0,9,0)::mt (Ty.den ty70))),(7001,.row 73 ty73 ((([112]:LB),([97]:LB)::mt (Ty.den Ty.str))::mt (Ty.den ty73))),(7002,.row 124 ty124 (mt (Ty.den ty124))),(8000,.row 77 ty77 v11),(8001,.row 77 ty77 v12)])
def I19:S19→Nat
 | .l0 _ _ _=>0
 | .l1 _ _ _ _=>1
abbrev K3 {R:Type} (k:AV→Objs→Option R) (y:(L70×L73×L124×L77×L77)):Option R:=k (.tup [(true,[.own 501000,.own 501001,.own 501002]),(true,[.own 501100,.own 501101])]) [(501000,.row 70 ty70 y.1),(501001,.row 73 ty73 y.2.1),(501002,.row 124 ty124 y.2.2.1),(501100,.row 77 ty77 y.2.2.2.1),(501101,.row 77 ty77 y.2.2.2.2)]
noncomputable abbrev A19 {R:Type} (B:Ops) (p0 p1:L3) (k:AV→Objs→Option R) (s:S19) (n:Nat):Option R:=aloop tau B gl0 X19 gnil ow [] Try.f19 k (I19 s) (E19 p0 p1 s) n
theorem eq19 {R:Type} (B:Ops) (p0 p1:L3) (k:AV→Objs→Option R) (n:Nat):afun tau B gl0 X19 gnil ow Try.f19 [.c (.list 3 ty3 p0),.c (.list 3 ty3 p1)] [] k n=T19 B p0 p1 (fun s=>A19 B p0 p1 k s n) (K3 k) none:=by kernel_rfl
theorem el19 {R:Type} (B:Ops) (p0 p1:L3) (k:AV→Objs→Option R) (n:Nat):∀ s,A19 B p0 p1 k s (n+1)=T19 B p0 p1 (fun s=>A19 B p0 p1 k s n) (K3 k) (some s):=by
 intro s
 cases s<;>kernel_rfl
theorem nt19 {R R':Type} (B:Ops) (p0 p1:L3) (again:S19→Option R) (again':S19→Option R') (k0:(L70×L73×L124×L77×L77)→Option R') (k:R'→Option R) (h:∀ s,again s=ob (again' s) k):∀ s,T19 B p0 p1 again (fun y=>ob (k0 y) k) s=ob (T19 B p0 p1 again' k0 s) k:=by
 rintro (_ | x)
 all_goals try cases x
 all_goals (unfold T19;repeat' first | exact rfl | exact h _ | apply qaa | (apply qaf;intro))
def R19 (p0 p1:L3):Nat→S19→Option (L70×L73×L124×L77×L77)
 | 0,_=>none
 | n+1,s=>T19 Ops.std p0 p1 (R19 p0 p1 n) some (some s)
theorem rr19 {R:Type} (p0 p1:L3) (k:AV→Objs→Option R):∀ (n:Nat) (s:S19),A19 Ops.std p0 p1 k s n=ob (R19 p0 p1 n s) (K3 k)
 | 0,s=>by cases s<;>rfl
 | n+1,s=>by rw [el19];exact nt19 Ops.std p0 p1 _ _ some (K3 k) (rr19 p0 p1 k n) (some s)
def F19 (p0 p1:L3):Option (L70×L73×L124×L77×L77):=T19 Ops.std p0 p1 (R19 p0 p1 1000000) some none
abbrev C19:Type:=L3→L3→Option (L70×L73×L124×L77×L77)
def e19 {R:Type} (c:C19):Ent R:=eG [.aC (.cL 3 ty3),.aC (.cL 3 ty3)] [] fun v k=>ob (c v.1 v.2.1) (K3 k)
abbrev Sp19 (c:C19):Prop:=∀ (p0 p1:L3) (y:L70×L73×L124×L77×L77),c p0 p1=some y→Spec Try.prog gl0 19 [.c (.list 3 ty3 p0),.c (.list 3 ty3 p1)] [] (.tup [(true,[.own 501000,.own 501001,.own 501002]),(true,[.own 501100,.own 501101])]) [(501000,.row 70 ty70 y.1),(501001,.row 73 ty73 y.2.1),(501002,.row 124 ty124 y.2.2.1),(501100,.row 77 ty77 y.2.2.2.1),(501101,.row 77 ty77 y.2.2.2.2)]
theorem ek19 {R:Type} {c:C19} (hs:Sp19 c):EOk 19 (e19 (R:=R) c):=qah fun v=>hs v.1 v.2.1
theorem sf19:Sp19 (F19):=fun p0 p1 y hy=>by
 refine qae qad 1000000 (fn:=Try.f19) (by kernel_rfl) (by kernel_rfl) (X:=X19) (by kernel_rfl) ?_
 rw [eq19]
 exact (nt19 Ops.std p0 p1 _ _ some (K3 k0) (rr19 p0 p1 k0 1000000) none).trans (by show ob (F19 p0 p1) _=_;rw [hy];rfl)
noncomputable def M19:C19:=F19
theorem sm19:Sp19 M19:=sf19
def X94:Aux:=⟨[],[]⟩
def T94 {R:Type} (B:Ops) (p0:Int) (k:(Bool)→Option R):Option R:=cond (B.le 48 p0) (k (B.le p0 57)) (k false)
theorem eq94 {R:Type} (B:Ops) (p0:Int) (k:AV→Objs→Option R) (n:Nat):afun tau B gl0 X94 gnil ow Try.f94 [.c (.int .u8 p0)] [] k n=T94 B p0 (K1 k):=by kernel_rfl
theorem nt94 {R R':Type} (B:Ops) (p0:Int) (k0:(Bool)→Option R') (k:R'→Option R):T94 B p0 (fun y=>ob (k0 y) k)=ob (T94 B p0 k0) k:=by
 unfold T94
 repeat' first | exact rfl | apply qaa | (apply qaf;intro)
def F94 (p0:Int):Option (Bool):=T94 Ops.std p0 some
abbrev C94:Type:=Int→Option (Bool)
def e94 {R:Type} (c:C94):Ent R:=eG [.aC (.cI .u8)] [] fun v k=>ob (c v.1) (K1 k)
abbrev Sp94 (c:C94):Prop:=∀ (p0:Int) (y:Bool),c p0=some y→Spec Try.prog gl0 94 [.c (.int .u8 p0)] [] (.c (.bool y)) []
theorem ek94 {R:Type} {c:C94} (hs:Sp94 c):EOk 94 (e94 (R:=R) c):=qah fun v=>hs v.1
theorem sf94:Sp94 (F94):=fun p0 y hy=>by
 refine qae qad 1000000 (fn:=Try.f94) (by kernel_rfl) (by kernel_rfl) (X:=X94) (by kernel_rfl) ?_
 rw [eq94]
 exact (nt94 Ops.std p0 some (K1 k0)).trans (by show ob (F94 p0) _=_;rw [hy];rfl)
noncomputable def M94:C94:=F94
theorem sm94:Sp94 M94:=sf94
def X95:Aux:=⟨[],[]⟩
def T95 {R:Type} (B:Ops) (p0:Int) (k:(Bool)→Option R):Option R:=cond (B.le 97 p0) (cond (B.le p0 122) (k true) (k (B.eq p0 95))) (k (B.eq p0 95))
theorem eq95 {R:Type} (B:Ops) (p0:Int) (k:AV→Objs→Option R) (n:Nat):afun tau B gl0 X95 gnil ow Try.f95 [.c (.int .u8 p0)] [] k n=T95 B p0 (K1 k):=by kernel_rfl
theorem nt95 {R R':Type} (B:Ops) (p0:Int) (k0:(Bool)→Option R') (k:R'→Option R):T95 B p0 (fun y=>ob (k0 y) k)=ob (T95 B p0 k0) k:=by
 unfold T95
 repeat' first | exact rfl | apply qaa | (apply qaf;intro)
def F95 (p0:Int):Option (Bool):=T95 Ops.std p0 some
abbrev C95:Type:=Int→Option (Bool)
def e95 {R:Type} (c:C95):Ent R:=eG [.aC (.cI .u8)] [] fun v k=>ob (c v.1) (K1 k)
abbrev Sp95 (c:C95):Prop:=∀ (p0:Int) (y:Bool),c p0=some y→Spec Try.prog gl0 95 [.c (.int .u8 p0)] [] (.c (.bool y)) []
theorem ek95 {R:Type} {c:C95} (hs:Sp95 c):EOk 95 (e95 (R:=R) c):=qah fun v=>hs v.1
theorem sf95:Sp95 (F95):=fun p0 y hy=>by
 refine qae qad 1000000 (fn:=Try.f95) (by kernel_rfl) (by kernel_rfl) (X:=X95) (by kernel_rfl) ?_
 rw [eq95]
 exact (nt95 Ops.std p0 some (K1 k0)).trans (by show ob (F95 p0) _=_;rw [hy];rfl)
noncomputable def M95:C95:=F95
theorem sm95:Sp95 M95:=sf95
def X96:Aux:=⟨[(3,([1,2]++rg 5 37)),(9,([1,2,3,4]++rg 7 35))],[(5,.lin (rg 0 11)),(11,.lin [0,1,2,3,4,5,6,7])]⟩
inductive S96 where
 | l0 (v1:Int)
 | l1 (v2:Int)
def T96 {R:Type} (B:Ops) (p0:LB) (again:S96→Option R) (k:(LB)→Option R):Option S96→Option R | none=>again (.l0 0) | some (.l0 v1)=>cond (B.lt v1 7) (cond (B.lt 1 (↑p0.length)) (cond (B.inb 2 (List.length p0+1)) (cond (B.inb v1 9) (cond (List.drop 0 (List.take (Int.toNat 2) p0) == List.getD (([60,61]:LB)::([62,61]:LB)::([61,61]:LB)::([33,61]:LB)::([38,38]:LB)::([124,124]:LB)::([45,62]:LB)::(mt UInt8)::(mt UInt8)::mt LB) v1.toNat (mt UInt8)) (cond (B.inb v1 9) (k (List.getD (([60,61]:LB)::([62,61]:LB)::([61,61]:LB)::([33,61]:LB)::([38,38]:LB)::([124,124]:LB)::([45,62]:LB)::(mt UInt8)::(mt UInt8)::mt LB) v1.toNat (mt UInt8))) none) (again (.l0 (IntKind.wrap .i64 (v1+1))))) none) none) (again (.l0 (IntKind.wrap .i64 (v1+1))))) (again (.l1 0)) | some (.l1 v2)=>cond (B.lt v2 (Nat.cast 13)) (cond (B.inb 1 (List.length p0+1)) (cond (B.inb (IntKind.wrap .i64 (v2+1)) (13+1)) (cond (bif B.le 0 v2 then B.le v2 (IntKind.wrap .i64 (v2+1)) else false) (cond (List.drop 0 (List.take (Int.toNat 1) p0) == List.drop v2.toNat (List.take (Int.toNat (IntKind.wrap .i64 (v2+1))) ([40,41,91,93,43,45,42,60,62,33,64,59,61]:LB))) (cond (B.inb 1 (List.length p0+1)) (k (List.drop 0 (List.take (Int.toNat 1) p0))) none) (again (.l1 (IntKind.wrap .i64 (v2+1))))) none) none) none) (k (mt UInt8))
def E96 (p0:LB):S96→List AV×Objs
 | .l0 v1=>(mk 42 [(0,.c (.str p0)),(3,.c (.ptr 3 0)),(4,.c (.int .i64 v1))],[(3,.box 156 [.str ([60,61]:LB),.str ([62,61]:LB),.str ([61,61]:LB),.str ([33,61]:LB),.str ([38,38]:LB),.str ([124,124]:LB),.str ([45,62]:LB),.str (mt UInt8),.str (mt UInt8)])])
 | .l1 v2=>(mk 42 [(0,.c (.str p0)),(5,.c (.str ([40,41,91,93,43,45,42,60,62,33,64,59,61]:LB))),(6,.c (.int .i64 v2))],[])
def I96:S96→Nat
 | .l0 _=>0
 | .l1 _=>1
noncomputable abbrev A96 {R:Type} (B:Ops) (p0:LB) (k:AV→Objs→Option R) (s:S96) (n:Nat):Option R:=aloop tau B gl0 X96 gnil ow [] Try.f96 k (I96 s) (E96 p0 s) n
theorem eq96 {R:Type} (B:Ops) (p0:LB) (k:AV→Objs→Option R) (n:Nat):afun tau B gl0 X96 gnil ow Try.f96 [.c (.str p0)] [] k n=T96 B p0 (fun s=>A96 B p0 k s n) (K2 k) none:=by kernel_rfl
theorem el96 {R:Type} (B:Ops) (p0:LB) (k:AV→Objs→Option R) (n:Nat):∀ s,A96 B p0 k s (n+1)=T96 B p0 (fun s=>A96 B p0 k s n) (K2 k) (some s):=by
 intro s
 cases s<;>kernel_rfl
theorem nt96 {R R':Type} (B:Ops) (p0:LB) (again:S96→Option R) (again':S96→Option R') (k0:(LB)→Option R') (k:R'→Option R) (h:∀ s,again s=ob (again' s) k):∀ s,T96 B p0 again (fun y=>ob (k0 y) k) s=ob (T96 B p0 again' k0 s) k:=by
 rintro (_ | x)
 all_goals try cases x
 all_goals (unfold T96;repeat' first | exact rfl | exact h _ | apply qaa | (apply qaf;intro))
def R96 (p0:LB):Nat→S96→Option (LB)
 | 0,_=>none
 | n+1,s=>T96 Ops.std p0 (R96 p0 n) some (some s)
theorem rr96 {R:Type} (p0:LB) (k:AV→Objs→Option R):∀ (n:Nat) (s:S96),A96 Ops.std p0 k s n=ob (R96 p0 n s) (K2 k)
 | 0,s=>by cases s<;>rfl
 | n+1,s=>by rw [el96];exact nt96 Ops.std p0 _ _ some (K2 k) (rr96 p0 k n) (some s)
def F96 (p0:LB):Option (LB):=T96 Ops.std p0 (R96 p0 1000000) some none
abbrev C96:Type:=LB→Option (LB)
def e96 {R:Type} (c:C96):Ent R:=eG [.aC .cS] [] fun v k=>ob (c v.1) (K2 k)
abbrev Sp96 (c:C96):Prop:=∀ (p0 y:LB),c p0=some y→Spec Try.prog gl0 96 [.c (.str p0)] [] (.c (.str y)) []
theorem ek96 {R:Type} {c:C96} (hs:Sp96 c):EOk 96 (e96 (R:=R) c):=qah fun v=>hs v.1
theorem sf96:Sp96 (F96):=fun p0 y hy=>by
 refine qae qad 1000000 (fn:=Try.f96) (by kernel_rfl) (by kernel_rfl) (X:=X96) (by kernel_rfl) ?_
 rw [eq96]
 exact (nt96 Ops.std p0 _ _ some (K2 k0) (rr96 p0 k0 1000000) none).trans (by show ob (F96 p0) _=_;rw [hy];rfl)
noncomputable def M96:C96:=F96
theorem sm96:Sp96 M96:=sf96
def X59:Aux:=⟨[(5,([1,2,3,4]++rg 7 144)),(17,([1,2,3,4]++rg 9 142)),(25,([1,2,3,4]++rg 9 142)),(1000020,([1,2,3,4]++rg 9 142)),(1000026,([1,2,3,4]++rg 9 142)),(1000027,([1,2,3,4]++rg 9 142)),(1000031,([1,2,3,4,7]++rg 9 142)),(1000010,([1,2,3,4,7]++rg 9 142)),(1000032,([1,2,3,4]++rg 9 142))],[(19,.lin (rg 0 13))]⟩
inductive S59 where
 | l0 (v1:Int) (v2:L106)
 | l1 (v1 v2:Int) (v3:L106) (v6 v7:Int)
 | l2 (v1 v2:Int) (v3:L106) (v7:Int)
 | l1010 (v1:Int) (v2:L106) (v6:Int)
 | l1020 (v1 v2:Int) (v3:L106) (v6 v7:Int)
 | l1026 (v1 v2:Int) (v3:L106) (v7:Int)
 | l1027 (v1 v2:Int) (v3:L106) (v7:Int)
 | l1031 (v1:Int) (v2:L106) (v6:Int)
 | l1032 (v1 v2:Int) (v3:L106) (v4 v6 v7:Int)
def T59 {R:Type} (B:Ops) (c94:C94) (c95:C95) (c96:C96) (p0:LB) (again:S59→Option R) (k:(Int×Int×L106)→Option R):Option S59→Option R | none=>cond (B.lt 60000 (↑p0.length)) (k ((14,0,mt (Ty.den ty106)))) (again (.l0 0 (mt (Ty.den ty106)))) | some (.l0 v1 v2)=>cond (B.lt v1 (↑p0.length)) (cond (B.inb v1 p0.length) (cond (B.eq (Nat.cast (UInt8.toNat (p0.getD v1.toNat 0))) 32) (again (.l0 (IntKind.wrap .i64 (v1+1)) v2)) (cond (B.eq (Nat.cast (UInt8.toNat (p0.getD v1.toNat 0))) 9) (again (.l0 (IntKind.wrap .i64 (v1+1)) v2)) (cond (B.eq (Nat.cast (UInt8.toNat (p0.getD v1.toNat 0))) 10) (again (.l0 (IntKind.wrap .i64 (v1+1)) v2)) (ob (c94 (Nat.cast (UInt8.toNat (p0.getD v1.toNat 0)))) fun y0=>cond (y0) (again (.l1 v1 0 v2 0 v1)) (ob (c95 (Nat.cast (UInt8.toNat (p0.getD v1.toNat 0)))) fun y1=>cond (y1) (again (.l2 v1 0 v2 v1)) (cond (B.eq (Nat.cast (UInt8.toNat (p0.getD v1.toNat 0))) 88) (again (.l1031 v1 v2 v1)) (cond (B.eq (Nat.cast (UInt8.toNat (p0.getD v1.toNat 0))) 70) (again (.l1031 v1 v2 v1)) (cond (B.eq (Nat.cast (UInt8.toNat (p0.getD v1.toNat 0))) 71) (again (.l1031 v1 v2 v1)) (cond (B.eq (Nat.cast (UInt8.toNat (p0.getD v1.toNat 0))) 85) (again (.l1031 v1 v2 v1)) (cond (B.eq (Nat.cast (UInt8.toNat (p0.getD v1.toNat 0))) 82) (again (.l1031 v1 v2 v1)) (again (.l1010 v1 v2 v1)))))))))))) none) (cond (B.lim (List.length v2+List.length ((5,mt UInt8,0,v1)::mt (Ty.den ty106))) 40) (k ((0,0,v2++(5,mt UInt8,0,v1)::mt (Ty.den ty106)))) none) | some (.l1 v1 v2 v3 v6 v7)=>cond (B.lt (IntKind.wrap .i64 (v1+v2)) (↑p0.length)) (cond (B.inb (IntKind.wrap .i64 (v1+v2)) p0.length) (ob (c94 (Nat.cast (UInt8.toNat (p0.getD (Int.toNat (IntKind.wrap .i64 (v1+v2))) 0)))) fun y0=>cond (y0) (cond (B.lt v2 3) (cond (B.inb (IntKind.wrap .i64 (v1+v2)) p0.length) (again (.l1020 v1 v2 v3 (IntKind.wrap .i64 (IntKind.wrap .i64 (10*v6)+IntKind.wrap .i64 (IntKind.wrap IntKind.u8 (Nat.cast (UInt8.toNat (p0.getD (Int.toNat (IntKind.wrap .i64 (v1+v2))) 0))-48)))) v7)) none) (again (.l1020 v1 v2 v3 v6 v7))) (cond (B.lt 3 v2) (k ((2,v1,mt (Ty.den ty106)))) (again (.l1032 v1 v2 v3 1 v6 v7)))) none) (cond (B.lt 3 v2) (k ((2,v1,mt (Ty.den ty106)))) (again (.l1032 v1 v2 v3 1 v6 v7))) | some (.l2 v1 v2 v3 v7)=>cond (B.lt (IntKind.wrap .i64 (v1+v2)) (↑p0.length)) (cond (B.inb (IntKind.wrap .i64 (v1+v2)) p0.length) (ob (c95 (Nat.cast (UInt8.toNat (p0.getD (Int.toNat (IntKind.wrap .i64 (v1+v2))) 0)))) fun y0=>cond (y0) (again (.l1026 v1 v2 v3 v7)) (cond (B.inb (IntKind.wrap .i64 (v1+v2)) p0.length) (ob (c94 (Nat.cast (UInt8.toNat (p0.getD (Int.toNat (IntKind.wrap .i64 (v1+v2))) 0)))) fun y1=>cond (y1) (again (.l1026 v1 v2 v3 v7)) (again (.l1027 v1 v2 v3 v7))) none)) none) (again (.l1027 v1 v2 v3 v7)) | some (.l1010 v1 v2 v6)=>cond (B.inb v1 (List.length p0+1)) (ob (c96 (List.drop v1.toNat (List.take p0.length p0))) fun y0=>cond (B.eq (↑y0.length) 0) (k ((2,v1,mt (Ty.den ty106)))) (again (.l1032 v1 (↑y0.length) v2 4 0 v6))) none | some (.l1020 v1 v2 v3 v6 v7)=>again (.l1 v1 (IntKind.wrap .i64 (v2+1)) v3 v6 v7) | some (.l1026 v1 v2 v3 v7)=>again (.l2 v1 (IntKind.wrap .i64 (v2+1)) v3 v7) | some (.l1027 v1 v2 v3 v7)=>cond (B.lt 8 v2) (k ((2,v1,mt (Ty.den ty106)))) (again (.l1032 v1 v2 v3 2 0 v7)) | some (.l1031 v1 v2 v6)=>again (.l1032 v1 1 v2 3 0 v6) | some (.l1032 v1 v2 v3 v4 v6 v7)=>cond (B.inb (IntKind.wrap .i64 (v1+v2)) (List.length p0+1)) (cond (bif B.le 0 v1 then B.le v1 (IntKind.wrap .i64 (v1+v2)) else false) (cond (B.lim (List.length v3+List.length ((v4,List.drop v1.toNat (List.take (Int.toNat (IntKind.wrap .i64 (v1+v2))) p0),v6,v7)::mt (Ty.den ty106))) 40) (again (.l0 (IntKind.wrap .i64 (v1+v2)) (v3++(v4,List.drop v1.toNat (List.take (Int.toNat (IntKind.wrap .i64 (v1+v2))) p0),v6,v7)::mt (Ty.den ty106)))) none) none) none
def E59 (p0:LB):S59→List AV×Objs
 | .l0 v1 v2=>(mk 151 [(0,.c (.str p0)),(5,.c (.own 5)),(6,.c (.int .i64 v1))],[(5,.row 106 ty106 v2)])
 | .l1 v1 v2 v3 v6 v7=>(mk 151 [(0,.c (.str p0)),(5,.c (.own 5)),(6,.c (.int .i64 v1)),(7,.c (.int .i64 v2)),(8,.c (.ptr 8 0))],[(5,.row 106 ty106 v3),(8,.box 106 [.int .i64 1,.str (mt UInt8),.int .i64 v6,.int .i64 v7])])
 | .l2 v1 v2 v3 v7=>(mk 151 [(0,.c (.str p0)),(5,.c (.own 5)),(6,.c (.int .i64 v1)),(7,.c (.int .i64 v2)),(8,.c (.ptr 8 0))],[(5,.row 106 ty106 v3),(8,.box 106 [.int .i64 2,.str (mt UInt8),.int .i64 0,.int .i64 v7])])
 | .l1010 v1 v2 v6=>(mk 151 [(0,.c (.str p0)),(5,.c (.own 5)),(6,.c (.int .i64 v1)),(8,.c (.ptr 8 0))],[(5,.row 106 ty106 v2),(8,.box 106 [.int .i64 4,.str (mt UInt8),.int .i64 0,.int .i64 v6])])
 | .l1020 v1 v2 v3 v6 v7=>(mk 151 [(0,.c (.str p0)),(5,.c (.own 5)),(6,.c (.int .i64 v1)),(7,.c (.int .i64 v2)),(8,.c (.ptr 8 0))],[(5,.row 106 ty106 v3),(8,.box 106 [.int .i64 1,.str (mt UInt8),.int .i64 v6,.int .i64 v7])])
 | .l1026 v1 v2 v3 v7=>(mk 151 [(0,.c (.str p0)),(5,.c (.own 5)),(6,.c (.int .i64 v1)),(7,.c (.int .i64 v2)),(8,.c (.ptr 8 0))],[(5,.row 106 ty106 v3),(8,.box 106 [.int .i64 2,.str (mt UInt8),.int .i64 0,.int .i64 v7])])
 | .l1027 v1 v2 v3 v7=>(mk 151 [(0,.c (.str p0)),(5,.c (.own 5)),(6,.c (.int .i64 v1)),(7,.c (.int .i64 v2)),(8,.c (.ptr 8 0))],[(5,.row 106 ty106 v3),(8,.box 106 [.int .i64 2,.str (mt UInt8),.int .i64 0,.int .i64 v7])])
 | .l1031 v1 v2 v6=>(mk 151 [(0,.c (.str p0)),(5,.c (.own 5)),(6,.c (.int .i64 v1)),(8,.c (.ptr 8 0))],[(5,.row 106 ty106 v2),(8,.box 106 [.int .i64 3,.str (mt UInt8),.int .i64 0,.int .i64 v6])])
 | .l1032 v1 v2 v3 v4 v6 v7=>(mk 151 [(0,.c (.str p0)),(5,.c (.own 5)),(6,.c (.int .i64 v1)),(7,.c (.int .i64 v2)),(8,.c (.ptr 8 0))],[(5,.row 106 ty106 v3),(8,.box 106 [.int .i64 v4,.str (mt UInt8),.int .i64 v6,.int .i64 v7])])
def I59:S59→Nat
 | .l0 _ _=>0
 | .l1 _ _ _ _ _=>1
 | .l2 _ _ _ _=>2
 | .l1010 _ _ _=>1010
 | .l1020 _ _ _ _ _=>1020
 | .l1026 _ _ _ _=>1026
 | .l1027 _ _ _ _=>1027
 | .l1031 _ _ _=>1031
 | .l1032 _ _ _ _ _ _=>1032
abbrev K4 {R:Type} (k:AV→Objs→Option R) (y:(Int×Int×L106)):Option R:=k (.tup [(false,[.own 501000]),(false,[.int .i64 y.1]),(false,[.int .i64 y.2.1])]) [(501000,.row 106 ty106 y.2.2)]
noncomputable abbrev A59 {R:Type} (B:Ops) (c94:C94) (c95:C95) (c96:C96) (p0:LB) (k:AV→Objs→Option R) (s:S59) (n:Nat):Option R:=aloop tau B gl0 X59 (ent 94 (e94 c94) (ent 95 (e95 c95) (ent 96 (e96 c96) gnil))) ow [] Try.f59 k (I59 s) (E59 p0 s) n
theorem eq59 {R:Type} (B:Ops) (c94:C94) (c95:C95) (c96:C96) (p0:LB) (k:AV→Objs→Option R) (n:Nat):afun tau B gl0 X59 (ent 94 (e94 c94) (ent 95 (e95 c95) (ent 96 (e96 c96) gnil))) ow Try.f59 [.c (.str p0)] [] k n=T59 B c94 c95 c96 p0 (fun s=>A59 B c94 c95 c96 p0 k s n) (K4 k) none:=by kernel_rfl
theorem el59 {R:Type} (B:Ops) (c94:C94) (c95:C95) (c96:C96) (p0:LB) (k:AV→Objs→Option R) (n:Nat):∀ s,A59 B c94 c95 c96 p0 k s (n+1)=T59 B c94 c95 c96 p0 (fun s=>A59 B c94 c95 c96 p0 k s n) (K4 k) (some s):=by
 intro s
 cases s<;>kernel_rfl
theorem nt59 {R R':Type} (B:Ops) (c94:C94) (c95:C95) (c96:C96) (p0:LB) (again:S59→Option R) (again':S59→Option R') (k0:(Int×Int×L106)→Option R') (k:R'→Option R) (h:∀ s,again s=ob (again' s) k):∀ s,T59 B c94 c95 c96 p0 again (fun y=>ob (k0 y) k) s=ob (T59 B c94 c95 c96 p0 again' k0 s) k:=by
 rintro (_ | x)
 all_goals try cases x
 all_goals (unfold T59;repeat' first | exact rfl | exact h _ | apply qaa | (apply qaf;intro))
def R59 (c94:C94) (c95:C95) (c96:C96) (p0:LB):Nat→S59→Option (Int×Int×L106)
 | 0,_=>none
 | n+1,s=>T59 Ops.std c94 c95 c96 p0 (R59 c94 c95 c96 p0 n) some (some s)
theorem rr59 {R:Type} (c94:C94) (c95:C95) (c96:C96) (p0:LB) (k:AV→Objs→Option R):∀ (n:Nat) (s:S59),A59 Ops.std c94 c95 c96 p0 k s n=ob (R59 c94 c95 c96 p0 n s) (K4 k)
 | 0,s=>by cases s<;>rfl
 | n+1,s=>by rw [el59];exact nt59 Ops.std c94 c95 c96 p0 _ _ some (K4 k) (rr59 c94 c95 c96 p0 k n) (some s)
def F59 (c94:C94) (c95:C95) (c96:C96) (p0:LB):Option (Int×Int×L106):=T59 Ops.std c94 c95 c96 p0 (R59 c94 c95 c96 p0 1000000) some none
abbrev C59:Type:=LB→Option (Int×Int×L106)
def e59 {R:Type} (c:C59):Ent R:=eG [.aC .cS] [] fun v k=>ob (c v.1) (K4 k)
abbrev Sp59 (c:C59):Prop:=∀ (p0:LB) (y:Int×Int×L106),c p0=some y→Spec Try.prog gl0 59 [.c (.str p0)] [] (.tup [(false,[.own 501000]),(false,[.int .i64 y.1]),(false,[.int .i64 y.2.1])]) [(501000,.row 106 ty106 y.2.2)]
theorem ek59 {R:Type} {c:C59} (hs:Sp59 c):EOk 59 (e59 (R:=R) c):=qah fun v=>hs v.1
theorem sf59 {c94:C94} {c95:C95} {c96:C96} (h94:Sp94 c94) (h95:Sp95 c95) (h96:Sp96 c96):Sp59 (F59 c94 c95 c96):=fun p0 y hy=>by
 refine qae (qac (ek94 h94) (qac (ek95 h95) (qac (ek96 h96) qad))) 1000000 (fn:=Try.f59) (by kernel_rfl) (by kernel_rfl) (X:=X59) (by kernel_rfl) ?_
 rw [eq59]
 exact (nt59 Ops.std c94 c95 c96 p0 _ _ some (K4 k0) (rr59 c94 c95 c96 p0 k0 1000000) none).trans (by show ob (F59 c94 c95 c96 p0) _=_;rw [hy];rfl)
noncomputable def M59:C59:=F59 M94 M95 M96
theorem sm59:Sp59 M59:=sf59 sm94 sm95 sm96
def X119:Aux:=⟨[],[(1,.lin (rg 0 28))]⟩
def T119 {R:Type} (B:Ops) (p0:LB) (p1:L106) (p2 p3 p4:Int) (p5:L36) (k:(Bool×L106×Int×Int×Int×L36)→Option R):Option R:=cond (B.inb p2 p1.length) (cond (B.eq (p1.getD p2.toNat ty106.dflt).1 4) (cond (B.inb p2 p1.length) (k ((((p1.getD p2.toNat ty106.dflt).2).1 == p0,p1,p2,p3,p4,p5))) none) (k (false,p1,p2,p3,p4,p5))) none
abbrev K5 {R:Type} (k:AV→Objs→Option R) (y:(Bool×L106×Int×Int×Int×L36)):Option R:=k (.c (.bool y.1)) [(0,.box 103 [.list 106 ty106 y.2.1,.int .i64 y.2.2.1,.own 1002,.int .i64 y.2.2.2.1,.int .i64 y.2.2.2.2.1]),(1002,.row 36 ty36 y.2.2.2.2.2)]
theorem eq119 {R:Type} (B:Ops) (p0:LB) (p1:L106) (p2 p3 p4:Int) (p5:L36) (k:AV→Objs→Option R) (n:Nat):afun tau B gl0 X119 gnil ow Try.f119 [.c (.ptr 0 0),.c (.str p0)] [(0,.box 103 [.list 106 ty106 p1,.int .i64 p2,.own 1002,.int .i64 p3,.int .i64 p4]),(1002,.row 36 ty36 p5)] k n=T119 B p0 p1 p2 p3 p4 p5 (K5 k):=by kernel_rfl
theorem nt119 {R R':Type} (B:Ops) (p0:LB) (p1:L106) (p2 p3 p4:Int) (p5:L36) (k0:(Bool×L106×Int×Int×Int×L36)→Option R') (k:R'→Option R):T119 B p0 p1 p2 p3 p4 p5 (fun y=>ob (k0 y) k)=ob (T119 B p0 p1 p2 p3 p4 p5 k0) k:=by
 unfold T119
 repeat' first | exact rfl | apply qaa | (apply qaf;intro)
def F119 (p0:LB) (p1:L106) (p2 p3 p4:Int) (p5:L36):Option (Bool×L106×Int×Int×Int×L36):=T119 Ops.std p0 p1 p2 p3 p4 p5 some
abbrev C119:Type:=LB→L106→Int→Int→Int→L36→Option (Bool×L106×Int×Int×Int×L36)
def e119 {R:Type} (c:C119):Ent R:=eG [.aC (.cP 0),.aC .cS] [.oB 0 103 [.cL 106 ty106,.cI .i64,.cO 1002,.cI .i64,.cI .i64],.oR 1002 36 ty36] fun v k=>ob (c v.1 v.2.1 v.2.2.1 v.2.2.2.1 v.2.2.2.2.1 v.2.2.2.2.2.1) (K5 k)
abbrev Sp119 (c:C119):Prop:=∀ (p0:LB) (p1:L106) (p2 p3 p4:Int) (p5:L36) (y:Bool×L106×Int×Int×Int×L36),c p0 p1 p2 p3 p4 p5=some y→Spec Try.prog gl0 119 [.c (.ptr 0 0),.c (.str p0)] [(0,.box 103 [.list 106 ty106 p1,.int .i64 p2,.own 1002,.int .i64 p3,.int .i64 p4]),(1002,.row 36 ty36 p5)] (.c (.bool y.1)) [(0,.box 103 [.list 106 ty106 y.2.1,.int .i64 y.2.2.1,.own 1002,.int .i64 y.2.2.2.1,.int .i64 y.2.2.2.2.1]),(1002,.row 36 ty36 y.2.2.2.2.2)]
theorem ek119 {R:Type} {c:C119} (hs:Sp119 c):EOk 119 (e119 (R:=R) c):=qah fun v=>hs v.1 v.2.1 v.2.2.1 v.2.2.2.1 v.2.2.2.2.1 v.2.2.2.2.2.1
theorem sf119:Sp119 (F119):=fun p0 p1 p2 p3 p4 p5 y hy=>by
 refine qae qad 1000000 (fn:=Try.f119) (by kernel_rfl) (by kernel_rfl) (X:=X119) (by kernel_rfl) ?_
 rw [eq119]
 exact (nt119 Ops.std p0 p1 p2 p3 p4 p5 some (K5 k0)).trans (by show ob (F119 p0 p1 p2 p3 p4 p5) _=_;rw [hy];rfl)
noncomputable def M119:C119:=F119
theorem sm119:Sp119 M119:=sf119
def X61:Aux:=⟨[],[]⟩
def T61 {R:Type} (B:Ops) (p0 p1:Int) (p2:L106) (p3 p4 p5:Int) (p6:L36) (k:(L106×Int×Int×Int×L36)→Option R):Option R:=cond (B.eq p4 0) (k (p2,p3,p0,p1,p6)) (k (p2,p3,p4,p5,p6))
abbrev K6 {R:Type} (k:AV→Objs→Option R) (y:(L106×Int×Int×Int×L36)):Option R:=k (.tup []) [(0,.box 103 [.list 106 ty106 y.1,.int .i64 y.2.1,.own 1002,.int .i64 y.2.2.1,.int .i64 y.2.2.2.1]),(1002,.row 36 ty36 y.2.2.2.2)]
theorem eq61 {R:Type} (B:Ops) (p0 p1:Int) (p2:L106) (p3 p4 p5:Int) (p6:L36) (k:AV→Objs→Option R) (n:Nat):afun tau B gl0 X61 gnil ow Try.f61 [.c (.ptr 0 0),.c (.int .i64 p0),.c (.int .i64 p1)] [(0,.box 103 [.list 106 ty106 p2,.int .i64 p3,.own 1002,.int .i64 p4,.int .i64 p5]),(1002,.row 36 ty36 p6)] k n=T61 B p0 p1 p2 p3 p4 p5 p6 (K6 k):=by kernel_rfl
theorem nt61 {R R':Type} (B:Ops) (p0 p1:Int) (p2:L106) (p3 p4 p5:Int) (p6:L36) (k0:(L106×Int×Int×Int×L36)→Option R') (k:R'→Option R):T61 B p0 p1 p2 p3 p4 p5 p6 (fun y=>ob (k0 y) k)=ob (T61 B p0 p1 p2 p3 p4 p5 p6 k0) k:=by
 unfold T61
 repeat' first | exact rfl | apply qaa | (apply qaf;intro)
def F61 (p0 p1:Int) (p2:L106) (p3 p4 p5:Int) (p6:L36):Option (L106×Int×Int×Int×L36):=T61 Ops.std p0 p1 p2 p3 p4 p5 p6 some
abbrev C61:Type:=Int→Int→L106→Int→Int→Int→L36→Option (L106×Int×Int×Int×L36)
def e61 {R:Type} (c:C61):Ent R:=eG [.aC (.cP 0),.aC (.cI .i64),.aC (.cI .i64)] [.oB 0 103 [.cL 106 ty106,.cI .i64,.cO 1002,.cI .i64,.cI .i64],.oR 1002 36 ty36] fun v k=>ob (c v.1 v.2.1 v.2.2.1 v.2.2.2.1 v.2.2.2.2.1 v.2.2.2.2.2.1 v.2.2.2.2.2.2.1) (K6 k)
abbrev Sp61 (c:C61):Prop:=∀ (p0 p1:Int) (p2:L106) (p3 p4 p5:Int) (p6:L36) (y:L106×Int×Int×Int×L36),c p0 p1 p2 p3 p4 p5 p6=some y→Spec Try.prog gl0 61 [.c (.ptr 0 0),.c (.int .i64 p0),.c (.int .i64 p1)] [(0,.box 103 [.list 106 ty106 p2,.int .i64 p3,.own 1002,.int .i64 p4,.int .i64 p5]),(1002,.row 36 ty36 p6)] (.tup []) [(0,.box 103 [.list 106 ty106 y.1,.int .i64 y.2.1,.own 1002,.int .i64 y.2.2.1,.int .i64 y.2.2.2.1]),(1002,.row 36 ty36 y.2.2.2.2)]
theorem ek61 {R:Type} {c:C61} (hs:Sp61 c):EOk 61 (e61 (R:=R) c):=qah fun v=>hs v.1 v.2.1 v.2.2.1 v.2.2.2.1 v.2.2.2.2.1 v.2.2.2.2.2.1 v.2.2.2.2.2.2.1
theorem sf61:Sp61 (F61):=fun p0 p1 p2 p3 p4 p5 p6 y hy=>by
 refine qae qad 1000000 (fn:=Try.f61) (by kernel_rfl) (by kernel_rfl) (X:=X61) (by kernel_rfl) ?_
 rw [eq61]
 exact (nt61 Ops.std p0 p1 p2 p3 p4 p5 p6 some (K6 k0)).trans (by show ob (F61 p0 p1 p2 p3 p4 p5 p6) _=_;rw [hy];rfl)
noncomputable def M61:C61:=F61
theorem sm61:Sp61 M61:=sf61
def X120:Aux:=⟨[],[]⟩
def T120 {R:Type} (B:Ops) (c119:C119) (c61:C61) (p0:LB) (p1:L106) (p2 p3 p4:Int) (p5:L36) (k:(L106×Int×Int×Int×L36)→Option R):Option R:=cond (!B.eq p3 0) (k (p1,p2,p3,p4,p5)) (ob (c119 p0 p1 p2 p3 p4 p5) fun y0=>cond (!y0.1) (ob (c61 2 y0.2.2.1 y0.2.1 y0.2.2.1 y0.2.2.2.1 y0.2.2.2.2.1 y0.2.2.2.2.2) fun y1=>k (y1.1,y1.2.1,y1.2.2.1,y1.2.2.2.1,y1.2.2.2.2)) (k ((y0.2.1,IntKind.wrap .i64 (y0.2.2.1+1),y0.2.2.2.1,y0.2.2.2.2.1,y0.2.2.2.2.2))))
theorem eq120 {R:Type} (B:Ops) (c119:C119) (c61:C61) (p0:LB) (p1:L106) (p2 p3 p4:Int) (p5:L36) (k:AV→Objs→Option R) (n:Nat):afun tau B gl0 X120 (ent 119 (e119 c119) (ent 61 (e61 c61) gnil)) ow Try.f120 [.c (.ptr 0 0),.c (.str p0)] [(0,.box 103 [.list 106 ty106 p1,.int .i64 p2,.own 1002,.int .i64 p3,.int .i64 p4]),(1002,.row 36 ty36 p5)] k n=T120 B c119 c61 p0 p1 p2 p3 p4 p5 (K6 k):=by kernel_rfl
theorem nt120 {R R':Type} (B:Ops) (c119:C119) (c61:C61) (p0:LB) (p1:L106) (p2 p3 p4:Int) (p5:L36) (k0:(L106×Int×Int×Int×L36)→Option R') (k:R'→Option R):T120 B c119 c61 p0 p1 p2 p3 p4 p5 (fun y=>ob (k0 y) k)=ob (T120 B c119 c61 p0 p1 p2 p3 p4 p5 k0) k:=by
 unfold T120
 repeat' first | exact rfl | apply qaa | (apply qaf;intro)
def F120 (c119:C119) (c61:C61) (p0:LB) (p1:L106) (p2 p3 p4:Int) (p5:L36):Option (L106×Int×Int×Int×L36):=T120 Ops.std c119 c61 p0 p1 p2 p3 p4 p5 some
abbrev C120:Type:=LB→L106→Int→Int→Int→L36→Option (L106×Int×Int×Int×L36)
def e120 {R:Type} (c:C120):Ent R:=eG [.aC (.cP 0),.aC .cS] [.oB 0 103 [.cL 106 ty106,.cI .i64,.cO 1002,.cI .i64,.cI .i64],.oR 1002 36 ty36] fun v k=>ob (c v.1 v.2.1 v.2.2.1 v.2.2.2.1 v.2.2.2.2.1 v.2.2.2.2.2.1) (K6 k)
abbrev Sp120 (c:C120):Prop:=∀ (p0:LB) (p1:L106) (p2 p3 p4:Int) (p5:L36) (y:L106×Int×Int×Int×L36),c p0 p1 p2 p3 p4 p5=some y→Spec Try.prog gl0 120 [.c (.ptr 0 0),.c (.str p0)] [(0,.box 103 [.list 106 ty106 p1,.int .i64 p2,.own 1002,.int .i64 p3,.int .i64 p4]),(1002,.row 36 ty36 p5)] (.tup []) [(0,.box 103 [.list 106 ty106 y.1,.int .i64 y.2.1,.own 1002,.int .i64 y.2.2.1,.int .i64 y.2.2.2.1]),(1002,.row 36 ty36 y.2.2.2.2)]
theorem ek120 {R:Type} {c:C120} (hs:Sp120 c):EOk 120 (e120 (R:=R) c):=qah fun v=>hs v.1 v.2.1 v.2.2.1 v.2.2.2.1 v.2.2.2.2.1 v.2.2.2.2.2.1
theorem sf120 {c119:C119} {c61:C61} (h119:Sp119 c119) (h61:Sp61 c61):Sp120 (F120 c119 c61):=fun p0 p1 p2 p3 p4 p5 y hy=>by
 refine qae (qac (ek119 h119) (qac (ek61 h61) qad)) 1000000 (fn:=Try.f120) (by kernel_rfl) (by kernel_rfl) (X:=X120) (by kernel_rfl) ?_
 rw [eq120]
 exact (nt120 Ops.std c119 c61 p0 p1 p2 p3 p4 p5 some (K6 k0)).trans (by show ob (F120 c119 c61 p0 p1 p2 p3 p4 p5) _=_;rw [hy];rfl)
noncomputable def M120:C120:=F120 M119 M61
theorem sm120:Sp120 M120:=sf120 sm119 sm61
def X138:Aux:=⟨[],[(1,.lin (rg 0 28))]⟩
def T138 {R:Type} (B:Ops) (p0:LB) (p1:L106) (p2 p3:Int) (p4:L97) (k:(Bool×L106×Int×Int×L97)→Option R):Option R:=cond (B.inb p2 p1.length) (cond (B.eq (p1.getD p2.toNat ty106.dflt).1 4) (cond (B.inb p2 p1.length) (k ((((p1.getD p2.toNat ty106.dflt).2).1 == p0,p1,p2,p3,p4))) none) (k (false,p1,p2,p3,p4))) none
abbrev K7 {R:Type} (k:AV→Objs→Option R) (y:(Bool×L106×Int×Int×L97)):Option R:=k (.c (.bool y.1)) [(0,.box 169 [.list 106 ty106 y.2.1,.int .i64 y.2.2.1,.own 1002,.int .i64 y.2.2.2.1]),(1002,.row 97 ty97 y.2.2.2.2)]
theorem eq138 {R:Type} (B:Ops) (p0:LB) (p1:L106) (p2 p3:Int) (p4:L97) (k:AV→Objs→Option R) (n:Nat):afun tau B gl0 X138 gnil ow Try.f138 [.c (.ptr 0 0),.c (.str p0)] [(0,.box 169 [.list 106 ty106 p1,.int .i64 p2,.own 1002,.int .i64 p3]),(1002,.row 97 ty97 p4)] k n=T138 B p0 p1 p2 p3 p4 (K7 k):=by kernel_rfl
theorem nt138 {R R':Type} (B:Ops) (p0:LB) (p1:L106) (p2 p3:Int) (p4:L97) (k0:(Bool×L106×Int×Int×L97)→Option R') (k:R'→Option R):T138 B p0 p1 p2 p3 p4 (fun y=>ob (k0 y) k)=ob (T138 B p0 p1 p2 p3 p4 k0) k:=by
 unfold T138
 repeat' first | exact rfl | apply qaa | (apply qaf;intro)
def F138 (p0:LB) (p1:L106) (p2 p3:Int) (p4:L97):Option (Bool×L106×Int×Int×L97):=T138 Ops.std p0 p1 p2 p3 p4 some
abbrev C138:Type:=LB→L106→Int→Int→L97→Option (Bool×L106×Int×Int×L97)
def e138 {R:Type} (c:C138):Ent R:=eG [.aC (.cP 0),.aC .cS] [.oB 0 169 [.cL 106 ty106,.cI .i64,.cO 1002,.cI .i64],.oR 1002 97 ty97] fun v k=>ob (c v.1 v.2.1 v.2.2.1 v.2.2.2.1 v.2.2.2.2.1) (K7 k)
abbrev Sp138 (c:C138):Prop:=∀ (p0:LB) (p1:L106) (p2 p3:Int) (p4:L97) (y:Bool×L106×Int×Int×L97),c p0 p1 p2 p3 p4=some y→Spec Try.prog gl0 138 [.c (.ptr 0 0),.c (.str p0)] [(0,.box 169 [.list 106 ty106 p1,.int .i64 p2,.own 1002,.int .i64 p3]),(1002,.row 97 ty97 p4)] (.c (.bool y.1)) [(0,.box 169 [.list 106 ty106 y.2.1,.int .i64 y.2.2.1,.own 1002,.int .i64 y.2.2.2.1]),(1002,.row 97 ty97 y.2.2.2.2)]
theorem ek138 {R:Type} {c:C138} (hs:Sp138 c):EOk 138 (e138 (R:=R) c):=qah fun v=>hs v.1 v.2.1 v.2.2.1 v.2.2.2.1 v.2.2.2.2.1
theorem sf138:Sp138 (F138):=fun p0 p1 p2 p3 p4 y hy=>by
 refine qae qad 1000000 (fn:=Try.f138) (by kernel_rfl) (by kernel_rfl) (X:=X138) (by kernel_rfl) ?_
 rw [eq138]
 exact (nt138 Ops.std p0 p1 p2 p3 p4 some (K7 k0)).trans (by show ob (F138 p0 p1 p2 p3 p4) _=_;rw [hy];rfl)
noncomputable def M138:C138:=F138
theorem sm138:Sp138 M138:=sf138
def X139:Aux:=⟨[],[]⟩
def T139 {R:Type} (B:Ops) (p0:L106) (p1 p2:Int) (p3:L97) (k:(L106×Int×Int×L97)→Option R):Option R:=cond (B.lt p2 0) (k (p0,p1,p1,p3)) (k (p0,p1,p2,p3))
abbrev K8 {R:Type} (k:AV→Objs→Option R) (y:(L106×Int×Int×L97)):Option R:=k (.tup []) [(0,.box 169 [.list 106 ty106 y.1,.int .i64 y.2.1,.own 1002,.int .i64 y.2.2.1]),(1002,.row 97 ty97 y.2.2.2)]
theorem eq139 {R:Type} (B:Ops) (p0:L106) (p1 p2:Int) (p3:L97) (k:AV→Objs→Option R) (n:Nat):afun tau B gl0 X139 gnil ow Try.f139 [.c (.ptr 0 0)] [(0,.box 169 [.list 106 ty106 p0,.int .i64 p1,.own 1002,.int .i64 p2]),(1002,.row 97 ty97 p3)] k n=T139 B p0 p1 p2 p3 (K8 k):=by kernel_rfl
theorem nt139 {R R':Type} (B:Ops) (p0:L106) (p1 p2:Int) (p3:L97) (k0:(L106×Int×Int×L97)→Option R') (k:R'→Option R):T139 B p0 p1 p2 p3 (fun y=>ob (k0 y) k)=ob (T139 B p0 p1 p2 p3 k0) k:=by
 unfold T139
 repeat' first | exact rfl | apply qaa | (apply qaf;intro)
def F139 (p0:L106) (p1 p2:Int) (p3:L97):Option (L106×Int×Int×L97):=T139 Ops.std p0 p1 p2 p3 some
abbrev C139:Type:=L106→Int→Int→L97→Option (L106×Int×Int×L97)
def e139 {R:Type} (c:C139):Ent R:=eG [.aC (.cP 0)] [.oB 0 169 [.cL 106 ty106,.cI .i64,.cO 1002,.cI .i64],.oR 1002 97 ty97] fun v k=>ob (c v.1 v.2.1 v.2.2.1 v.2.2.2.1) (K8 k)
abbrev Sp139 (c:C139):Prop:=∀ (p0:L106) (p1 p2:Int) (p3:L97) (y:L106×Int×Int×L97),c p0 p1 p2 p3=some y→Spec Try.prog gl0 139 [.c (.ptr 0 0)] [(0,.box 169 [.list 106 ty106 p0,.int .i64 p1,.own 1002,.int .i64 p2]),(1002,.row 97 ty97 p3)] (.tup []) [(0,.box 169 [.list 106 ty106 y.1,.int .i64 y.2.1,.own 1002,.int .i64 y.2.2.1]),(1002,.row 97 ty97 y.2.2.2)]
theorem ek139 {R:Type} {c:C139} (hs:Sp139 c):EOk 139 (e139 (R:=R) c):=qah fun v=>hs v.1 v.2.1 v.2.2.1 v.2.2.2.1
theorem sf139:Sp139 (F139):=fun p0 p1 p2 p3 y hy=>by
 refine qae qad 1000000 (fn:=Try.f139) (by kernel_rfl) (by kernel_rfl) (X:=X139) (by kernel_rfl) ?_
 rw [eq139]
 exact (nt139 Ops.std p0 p1 p2 p3 some (K8 k0)).trans (by show ob (F139 p0 p1 p2 p3) _=_;rw [hy];rfl)
noncomputable def M139:C139:=F139
theorem sm139:Sp139 M139:=sf139
def X85:Aux:=⟨[],[]⟩
def T85 {R:Type} (B:Ops) (p0:Int) (k:(Int)→Option R):Option R:=cond (B.eq p0 16) (k 1) (cond (B.eq p0 15) (k 2) (cond (B.eq p0 9) (k 3) (cond (B.eq p0 10) (k 3) (cond (B.eq p0 11) (k 3) (cond (B.eq p0 12) (k 3) (cond (B.eq p0 13) (k 3) (cond (B.eq p0 14) (k 3) (cond (B.eq p0 7) (k 4) (cond (B.eq p0 8) (k 4) (cond (B.eq p0 6) (k 5) (cond (B.eq p0 4) (k 6) (cond (B.eq p0 5) (k 6) (k 7)))))))))))))
abbrev K9 {R:Type} (k:AV→Objs→Option R) (y:(Int)):Option R:=k (.c (.int .i64 y)) []
theorem eq85 {R:Type} (B:Ops) (p0:Int) (k:AV→Objs→Option R) (n:Nat):afun tau B gl0 X85 gnil ow Try.f85 [.c (.int .i64 p0)] [] k n=T85 B p0 (K9 k):=by kernel_rfl
theorem nt85 {R R':Type} (B:Ops) (p0:Int) (k0:(Int)→Option R') (k:R'→Option R):T85 B p0 (fun y=>ob (k0 y) k)=ob (T85 B p0 k0) k:=by
 unfold T85
 repeat' first | exact rfl | apply qaa | (apply qaf;intro)
def F85 (p0:Int):Option (Int):=T85 Ops.std p0 some
abbrev C85:Type:=Int→Option (Int)
def e85 {R:Type} (c:C85):Ent R:=eG [.aC (.cI .i64)] [] fun v k=>ob (c v.1) (K9 k)
abbrev Sp85 (c:C85):Prop:=∀ (p0 y:Int),c p0=some y→Spec Try.prog gl0 85 [.c (.int .i64 p0)] [] (.c (.int .i64 y)) []
theorem ek85 {R:Type} {c:C85} (hs:Sp85 c):EOk 85 (e85 (R:=R) c):=qah fun v=>hs v.1
theorem sf85:Sp85 (F85):=fun p0 y hy=>by
 refine qae qad 1000000 (fn:=Try.f85) (by kernel_rfl) (by kernel_rfl) (X:=X85) (by kernel_rfl) ?_
 rw [eq85]
 exact (nt85 Ops.std p0 some (K9 k0)).trans (by show ob (F85 p0) _=_;rw [hy];rfl)
noncomputable def M85:C85:=F85
theorem sm85:Sp85 M85:=sf85
def X136:Aux:=⟨[(5,([0,3,4]++rg 7 21))],[(7,.lin ([0,1,2,3,4,5,6,7,9,8,10,11]))]⟩
inductive S136 where
 | l0 (v1:Int)
def T136 {R:Type} (B:Ops) (c85:C85) (p0:Int) (p1:LB) (p2 p3 p4:Int) (again:S136→Option R) (k:(Int)→Option R):Option S136→Option R | none=>cond (!B.eq p0 4) (k 0) (again (.l0 6)) | some (.l0 v1)=>cond (B.le v1 16) (cond (B.inb v1 17) (cond (List.getD ((mt UInt8)::(mt UInt8)::(mt UInt8)::(mt UInt8)::(mt UInt8)::(mt UInt8)::([42]:LB)::([43]:LB)::([45]:LB)::([60]:LB)::([60,61]:LB)::([62]:LB)::([62,61]:LB)::([61,61]:LB)::([33,61]:LB)::([38,38]:LB)::([124,124]:LB)::mt LB) v1.toNat (mt UInt8) == p1) (ob (c85 v1) fun y0=>cond (B.eq y0 p4) (k v1) (again (.l0 (IntKind.wrap .i64 (v1+1))))) (again (.l0 (IntKind.wrap .i64 (v1+1))))) none) (k 0)
def E136 (p0:Int) (p1:LB) (p2 p3 p4:Int):S136→List AV×Objs
 | .l0 v1=>(mk 28 [(1,.c (.int .i64 p4)),(2,.c (.ptr 2 0)),(5,.c (.ptr 5 0)),(6,.c (.int .i64 v1))],[(2,.box 106 [.int .i64 p0,.str p1,.int .i64 p2,.int .i64 p3]),(5,.box 128 [.str (mt UInt8),.str (mt UInt8),.str (mt UInt8),.str (mt UInt8),.str (mt UInt8),.str (mt UInt8),.str ([42]:LB),.str ([43]:LB),.str ([45]:LB),.str ([60]:LB),.str ([60,61]:LB),.str ([62]:LB),.str ([62,61]:LB),.str ([61,61]:LB),.str ([33,61]:LB),.str ([38,38]:LB),.str ([124,124]:LB)])])
def I136:S136→Nat
 | .l0 _=>0
noncomputable abbrev A136 {R:Type} (B:Ops) (c85:C85) (p0:Int) (p1:LB) (p2 p3 p4:Int) (k:AV→Objs→Option R) (s:S136) (n:Nat):Option R:=aloop tau B gl0 X136 (ent 85 (e85 c85) gnil) ow [] Try.f136 k (I136 s) (E136 p0 p1 p2 p3 p4 s) n
theorem eq136 {R:Type} (B:Ops) (c85:C85) (p0:Int) (p1:LB) (p2 p3 p4:Int) (k:AV→Objs→Option R) (n:Nat):afun tau B gl0 X136 (ent 85 (e85 c85) gnil) ow Try.f136 [.agg [.int .i64 p0,.str p1,.int .i64 p2,.int .i64 p3],.c (.int .i64 p4)] [] k n=T136 B c85 p0 p1 p2 p3 p4 (fun s=>A136 B c85 p0 p1 p2 p3 p4 k s n) (K9 k) none:=by kernel_rfl
theorem el136 {R:Type} (B:Ops) (c85:C85) (p0:Int) (p1:LB) (p2 p3 p4:Int) (k:AV→Objs→Option R) (n:Nat):∀ s,A136 B c85 p0 p1 p2 p3 p4 k s (n+1)=T136 B c85 p0 p1 p2 p3 p4 (fun s=>A136 B c85 p0 p1 p2 p3 p4 k s n) (K9 k) (some s):=by
 intro s
 cases s<;>kernel_rfl
theorem nt136 {R R':Type} (B:Ops) (c85:C85) (p0:Int) (p1:LB) (p2 p3 p4:Int) (again:S136→Option R) (again':S136→Option R') (k0:(Int)→Option R') (k:R'→Option R) (h:∀ s,again s=ob (again' s) k):∀ s,T136 B c85 p0 p1 p2 p3 p4 again (fun y=>ob (k0 y) k) s=ob (T136 B c85 p0 p1 p2 p3 p4 again' k0 s) k:=by
 rintro (_ | x)
 all_goals try cases x
 all_goals (unfold T136;repeat' first | exact rfl | exact h _ | apply qaa | (apply qaf;intro))
def R136 (c85:C85) (p0:Int) (p1:LB) (p2 p3 p4:Int):Nat→S136→Option (Int)
 | 0,_=>none
 | n+1,s=>T136 Ops.std c85 p0 p1 p2 p3 p4 (R136 c85 p0 p1 p2 p3 p4 n) some (some s)
theorem rr136 {R:Type} (c85:C85) (p0:Int) (p1:LB) (p2 p3 p4:Int) (k:AV→Objs→Option R):∀ (n:Nat) (s:S136),A136 Ops.std c85 p0 p1 p2 p3 p4 k s n=ob (R136 c85 p0 p1 p2 p3 p4 n s) (K9 k)
 | 0,s=>by cases s<;>rfl
 | n+1,s=>by rw [el136];exact nt136 Ops.std c85 p0 p1 p2 p3 p4 _ _ some (K9 k) (rr136 c85 p0 p1 p2 p3 p4 k n) (some s)
def F136 (c85:C85) (p0:Int) (p1:LB) (p2 p3 p4:Int):Option (Int):=T136 Ops.std c85 p0 p1 p2 p3 p4 (R136 c85 p0 p1 p2 p3 p4 1000000) some none
abbrev C136:Type:=Int→LB→Int→Int→Int→Option (Int)
def e136 {R:Type} (c:C136):Ent R:=eG [.aG [.cI .i64,.cS,.cI .i64,.cI .i64],.aC (.cI .i64)] [] fun v k=>ob (c v.1 v.2.1 v.2.2.1 v.2.2.2.1 v.2.2.2.2.1) (K9 k)
abbrev Sp136 (c:C136):Prop:=∀ (p0:Int) (p1:LB) (p2 p3 p4 y:Int),c p0 p1 p2 p3 p4=some y→Spec Try.prog gl0 136 [.agg [.int .i64 p0,.str p1,.int .i64 p2,.int .i64 p3],.c (.int .i64 p4)] [] (.c (.int .i64 y)) []
theorem ek136 {R:Type} {c:C136} (hs:Sp136 c):EOk 136 (e136 (R:=R) c):=qah fun v=>hs v.1 v.2.1 v.2.2.1 v.2.2.2.1 v.2.2.2.2.1
theorem sf136 {c85:C85} (h85:Sp85 c85):Sp136 (F136 c85):=fun p0 p1 p2 p3 p4 y hy=>by
 refine qae (qac (ek85 h85) qad) 1000000 (fn:=Try.f136) (by kernel_rfl) (by kernel_rfl) (X:=X136) (by kernel_rfl) ?_
 rw [eq136]
 exact (nt136 Ops.std c85 p0 p1 p2 p3 p4 _ _ some (K9 k0) (rr136 c85 p0 p1 p2 p3 p4 k0 1000000) none).trans (by show ob (F136 c85 p0 p1 p2 p3 p4) _=_;rw [hy];rfl)
noncomputable def M136:C136:=F136 M85
theorem sm136:Sp136 M136:=sf136 sm85
abbrev C131:Type:=Int→L106→Int→Int→L97→Option (L106×Int×Int×L97)
def e131 {R:Type} (c:C131):Ent R:=eG [.aC (.cP 0),.aC (.cI .i64)] [.oB 0 169 [.cL 106 ty106,.cI .i64,.cO 1002,.cI .i64],.oR 1002 97 ty97] fun v k=>ob (c v.1 v.2.1 v.2.2.1 v.2.2.2.1 v.2.2.2.2.1) (K8 k)
abbrev Sp131 (c:C131):Prop:=∀ (p0:Int) (p1:L106) (p2 p3:Int) (p4:L97) (y:L106×Int×Int×L97),c p0 p1 p2 p3 p4=some y→Spec Try.prog gl0 131 [.c (.ptr 0 0),.c (.int .i64 p0)] [(0,.box 169 [.list 106 ty106 p1,.int .i64 p2,.own 1002,.int .i64 p3]),(1002,.row 97 ty97 p4)] (.tup []) [(0,.box 169 [.list 106 ty106 y.1,.int .i64 y.2.1,.own 1002,.int .i64 y.2.2.1]),(1002,.row 97 ty97 y.2.2.2)]
theorem ek131 {R:Type} {c:C131} (hs:Sp131 c):EOk 131 (e131 (R:=R) c):=qah fun v=>hs v.1 v.2.1 v.2.2.1 v.2.2.2.1 v.2.2.2.2.1
abbrev C135:Type:=L106→Int→Int→L97→Option (L106×Int×Int×L97)
def e135 {R:Type} (c:C135):Ent R:=eG [.aC (.cP 0)] [.oB 0 169 [.cL 106 ty106,.cI .i64,.cO 1002,.cI .i64],.oR 1002 97 ty97] fun v k=>ob (c v.1 v.2.1 v.2.2.1 v.2.2.2.1) (K8 k)
abbrev Sp135 (c:C135):Prop:=∀ (p0:L106) (p1 p2:Int) (p3:L97) (y:L106×Int×Int×L97),c p0 p1 p2 p3=some y→Spec Try.prog gl0 135 [.c (.ptr 0 0)] [(0,.box 169 [.list 106 ty106 p0,.int .i64 p1,.own 1002,.int .i64 p2]),(1002,.row 97 ty97 p3)] (.tup []) [(0,.box 169 [.list 106 ty106 y.1,.int .i64 y.2.1,.own 1002,.int .i64 y.2.2.1]),(1002,.row 97 ty97 y.2.2.2)]
theorem ek135 {R:Type} {c:C135} (hs:Sp135 c):EOk 135 (e135 (R:=R) c):=qah fun v=>hs v.1 v.2.1 v.2.2.1 v.2.2.2.1
def X131:Aux:=⟨[(3,(rg 2 54))],[(4,.lin (rg 0 13))]⟩
inductive S131 where
 | l0 (v1:L106) (v2 v3:Int) (v4:L97)
def T131 {R:Type} (B:Ops) (c135:C135) (c131:C131) (c136:C136) (p0:Int) (p1:L106) (p2 p3:Int) (p4:L97) (again:S131→Option R) (k:(L106×Int×Int×L97)→Option R):Option S131→Option R | none=>cond (B.lt 5 p0) (ob (c135 p1 p2 p3 p4) fun y0=>k (y0.1,y0.2.1,y0.2.2.1,y0.2.2.2)) (ob (c131 (IntKind.wrap .i64 (p0+1)) p1 p2 p3 p4) fun y0=>again (.l0 y0.1 y0.2.1 y0.2.2.1 y0.2.2.2)) | some (.l0 v1 v2 v3 v4)=>cond (B.lt v3 0) (cond (B.inb v2 v1.length) (ob (c136 (v1.getD v2.toNat ty106.dflt).1 ((v1.getD v2.toNat ty106.dflt).2).1 (((v1.getD v2.toNat ty106.dflt).2).2).1 (((v1.getD v2.toNat ty106.dflt).2).2).2 p0) fun y0=>cond (B.eq y0 0) (k (v1,v2,v3,v4)) (ob (c131 (IntKind.wrap .i64 (p0+1)) v1 (IntKind.wrap .i64 (v2+1)) v3 v4) fun y1=>cond (B.lim (List.length (y1.2.2.2)+List.length ((y0,0,mt UInt8,mt UInt8)::mt (Ty.den ty97))) 48) (cond (B.eq p0 3) (k ((y1.1,y1.2.1,y1.2.2.1,y1.2.2.2++(y0,0,mt UInt8,mt UInt8)::mt (Ty.den ty97)))) (again (.l0 y1.1 y1.2.1 y1.2.2.1 (y1.2.2.2++(y0,0,mt UInt8,mt UInt8)::mt (Ty.den ty97))))) none)) none) (k (v1,v2,v3,v4))
def E131 (p0:Int) (p1:L106) (p2 p3:Int) (p4:L97):S131→List AV×Objs
 | .l0 v1 v2 v3 v4=>(mk 56 [(0,.c (.ptr 0 0)),(1,.c (.int .i64 p0))],[(0,.box 169 [.list 106 ty106 v1,.int .i64 v2,.own 1002,.int .i64 v3]),(1002,.row 97 ty97 v4)])
def I131:S131→Nat
 | .l0 _ _ _ _=>0
noncomputable abbrev A131 {R:Type} (B:Ops) (c135:C135) (c131:C131) (c136:C136) (p0:Int) (p1:L106) (p2 p3:Int) (p4:L97) (k:AV→Objs→Option R) (s:S131) (n:Nat):Option R:=aloop tau B gl0 X131 (ent 135 (e135 c135) (ent 131 (e131 c131) (ent 136 (e136 c136) gnil))) ow [0] Try.f131 k (I131 s) (E131 p0 p1 p2 p3 p4 s) n
theorem eq131 {R:Type} (B:Ops) (c135:C135) (c131:C131) (c136:C136) (p0:Int) (p1:L106) (p2 p3:Int) (p4:L97) (k:AV→Objs→Option R) (n:Nat):afun tau B gl0 X131 (ent 135 (e135 c135) (ent 131 (e131 c131) (ent 136 (e136 c136) gnil))) ow Try.f131 [.c (.ptr 0 0),.c (.int .i64 p0)] [(0,.box 169 [.list 106 ty106 p1,.int .i64 p2,.own 1002,.int .i64 p3]),(1002,.row 97 ty97 p4)] k n=T131 B c135 c131 c136 p0 p1 p2 p3 p4 (fun s=>A131 B c135 c131 c136 p0 p1 p2 p3 p4 k s n) (K8 k) none:=by kernel_rfl
theorem el131 {R:Type} (B:Ops) (c135:C135) (c131:C131) (c136:C136) (p0:Int) (p1:L106) (p2 p3:Int) (p4:L97) (k:AV→Objs→Option R) (n:Nat):∀ s,A131 B c135 c131 c136 p0 p1 p2 p3 p4 k s (n+1)=T131 B c135 c131 c136 p0 p1 p2 p3 p4 (fun s=>A131 B c135 c131 c136 p0 p1 p2 p3 p4 k s n) (K8 k) (some s):=by
 intro s
 cases s<;>kernel_rfl
theorem nt131 {R R':Type} (B:Ops) (c135:C135) (c131:C131) (c136:C136) (p0:Int) (p1:L106) (p2 p3:Int) (p4:L97) (again:S131→Option R) (again':S131→Option R') (k0:(L106×Int×Int×L97)→Option R') (k:R'→Option R) (h:∀ s,again s=ob (again' s) k):∀ s,T131 B c135 c131 c136 p0 p1 p2 p3 p4 again (fun y=>ob (k0 y) k) s=ob (T131 B c135 c131 c136 p0 p1 p2 p3 p4 again' k0 s) k:=by
 rintro (_ | x)
 all_goals try cases x
 all_goals (unfold T131;repeat' first | exact rfl | exact h _ | apply qaa | (apply qaf;intro))
def R131 (c135:C135) (c131:C131) (c136:C136) (p0:Int) (p1:L106) (p2 p3:Int) (p4:L97):Nat→S131→Option (L106×Int×Int×L97)
 | 0,_=>none
 | n+1,s=>T131 Ops.std c135 c131 c136 p0 p1 p2 p3 p4 (R131 c135 c131 c136 p0 p1 p2 p3 p4 n) some (some s)
theorem rr131 {R:Type} (c135:C135) (c131:C131) (c136:C136) (p0:Int) (p1:L106) (p2 p3:Int) (p4:L97) (k:AV→Objs→Option R):∀ (n:Nat) (s:S131),A131 Ops.std c135 c131 c136 p0 p1 p2 p3 p4 k s n=ob (R131 c135 c131 c136 p0 p1 p2 p3 p4 n s) (K8 k)
 | 0,s=>by cases s<;>rfl
 | n+1,s=>by rw [el131];exact nt131 Ops.std c135 c131 c136 p0 p1 p2 p3 p4 _ _ some (K8 k) (rr131 c135 c131 c136 p0 p1 p2 p3 p4 k n) (some s)
def F131 (c135:C135) (c131:C131) (c136:C136) (p0:Int) (p1:L106) (p2 p3:Int) (p4:L97):Option (L106×Int×Int×L97):=T131 Ops.std c135 c131 c136 p0 p1 p2 p3 p4 (R131 c135 c131 c136 p0 p1 p2 p3 p4 1000000) some none
theorem sf131 {c135:C135} {c131:C131} {c136:C136} (h135:Sp135 c135) (h131:Sp131 c131) (h136:Sp136 c136):Sp131 (F131 c135 c131 c136):=fun p0 p1 p2 p3 p4 y hy=>by
 refine qae (qac (ek135 h135) (qac (ek131 h131) (qac (ek136 h136) qad))) 1000000 (fn:=Try.f131) (by kernel_rfl) (by kernel_rfl) (X:=X131) (by kernel_rfl) ?_
 rw [eq131]
 exact (nt131 Ops.std c135 c131 c136 p0 p1 p2 p3 p4 _ _ some (K8 k0) (rr131 c135 c131 c136 p0 p1 p2 p3 p4 k0 1000000) none).trans (by show ob (F131 c135 c131 c136 p0 p1 p2 p3 p4) _=_;rw [hy];rfl)
def X135:Aux:=⟨[(1000006,([1]++rg 3 167))],[(10,.lin (rg 0 12)),(14,.lin (rg 0 13)),(20,.lin (rg 0 12)),(23,.lin (rg 0 13)),(25,.lin (rg 0 11))]⟩
inductive S135 where
 | l1006 (v0:Int) (v1:L106) (v2 v3:Int) (v4:L97)
def T135 {R:Type} (B:Ops) (c138:C138) (c135:C135) (c139:C139) (c131:C131) (p0:L106) (p1 p2:Int) (p3:L97) (again:S135→Option R) (k:(L106×Int×Int×L97)→Option R):Option S135→Option R | none=>cond (B.le 0 p2) (k (p0,p1,p2,p3)) (ob (c138 ([33]:LB) p0 p1 p2 p3) fun y0=>cond y0.1 (again (.l1006 4 y0.2.1 y0.2.2.1 y0.2.2.2.1 y0.2.2.2.2)) (ob (c138 ([45]:LB) y0.2.1 y0.2.2.1 y0.2.2.2.1 y0.2.2.2.2) fun y1=>cond y1.1 (again (.l1006 5 y1.2.1 y1.2.2.1 y1.2.2.2.1 y1.2.2.2.2)) (again (.l1006 0 y1.2.1 y1.2.2.1 y1.2.2.2.1 y1.2.2.2.2)))) | some (.l1006 v0 v1 v2 v3 v4)=>cond (!B.eq v0 0) (ob (c135 v1 (IntKind.wrap .i64 (v2+1)) v3 v4) fun y0=>cond (B.lim (List.length (y0.2.2.2)+List.length ((v0,0,mt UInt8,mt UInt8)::mt (Ty.den ty97))) 48) (k ((y0.1,y0.2.1,y0.2.2.1,y0.2.2.2++(v0,0,mt UInt8,mt UInt8)::mt (Ty.den ty97)))) none) (cond (B.inb v2 v1.length) (cond (B.eq (v1.getD v2.toNat ty106.dflt).1 1) (cond (B.lim (List.length v4+List.length ((1,(((v1.getD v2.toNat ty106.dflt).2).2).1,mt UInt8,mt UInt8)::mt (Ty.den ty97))) 48) (k ((v1,IntKind.wrap .i64 (v2+1),v3,v4++(1,(((v1.getD v2.toNat ty106.dflt).2).2).1,mt UInt8,mt UInt8)::mt (Ty.den ty97)))) none) (cond (B.eq (v1.getD v2.toNat ty106.dflt).1 2) (ob (c138 ([64]:LB) v1 (IntKind.wrap .i64 (v2+1)) v3 v4) fun y0=>cond y0.1 (cond (B.inb (IntKind.wrap .i64 (y0.2.2.1+1)) (List.length y0.2.1)) (cond (!B.eq (List.getD y0.2.1 (Int.toNat (IntKind.wrap .i64 (y0.2.2.1+1))) ty106.dflt).1 2) (ob (c139 y0.2.1 (IntKind.wrap .i64 (y0.2.2.1+1)) y0.2.2.2.1 y0.2.2.2.2) fun y1=>k (y1.1,y1.2.1,y1.2.2.1,y1.2.2.2)) (cond (B.inb (IntKind.wrap .i64 (y0.2.2.1+1)) (List.length y0.2.1)) (cond (B.lim (List.length (y0.2.2.2.2)+List.length ((3,0,((v1.getD v2.toNat ty106.dflt).2).1,((List.getD y0.2.1 (Int.toNat (IntKind.wrap .i64 (y0.2.2.1+1))) ty106.dflt).2).1)::mt (Ty.den ty97))) 48) (k ((y0.2.1,IntKind.wrap .i64 (IntKind.wrap .i64 (y0.2.2.1+1)+1),y0.2.2.2.1,y0.2.2.2.2++(3,0,((v1.getD v2.toNat ty106.dflt).2).1,((List.getD y0.2.1 (Int.toNat (IntKind.wrap .i64 (y0.2.2.1+1))) ty106.dflt).2).1)::mt (Ty.den ty97)))) none) none)) none) (cond (B.lim (List.length (y0.2.2.2.2)+List.length ((2,0,((v1.getD v2.toNat ty106.dflt).2).1,mt UInt8)::mt (Ty.den ty97))) 48) (k ((y0.2.1,y0.2.2.1,y0.2.2.2.1,y0.2.2.2.2++(2,0,((v1.getD v2.toNat ty106.dflt).2).1,mt UInt8)::mt (Ty.den ty97)))) none)) (ob (c138 ([40]:LB) v1 v2 v3 v4) fun y0=>cond y0.1 (ob (c131 1 y0.2.1 (IntKind.wrap .i64 (y0.2.2.1+1)) y0.2.2.2.1 y0.2.2.2.2) fun y1=>cond (B.le 0 y1.2.2.1) (k (y1.1,y1.2.1,y1.2.2.1,y1.2.2.2)) (ob (c138 ([41]:LB) y1.1 y1.2.1 y1.2.2.1 y1.2.2.2) fun y2=>cond (!y2.1) (ob (c139 y2.2.1 y2.2.2.1 y2.2.2.2.1 y2.2.2.2.2) fun y3=>k (y3.1,y3.2.1,y3.2.2.1,y3.2.2.2)) (k ((y2.2.1,IntKind.wrap .i64 (y2.2.2.1+1),y2.2.2.2.1,y2.2.2.2.2))))) (ob (c139 y0.2.1 y0.2.2.1 y0.2.2.2.1 y0.2.2.2.2) fun y1=>k (y1.1,y1.2.1,y1.2.2.1,y1.2.2.2))))) none)
def E135 (p0:L106) (p1 p2:Int) (p3:L97):S135→List AV×Objs
 | .l1006 v0 v1 v2 v3 v4=>(mk 170 [(0,.c (.ptr 0 0)),(2,.c (.int .i64 v0))],[(0,.box 169 [.list 106 ty106 v1,.int .i64 v2,.own 1002,.int .i64 v3]),(1002,.row 97 ty97 v4)])
def I135:S135→Nat
 | .l1006 _ _ _ _ _=>1006
noncomputable abbrev A135 {R:Type} (B:Ops) (c138:C138) (c135:C135) (c139:C139) (c131:C131) (p0:L106) (p1 p2:Int) (p3:L97) (k:AV→Objs→Option R) (s:S135) (n:Nat):Option R:=aloop tau B gl0 X135 (ent 138 (e138 c138) (ent 135 (e135 c135) (ent 139 (e139 c139) (ent 131 (e131 c131) gnil)))) ow [0] Try.f135 k (I135 s) (E135 p0 p1 p2 p3 s) n
theorem eq135 {R:Type} (B:Ops) (c138:C138) (c135:C135) (c139:C139) (c131:C131) (p0:L106) (p1 p2:Int) (p3:L97) (k:AV→Objs→Option R) (n:Nat):afun tau B gl0 X135 (ent 138 (e138 c138) (ent 135 (e135 c135) (ent 139 (e139 c139) (ent 131 (e131 c131) gnil)))) ow Try.f135 [.c (.ptr 0 0)] [(0,.box 169 [.list 106 ty106 p0,.int .i64 p1,.own 1002,.int .i64 p2]),(1002,.row 97 ty97 p3)] k n=T135 B c138 c135 c139 c131 p0 p1 p2 p3 (fun s=>A135 B c138 c135 c139 c131 p0 p1 p2 p3 k s n) (K8 k) none:=by kernel_rfl
theorem el135 {R:Type} (B:Ops) (c138:C138) (c135:C135) (c139:C139) (c131:C131) (p0:L106) (p1 p2:Int) (p3:L97) (k:AV→Objs→Option R) (n:Nat):∀ s,A135 B c138 c135 c139 c131 p0 p1 p2 p3 k s (n+1)=T135 B c138 c135 c139 c131 p0 p1 p2 p3 (fun s=>A135 B c138 c135 c139 c131 p0 p1 p2 p3 k s n) (K8 k) (some s):=by
 intro s
 cases s<;>kernel_rfl
theorem nt135 {R R':Type} (B:Ops) (c138:C138) (c135:C135) (c139:C139) (c131:C131) (p0:L106) (p1 p2:Int) (p3:L97) (again:S135→Option R) (again':S135→Option R') (k0:(L106×Int×Int×L97)→Option R') (k:R'→Option R) (h:∀ s,again s=ob (again' s) k):∀ s,T135 B c138 c135 c139 c131 p0 p1 p2 p3 again (fun y=>ob (k0 y) k) s=ob (T135 B c138 c135 c139 c131 p0 p1 p2 p3 again' k0 s) k:=by
 rintro (_ | x)
 all_goals try cases x
 all_goals (unfold T135;repeat' first | exact rfl | exact h _ | apply qaa | (apply qaf;intro))
def R135 (c138:C138) (c135:C135) (c139:C139) (c131:C131) (p0:L106) (p1 p2:Int) (p3:L97):Nat→S135→Option (L106×Int×Int×L97)
 | 0,_=>none
 | n+1,s=>T135 Ops.std c138 c135 c139 c131 p0 p1 p2 p3 (R135 c138 c135 c139 c131 p0 p1 p2 p3 n) some (some s)
theorem rr135 {R:Type} (c138:C138) (c135:C135) (c139:C139) (c131:C131) (p0:L106) (p1 p2:Int) (p3:L97) (k:AV→Objs→Option R):∀ (n:Nat) (s:S135),A135 Ops.std c138 c135 c139 c131 p0 p1 p2 p3 k s n=ob (R135 c138 c135 c139 c131 p0 p1 p2 p3 n s) (K8 k)
 | 0,s=>by cases s<;>rfl
 | n+1,s=>by rw [el135];exact nt135 Ops.std c138 c135 c139 c131 p0 p1 p2 p3 _ _ some (K8 k) (rr135 c138 c135 c139 c131 p0 p1 p2 p3 k n) (some s)
def F135 (c138:C138) (c135:C135) (c139:C139) (c131:C131) (p0:L106) (p1 p2:Int) (p3:L97):Option (L106×Int×Int×L97):=T135 Ops.std c138 c135 c139 c131 p0 p1 p2 p3 (R135 c138 c135 c139 c131 p0 p1 p2 p3 1000000) some none
theorem sf135 {c138:C138} {c135:C135} {c139:C139} {c131:C131} (h138:Sp138 c138) (h135:Sp135 c135) (h139:Sp139 c139) (h131:Sp131 c131):Sp135 (F135 c138 c135 c139 c131):=fun p0 p1 p2 p3 y hy=>by
 refine qae (qac (ek138 h138) (qac (ek135 h135) (qac (ek139 h139) (qac (ek131 h131) qad)))) 1000000 (fn:=Try.f135) (by kernel_rfl) (by kernel_rfl) (X:=X135) (by kernel_rfl) ?_
 rw [eq135]
 exact (nt135 Ops.std c138 c135 c139 c131 p0 p1 p2 p3 _ _ some (K8 k0) (rr135 c138 c135 c139 c131 p0 p1 p2 p3 k0 1000000) none).trans (by show ob (F135 c138 c135 c139 c131 p0 p1 p2 p3) _=_;rw [hy];rfl)
noncomputable def Rec131:Nat→(Int→L106→Int→Int→L97→Option (L106×Int×Int×L97))×(L106→Int→Int→L97→Option (L106×Int×Int×L97))
 | 0=>(fun _ _ _ _ _=>none,fun _ _ _ _=>none)
 | d+1=>(F131 (Rec131 d).2 (Rec131 d).1 M136,F135 M138 (Rec131 d).2 M139 (Rec131 d).1)
theorem rec131:∀ d,Sp131 (Rec131 d).1∧Sp135 (Rec131 d).2
 | 0=>⟨(fun p0 p1 p2 p3 p4 y (h:(none:Option (L106×Int×Int×L97))=some y)=>by cases h),(fun p0 p1 p2 p3 y (h:(none:Option (L106×Int×Int×L97))=some y)=>by cases h)⟩
 | d+1=>⟨sf131 (rec131 d).2 (rec131 d).1 sm136,sf135 sm138 (rec131 d).2 sm139 (rec131 d).1⟩
noncomputable def M131:C131:=(Rec131 1000000).1
theorem sm131:Sp131 M131:=(rec131 1000000).1
def X121:Aux:=⟨[],[(4,.lin [0,1,2,3,4,5,6]),(7,.lin (rg 0 11))]⟩
def T121 {R:Type} (B:Ops) (c131:C131) (p0:L106) (p1:Int) (k:(Int×Int×L97)→Option R):Option R:=ob (c131 1 p0 p1 (-1) (mt (Ty.den ty97))) fun y0=>cond (B.le 0 y0.2.2.1) (k ((y0.2.2.1,2,mt (Ty.den ty97)))) (cond (B.lt 30 (Nat.cast (List.length y0.2.2.2))) (k ((p1,13,mt (Ty.den ty97)))) (k (y0.2.1,0,y0.2.2.2)))
abbrev K10 {R:Type} (k:AV→Objs→Option R) (y:(Int×Int×L97)):Option R:=k (.tup [(false,[.own 501000]),(false,[.int .i64 y.1]),(false,[.int .i64 y.2.1])]) [(501000,.row 97 ty97 y.2.2)]
theorem eq121 {R:Type} (B:Ops) (c131:C131) (p0:L106) (p1:Int) (k:AV→Objs→Option R) (n:Nat):afun tau B gl0 X121 (ent 131 (e131 c131) gnil) ow Try.f121 [.c (.list 106 ty106 p0),.c (.int .i64 p1)] [] k n=T121 B c131 p0 p1 (K10 k):=by kernel_rfl
theorem nt121 {R R':Type} (B:Ops) (c131:C131) (p0:L106) (p1:Int) (k0:(Int×Int×L97)→Option R') (k:R'→Option R):T121 B c131 p0 p1 (fun y=>ob (k0 y) k)=ob (T121 B c131 p0 p1 k0) k:=by
 unfold T121
 repeat' first | exact rfl | apply qaa | (apply qaf;intro)
def F121 (c131:C131) (p0:L106) (p1:Int):Option (Int×Int×L97):=T121 Ops.std c131 p0 p1 some
abbrev C121:Type:=L106→Int→Option (Int×Int×L97)
def e121 {R:Type} (c:C121):Ent R:=eG [.aC (.cL 106 ty106),.aC (.cI .i64)] [] fun v k=>ob (c v.1 v.2.1) (K10 k)
abbrev Sp121 (c:C121):Prop:=∀ (p0:L106) (p1:Int) (y:Int×Int×L97),c p0 p1=some y→Spec Try.prog gl0 121 [.c (.list 106 ty106 p0),.c (.int .i64 p1)] [] (.tup [(false,[.own 501000]),(false,[.int .i64 y.1]),(false,[.int .i64 y.2.1])]) [(501000,.row 97 ty97 y.2.2)]
theorem ek121 {R:Type} {c:C121} (hs:Sp121 c):EOk 121 (e121 (R:=R) c):=qah fun v=>hs v.1 v.2.1
theorem sf121 {c131:C131} (h131:Sp131 c131):Sp121 (F121 c131):=fun p0 p1 y hy=>by
 refine qae (qac (ek131 h131) qad) 1000000 (fn:=Try.f121) (by kernel_rfl) (by kernel_rfl) (X:=X121) (by kernel_rfl) ?_
 rw [eq121]
 exact (nt121 Ops.std c131 p0 p1 some (K10 k0)).trans (by show ob (F121 c131 p0 p1) _=_;rw [hy];rfl)
noncomputable def M121:C121:=F121 M131
theorem sm121:Sp121 M121:=sf121 sm131
def X98:Aux:=⟨[(1000012,(rg 0 63))],[(1,.lin (rg 0 12))]⟩
inductive S98 where
 | l1012 (v0:L106) (v1 v2 v3:Int) (v4:L36)
def T98 {R:Type} (B:Ops) (c119:C119) (p0:Int) (p1:L106) (p2 p3 p4:Int) (p5:L36) (again:S98→Option R) (k:(Int×L106×Int×Int×Int×L36)→Option R):Option S98→Option R | none=>cond (B.inb p2 p1.length) (cond (B.eq p0 1) (ob (c119 ([45,62]:LB) p1 p2 p3 p4 p5) fun y0=>cond y0.1 (k (7,y0.2.1,y0.2.2.1,y0.2.2.2.1,y0.2.2.2.2.1,y0.2.2.2.2.2)) (cond (B.eq p0 2) (ob (c119 ([124,124]:LB) y0.2.1 y0.2.2.1 y0.2.2.2.1 y0.2.2.2.2.1 y0.2.2.2.2.2) fun y1=>cond y1.1 (k (6,y1.2.1,y1.2.2.1,y1.2.2.2.1,y1.2.2.2.2.1,y1.2.2.2.2.2)) (cond (B.eq p0 3) (ob (c119 ([38,38]:LB) y1.2.1 y1.2.2.1 y1.2.2.2.1 y1.2.2.2.2.1 y1.2.2.2.2.2) fun y2=>cond y2.1 (k (5,y2.2.1,y2.2.2.1,y2.2.2.2.1,y2.2.2.2.2.1,y2.2.2.2.2.2)) (cond (B.eq p0 4) (cond (B.eq (p1.getD p2.toNat ty106.dflt).1 3) (cond (((p1.getD p2.toNat ty106.dflt).2).1 == ([85]:LB)) (k (9,y2.2.1,y2.2.2.1,y2.2.2.2.1,y2.2.2.2.2.1,y2.2.2.2.2.2)) (cond (B.eq p0 4) (cond (B.eq (p1.getD p2.toNat ty106.dflt).1 3) (cond (((p1.getD p2.toNat ty106.dflt).2).1 == ([82]:LB)) (k (10,y2.2.1,y2.2.2.1,y2.2.2.2.1,y2.2.2.2.2.1,y2.2.2.2.2.2)) (again (.l1012 y2.2.1 y2.2.2.1 y2.2.2.2.1 y2.2.2.2.2.1 y2.2.2.2.2.2))) (again (.l1012 y2.2.1 y2.2.2.1 y2.2.2.2.1 y2.2.2.2.2.1 y2.2.2.2.2.2))) (again (.l1012 y2.2.1 y2.2.2.1 y2.2.2.2.1 y2.2.2.2.2.1 y2.2.2.2.2.2)))) (cond (B.eq p0 4) (cond (B.eq (p1.getD p2.toNat ty106.dflt).1 3) (cond (((p1.getD p2.toNat ty106.dflt).2).1 == ([82]:LB)) (k (10,y2.2.1,y2.2.2.1,y2.2.2.2.1,y2.2.2.2.2.1,y2.2.2.2.2.2)) (again (.l1012 y2.2.1 y2.2.2.1 y2.2.2.2.1 y2.2.2.2.2.1 y2.2.2.2.2.2))) (again (.l1012 y2.2.1 y2.2.2.1 y2.2.2.2.1 y2.2.2.2.2.1 y2.2.2.2.2.2))) (again (.l1012 y2.2.1 y2.2.2.1 y2.2.2.2.1 y2.2.2.2.2.1 y2.2.2.2.2.2)))) (cond (B.eq p0 4) (cond (B.eq (p1.getD p2.toNat ty106.dflt).1 3) (cond (((p1.getD p2.toNat ty106.dflt).2).1 == ([82]:LB)) (k (10,y2.2.1,y2.2.2.1,y2.2.2.2.1,y2.2.2.2.2.1,y2.2.2.2.2.2)) (again (.l1012 y2.2.1 y2.2.2.1 y2.2.2.2.1 y2.2.2.2.2.1 y2.2.2.2.2.2))) (again (.l1012 y2.2.1 y2.2.2.1 y2.2.2.2.1 y2.2.2.2.2.1 y2.2.2.2.2.2))) (again (.l1012 y2.2.1 y2.2.2.1 y2.2.2.2.1 y2.2.2.2.2.1 y2.2.2.2.2.2))))) (cond (B.eq p0 4) (cond (B.eq (p1.getD p2.toNat ty106.dflt).1 3) (cond (((p1.getD p2.toNat ty106.dflt).2).1 == ([85]:LB)) (k (9,y1.2.1,y1.2.2.1,y1.2.2.2.1,y1.2.2.2.2.1,y1.2.2.2.2.2)) (cond (B.eq p0 4) (cond (B.eq (p1.getD p2.toNat ty106.dflt).1 3) (cond (((p1.getD p2.toNat ty106.dflt).2).1 == ([82]:LB)) (k (10,y1.2.1,y1.2.2.1,y1.2.2.2.1,y1.2.2.2.2.1,y1.2.2.2.2.2)) (again (.l1012 y1.2.1 y1.2.2.1 y1.2.2.2.1 y1.2.2.2.2.1 y1.2.2.2.2.2))) (again (.l1012 y1.2.1 y1.2.2.1 y1.2.2.2.1 y1.2.2.2.2.1 y1.2.2.2.2.2))) (again (.l1012 y1.2.1 y1.2.2.1 y1.2.2.2.1 y1.2.2.2.2.1 y1.2.2.2.2.2)))) (cond (B.eq p0 4) (cond (B.eq (p1.getD p2.toNat ty106.dflt).1 3) (cond (((p1.getD p2.toNat ty106.dflt).2).1 == ([82]:LB)) (k (10,y1.2.1,y1.2.2.1,y1.2.2.2.1,y1.2.2.2.2.1,y1.2.2.2.2.2)) (again (.l1012 y1.2.1 y1.2.2.1 y1.2.2.2.1 y1.2.2.2.2.1 y1.2.2.2.2.2))) (again (.l1012 y1.2.1 y1.2.2.1 y1.2.2.2.1 y1.2.2.2.2.1 y1.2.2.2.2.2))) (again (.l1012 y1.2.1 y1.2.2.1 y1.2.2.2.1 y1.2.2.2.2.1 y1.2.2.2.2.2)))) (cond (B.eq p0 4) (cond (B.eq (p1.getD p2.toNat ty106.dflt).1 3) (cond (((p1.getD p2.toNat ty106.dflt).2).1 == ([82]:LB)) (k (10,y1.2.1,y1.2.2.1,y1.2.2.2.1,y1.2.2.2.2.1,y1.2.2.2.2.2)) (again (.l1012 y1.2.1 y1.2.2.1 y1.2.2.2.1 y1.2.2.2.2.1 y1.2.2.2.2.2))) (again (.l1012 y1.2.1 y1.2.2.1 y1.2.2.2.1 y1.2.2.2.2.1 y1.2.2.2.2.2))) (again (.l1012 y1.2.1 y1.2.2.1 y1.2.2.2.1 y1.2.2.2.2.1 y1.2.2.2.2.2)))))) (cond (B.eq p0 3) (ob (c119 ([38,38]:LB) y0.2.1 y0.2.2.1 y0.2.2.2.1 y0.2.2.2.2.1 y0.2.2.2.2.2) fun y1=>cond y1.1 (k (5,y1.2.1,y1.2.2.1,y1.2.2.2.1,y1.2.2.2.2.1,y1.2.2.2.2.2)) (cond (B.eq p0 4) (cond (B.eq (p1.getD p2.toNat ty106.dflt).1 3) (cond (((p1.getD p2.toNat ty106.dflt).2).1 == ([85]:LB)) (k (9,y1.2.1,y1.2.2.1,y1.2.2.2.1,y1.2.2.2.2.1,y1.2.2.2.2.2)) (cond (B.eq p0 4) (cond (B.eq (p1.getD p2.toNat ty106.dflt).1 3) (cond (((p1.getD p2.toNat ty106.dflt).2).1 == ([82]:LB)) (k (10,y1.2.1,y1.2.2.1,y1.2.2.2.1,y1.2.2.2.2.1,y1.2.2.2.2.2)) (again (.l1012 y1.2.1 y1.2.2.1 y1.2.2.2.1 y1.2.2.2.2.1 y1.2.2.2.2.2))) (again (.l1012 y1.2.1 y1.2.2.1 y1.2.2.2.1 y1.2.2.2.2.1 y1.2.2.2.2.2))) (again (.l1012 y1.2.1 y1.2.2.1 y1.2.2.2.1 y1.2.2.2.2.1 y1.2.2.2.2.2)))) (cond (B.eq p0 4) (cond (B.eq (p1.getD p2.toNat ty106.dflt).1 3) (cond (((p1.getD p2.toNat ty106.dflt).2).1 == ([82]:LB)) (k (10,y1.2.1,y1.2.2.1,y1.2.2.2.1,y1.2.2.2.2.1,y1.2.2.2.2.2)) (again (.l1012 y1.2.1 y1.2.2.1 y1.2.2.2.1 y1.2.2.2.2.1 y1.2.2.2.2.2))) (again (.l1012 y1.2.1 y1.2.2.1 y1.2.2.2.1 y1.2.2.2.2.1 y1.2.2.2.2.2))) (again (.l1012 y1.2.1 y1.2.2.1 y1.2.2.2.1 y1.2.2.2.2.1 y1.2.2.2.2.2)))) (cond (B.eq p0 4) (cond (B.eq (p1.getD p2.toNat ty106.dflt).1 3) (cond (((p1.getD p2.toNat ty106.dflt).2).1 == ([82]:LB)) (k (10,y1.2.1,y1.2.2.1,y1.2.2.2.1,y1.2.2.2.2.1,y1.2.2.2.2.2)) (again (.l1012 y1.2.1 y1.2.2.1 y1.2.2.2.1 y1.2.2.2.2.1 y1.2.2.2.2.2))) (again (.l1012 y1.2.1 y1.2.2.1 y1.2.2.2.1 y1.2.2.2.2.1 y1.2.2.2.2.2))) (again (.l1012 y1.2.1 y1.2.2.1 y1.2.2.2.1 y1.2.2.2.2.1 y1.2.2.2.2.2))))) (cond (B.eq p0 4) (cond (B.eq (p1.getD p2.toNat ty106.dflt).1 3) (cond (((p1.getD p2.toNat ty106.dflt).2).1 == ([85]:LB)) (k (9,y0.2.1,y0.2.2.1,y0.2.2.2.1,y0.2.2.2.2.1,y0.2.2.2.2.2)) (cond (B.eq p0 4) (cond (B.eq (p1.getD p2.toNat ty106.dflt).1 3) (cond (((p1.getD p2.toNat ty106.dflt).2).1 == ([82]:LB)) (k (10,y0.2.1,y0.2.2.1,y0.2.2.2.1,y0.2.2.2.2.1,y0.2.2.2.2.2)) (again (.l1012 y0.2.1 y0.2.2.1 y0.2.2.2.1 y0.2.2.2.2.1 y0.2.2.2.2.2))) (again (.l1012 y0.2.1 y0.2.2.1 y0.2.2.2.1 y0.2.2.2.2.1 y0.2.2.2.2.2))) (again (.l1012 y0.2.1 y0.2.2.1 y0.2.2.2.1 y0.2.2.2.2.1 y0.2.2.2.2.2)))) (cond (B.eq p0 4) (cond (B.eq (p1.getD p2.toNat ty106.dflt).1 3) (cond (((p1.getD p2.toNat ty106.dflt).2).1 == ([82]:LB)) (k (10,y0.2.1,y0.2.2.1,y0.2.2.2.1,y0.2.2.2.2.1,y0.2.2.2.2.2)) (again (.l1012 y0.2.1 y0.2.2.1 y0.2.2.2.1 y0.2.2.2.2.1 y0.2.2.2.2.2))) (again (.l1012 y0.2.1 y0.2.2.1 y0.2.2.2.1 y0.2.2.2.2.1 y0.2.2.2.2.2))) (again (.l1012 y0.2.1 y0.2.2.1 y0.2.2.2.1 y0.2.2.2.2.1 y0.2.2.2.2.2)))) (cond (B.eq p0 4) (cond (B.eq (p1.getD p2.toNat ty106.dflt).1 3) (cond (((p1.getD p2.toNat ty106.dflt).2).1 == ([82]:LB)) (k (10,y0.2.1,y0.2.2.1,y0.2.2.2.1,y0.2.2.2.2.1,y0.2.2.2.2.2)) (again (.l1012 y0.2.1 y0.2.2.1 y0.2.2.2.1 y0.2.2.2.2.1 y0.2.2.2.2.2))) (again (.l1012 y0.2.1 y0.2.2.1 y0.2.2.2.1 y0.2.2.2.2.1 y0.2.2.2.2.2))) (again (.l1012 y0.2.1 y0.2.2.1 y0.2.2.2.1 y0.2.2.2.2.1 y0.2.2.2.2.2))))))) (cond (B.eq p0 2) (ob (c119 ([124,124]:LB) p1 p2 p3 p4 p5) fun y0=>cond y0.1 (k (6,y0.2.1,y0.2.2.1,y0.2.2.2.1,y0.2.2.2.2.1,y0.2.2.2.2.2)) (cond (B.eq p0 3) (ob (c119 ([38,38]:LB) y0.2.1 y0.2.2.1 y0.2.2.2.1 y0.2.2.2.2.1 y0.2.2.2.2.2) fun y1=>cond y1.1 (k (5,y1.2.1,y1.2.2.1,y1.2.2.2.1,y1.2.2.2.2.1,y1.2.2.2.2.2)) (cond (B.eq p0 4) (cond (B.eq (p1.getD p2.toNat ty106.dflt).1 3) (cond (((p1.getD p2.toNat ty106.dflt).2).1 == ([85]:LB)) (k (9,y1.2.1,y1.2.2.1,y1.2.2.2.1,y1.2.2.2.2.1,y1.2.2.2.2.2)) (cond (B.eq p0 4) (cond (B.eq (p1.getD p2.toNat ty106.dflt).1 3) (cond (((p1.getD p2.toNat ty106.dflt).2).1 == ([82]:LB)) (k (10,y1.2.1,y1.2.2.1,y1.2.2.2.1,y1.2.2.2.2.1,y1.2.2.2.2.2)) (again (.l1012 y1.2.1 y1.2.2.1 y1.2.2.2.1 y1.2.2.2.2.1 y1.2.2.2.2.2))) (again (.l1012 y1.2.1 y1.2.2.1 y1.2.2.2.1 y1.2.2.2.2.1 y1.2.2.2.2.2))) (again (.l1012 y1.2.1 y1.2.2.1 y1.2.2.2.1 y1.2.2.2.2.1 y1.2.2.2.2.2)))) (cond (B.eq p0 4) (cond (B.eq (p1.getD p2.toNat ty106.dflt).1 3) (cond (((p1.getD p2.toNat ty106.dflt).2).1 == ([82]:LB)) (k (10,y1.2.1,y1.2.2.1,y1.2.2.2.1,y1.2.2.2.2.1,y1.2.2.2.2.2)) (again (.l1012 y1.2.1 y1.2.2.1 y1.2.2.2.1 y1.2.2.2.2.1 y1.2.2.2.2.2))) (again (.l1012 y1.2.1 y1.2.2.1 y1.2.2.2.1 y1.2.2.2.2.1 y1.2.2.2.2.2))) (again (.l1012 y1.2.1 y1.2.2.1 y1.2.2.2.1 y1.2.2.2.2.1 y1.2.2.2.2.2)))) (cond (B.eq p0 4) (cond (B.eq (p1.getD p2.toNat ty106.dflt).1 3) (cond (((p1.getD p2.toNat ty106.dflt).2).1 == ([82]:LB)) (k (10,y1.2.1,y1.2.2.1,y1.2.2.2.1,y1.2.2.2.2.1,y1.2.2.2.2.2)) (again (.l1012 y1.2.1 y1.2.2.1 y1.2.2.2.1 y1.2.2.2.2.1 y1.2.2.2.2.2))) (again (.l1012 y1.2.1 y1.2.2.1 y1.2.2.2.1 y1.2.2.2.2.1 y1.2.2.2.2.2))) (again (.l1012 y1.2.1 y1.2.2.1 y1.2.2.2.1 y1.2.2.2.2.1 y1.2.2.2.2.2))))) (cond (B.eq p0 4) (cond (B.eq (p1.getD p2.toNat ty106.dflt).1 3) (cond (((p1.getD p2.toNat ty106.dflt).2).1 == ([85]:LB)) (k (9,y0.2.1,y0.2.2.1,y0.2.2.2.1,y0.2.2.2.2.1,y0.2.2.2.2.2)) (cond (B.eq p0 4) (cond (B.eq (p1.getD p2.toNat ty106.dflt).1 3) (cond (((p1.getD p2.toNat ty106.dflt).2).1 == ([82]:LB)) (k (10,y0.2.1,y0.2.2.1,y0.2.2.2.1,y0.2.2.2.2.1,y0.2.2.2.2.2)) (again (.l1012 y0.2.1 y0.2.2.1 y0.2.2.2.1 y0.2.2.2.2.1 y0.2.2.2.2.2))) (again (.l1012 y0.2.1 y0.2.2.1 y0.2.2.2.1 y0.2.2.2.2.1 y0.2.2.2.2.2))) (again (.l1012 y0.2.1 y0.2.2.1 y0.2.2.2.1 y0.2.2.2.2.1 y0.2.2.2.2.2)))) (cond (B.eq p0 4) (cond (B.eq (p1.getD p2.toNat ty106.dflt).1 3) (cond (((p1.getD p2.toNat ty106.dflt).2).1 == ([82]:LB)) (k (10,y0.2.1,y0.2.2.1,y0.2.2.2.1,y0.2.2.2.2.1,y0.2.2.2.2.2)) (again (.l1012 y0.2.1 y0.2.2.1 y0.2.2.2.1 y0.2.2.2.2.1 y0.2.2.2.2.2))) (again (.l1012 y0.2.1 y0.2.2.1 y0.2.2.2.1 y0.2.2.2.2.1 y0.2.2.2.2.2))) (again (.l1012 y0.2.1 y0.2.2.1 y0.2.2.2.1 y0.2.2.2.2.1 y0.2.2.2.2.2)))) (cond (B.eq p0 4) (cond (B.eq (p1.getD p2.toNat ty106.dflt).1 3) (cond (((p1.getD p2.toNat ty106.dflt).2).1 == ([82]:LB)) (k (10,y0.2.1,y0.2.2.1,y0.2.2.2.1,y0.2.2.2.2.1,y0.2.2.2.2.2)) (again (.l1012 y0.2.1 y0.2.2.1 y0.2.2.2.1 y0.2.2.2.2.1 y0.2.2.2.2.2))) (again (.l1012 y0.2.1 y0.2.2.1 y0.2.2.2.1 y0.2.2.2.2.1 y0.2.2.2.2.2))) (again (.l1012 y0.2.1 y0.2.2.1 y0.2.2.2.1 y0.2.2.2.2.1 y0.2.2.2.2.2)))))) (cond (B.eq p0 3) (ob (c119 ([38,38]:LB) p1 p2 p3 p4 p5) fun y0=>cond y0.1 (k (5,y0.2.1,y0.2.2.1,y0.2.2.2.1,y0.2.2.2.2.1,y0.2.2.2.2.2)) (cond (B.eq p0 4) (cond (B.eq (p1.getD p2.toNat ty106.dflt).1 3) (cond (((p1.getD p2.toNat ty106.dflt).2).1 == ([85]:LB)) (k (9,y0.2.1,y0.2.2.1,y0.2.2.2.1,y0.2.2.2.2.1,y0.2.2.2.2.2)) (cond (B.eq p0 4) (cond (B.eq (p1.getD p2.toNat ty106.dflt).1 3) (cond (((p1.getD p2.toNat ty106.dflt).2).1 == ([82]:LB)) (k (10,y0.2.1,y0.2.2.1,y0.2.2.2.1,y0.2.2.2.2.1,y0.2.2.2.2.2)) (again (.l1012 y0.2.1 y0.2.2.1 y0.2.2.2.1 y0.2.2.2.2.1 y0.2.2.2.2.2))) (again (.l1012 y0.2.1 y0.2.2.1 y0.2.2.2.1 y0.2.2.2.2.1 y0.2.2.2.2.2))) (again (.l1012 y0.2.1 y0.2.2.1 y0.2.2.2.1 y0.2.2.2.2.1 y0.2.2.2.2.2)))) (cond (B.eq p0 4) (cond (B.eq (p1.getD p2.toNat ty106.dflt).1 3) (cond (((p1.getD p2.toNat ty106.dflt).2).1 == ([82]:LB)) (k (10,y0.2.1,y0.2.2.1,y0.2.2.2.1,y0.2.2.2.2.1,y0.2.2.2.2.2)) (again (.l1012 y0.2.1 y0.2.2.1 y0.2.2.2.1 y0.2.2.2.2.1 y0.2.2.2.2.2))) (again (.l1012 y0.2.1 y0.2.2.1 y0.2.2.2.1 y0.2.2.2.2.1 y0.2.2.2.2.2))) (again (.l1012 y0.2.1 y0.2.2.1 y0.2.2.2.1 y0.2.2.2.2.1 y0.2.2.2.2.2)))) (cond (B.eq p0 4) (cond (B.eq (p1.getD p2.toNat ty106.dflt).1 3) (cond (((p1.getD p2.toNat ty106.dflt).2).1 == ([82]:LB)) (k (10,y0.2.1,y0.2.2.1,y0.2.2.2.1,y0.2.2.2.2.1,y0.2.2.2.2.2)) (again (.l1012 y0.2.1 y0.2.2.1 y0.2.2.2.1 y0.2.2.2.2.1 y0.2.2.2.2.2))) (again (.l1012 y0.2.1 y0.2.2.1 y0.2.2.2.1 y0.2.2.2.2.1 y0.2.2.2.2.2))) (again (.l1012 y0.2.1 y0.2.2.1 y0.2.2.2.1 y0.2.2.2.2.1 y0.2.2.2.2.2))))) (cond (B.eq p0 4) (cond (B.eq (p1.getD p2.toNat ty106.dflt).1 3) (cond (((p1.getD p2.toNat ty106.dflt).2).1 == ([85]:LB)) (k (9,p1,p2,p3,p4,p5)) (cond (B.eq p0 4) (cond (B.eq (p1.getD p2.toNat ty106.dflt).1 3) (cond (((p1.getD p2.toNat ty106.dflt).2).1 == ([82]:LB)) (k (10,p1,p2,p3,p4,p5)) (again (.l1012 p1 p2 p3 p4 p5))) (again (.l1012 p1 p2 p3 p4 p5))) (again (.l1012 p1 p2 p3 p4 p5)))) (cond (B.eq p0 4) (cond (B.eq (p1.getD p2.toNat ty106.dflt).1 3) (cond (((p1.getD p2.toNat ty106.dflt).2).1 == ([82]:LB)) (k (10,p1,p2,p3,p4,p5)) (again (.l1012 p1 p2 p3 p4 p5))) (again (.l1012 p1 p2 p3 p4 p5))) (again (.l1012 p1 p2 p3 p4 p5)))) (cond (B.eq p0 4) (cond (B.eq (p1.getD p2.toNat ty106.dflt).1 3) (cond (((p1.getD p2.toNat ty106.dflt).2).1 == ([82]:LB)) (k (10,p1,p2,p3,p4,p5)) (again (.l1012 p1 p2 p3 p4 p5))) (again (.l1012 p1 p2 p3 p4 p5))) (again (.l1012 p1 p2 p3 p4 p5))))))) none | some (.l1012 v0 v1 v2 v3 v4)=>k (0,v0,v1,v2,v3,v4)
def E98 (p0:Int) (p1:L106) (p2 p3 p4:Int) (p5:L36):S98→List AV×Objs
 | .l1012 v0 v1 v2 v3 v4=>(mk 63 [],[(0,.box 103 [.list 106 ty106 v0,.int .i64 v1,.own 1002,.int .i64 v2,.int .i64 v3]),(1002,.row 36 ty36 v4)])
def I98:S98→Nat
 | .l1012 _ _ _ _ _=>1012
abbrev K11 {R:Type} (k:AV→Objs→Option R) (y:(Int×L106×Int×Int×Int×L36)):Option R:=k (.c (.int .i64 y.1)) [(0,.box 103 [.list 106 ty106 y.2.1,.int .i64 y.2.2.1,.own 1002,.int .i64 y.2.2.2.1,.int .i64 y.2.2.2.2.1]),(1002,.row 36 ty36 y.2.2.2.2.2)]
noncomputable abbrev A98 {R:Type} (B:Ops) (c119:C119) (p0:Int) (p1:L106) (p2 p3 p4:Int) (p5:L36) (k:AV→Objs→Option R) (s:S98) (n:Nat):Option R:=aloop tau B gl0 X98 (ent 119 (e119 c119) gnil) ow [0] Try.f98 k (I98 s) (E98 p0 p1 p2 p3 p4 p5 s) n
theorem eq98 {R:Type} (B:Ops) (c119:C119) (p0:Int) (p1:L106) (p2 p3 p4:Int) (p5:L36) (k:AV→Objs→Option R) (n:Nat):afun tau B gl0 X98 (ent 119 (e119 c119) gnil) ow Try.f98 [.c (.ptr 0 0),.c (.int .i64 p0)] [(0,.box 103 [.list 106 ty106 p1,.int .i64 p2,.own 1002,.int .i64 p3,.int .i64 p4]),(1002,.row 36 ty36 p5)] k n=T98 B c119 p0 p1 p2 p3 p4 p5 (fun s=>A98 B c119 p0 p1 p2 p3 p4 p5 k s n) (K11 k) none:=by kernel_rfl
theorem el98 {R:Type} (B:Ops) (c119:C119) (p0:Int) (p1:L106) (p2 p3 p4:Int) (p5:L36) (k:AV→Objs→Option R) (n:Nat):∀ s,A98 B c119 p0 p1 p2 p3 p4 p5 k s (n+1)=T98 B c119 p0 p1 p2 p3 p4 p5 (fun s=>A98 B c119 p0 p1 p2 p3 p4 p5 k s n) (K11 k) (some s):=by
 intro s
 cases s<;>kernel_rfl
theorem nt98 {R R':Type} (B:Ops) (c119:C119) (p0:Int) (p1:L106) (p2 p3 p4:Int) (p5:L36) (again:S98→Option R) (again':S98→Option R') (k0:(Int×L106×Int×Int×Int×L36)→Option R') (k:R'→Option R) (h:∀ s,again s=ob (again' s) k):∀ s,T98 B c119 p0 p1 p2 p3 p4 p5 again (fun y=>ob (k0 y) k) s=ob (T98 B c119 p0 p1 p2 p3 p4 p5 again' k0 s) k:=by
 rintro (_ | x)
 all_goals try cases x
 all_goals (unfold T98;repeat' first | exact rfl | exact h _ | apply qaa | (apply qaf;intro))
def R98 (c119:C119) (p0:Int) (p1:L106) (p2 p3 p4:Int) (p5:L36):Nat→S98→Option (Int×L106×Int×Int×Int×L36)
 | 0,_=>none
 | n+1,s=>T98 Ops.std c119 p0 p1 p2 p3 p4 p5 (R98 c119 p0 p1 p2 p3 p4 p5 n) some (some s)
theorem rr98 {R:Type} (c119:C119) (p0:Int) (p1:L106) (p2 p3 p4:Int) (p5:L36) (k:AV→Objs→Option R):∀ (n:Nat) (s:S98),A98 Ops.std c119 p0 p1 p2 p3 p4 p5 k s n=ob (R98 c119 p0 p1 p2 p3 p4 p5 n s) (K11 k)
 | 0,s=>by cases s<;>rfl
 | n+1,s=>by rw [el98];exact nt98 Ops.std c119 p0 p1 p2 p3 p4 p5 _ _ some (K11 k) (rr98 c119 p0 p1 p2 p3 p4 p5 k n) (some s)
def F98 (c119:C119) (p0:Int) (p1:L106) (p2 p3 p4:Int) (p5:L36):Option (Int×L106×Int×Int×Int×L36):=T98 Ops.std c119 p0 p1 p2 p3 p4 p5 (R98 c119 p0 p1 p2 p3 p4 p5 1000000) some none
abbrev C98:Type:=Int→L106→Int→Int→Int→L36→Option (Int×L106×Int×Int×Int×L36)
def e98 {R:Type} (c:C98):Ent R:=eG [.aC (.cP 0),.aC (.cI .i64)] [.oB 0 103 [.cL 106 ty106,.cI .i64,.cO 1002,.cI .i64,.cI .i64],.oR 1002 36 ty36] fun v k=>ob (c v.1 v.2.1 v.2.2.1 v.2.2.2.1 v.2.2.2.2.1 v.2.2.2.2.2.1) (K11 k)
abbrev Sp98 (c:C98):Prop:=∀ (p0:Int) (p1:L106) (p2 p3 p4:Int) (p5:L36) (y:Int×L106×Int×Int×Int×L36),c p0 p1 p2 p3 p4 p5=some y→Spec Try.prog gl0 98 [.c (.ptr 0 0),.c (.int .i64 p0)] [(0,.box 103 [.list 106 ty106 p1,.int .i64 p2,.own 1002,.int .i64 p3,.int .i64 p4]),(1002,.row 36 ty36 p5)] (.c (.int .i64 y.1)) [(0,.box 103 [.list 106 ty106 y.2.1,.int .i64 y.2.2.1,.own 1002,.int .i64 y.2.2.2.1,.int .i64 y.2.2.2.2.1]),(1002,.row 36 ty36 y.2.2.2.2.2)]
theorem ek98 {R:Type} {c:C98} (hs:Sp98 c):EOk 98 (e98 (R:=R) c):=qah fun v=>hs v.1 v.2.1 v.2.2.1 v.2.2.2.1 v.2.2.2.2.1 v.2.2.2.2.2.1
theorem sf98 {c119:C119} (h119:Sp119 c119):Sp98 (F98 c119):=fun p0 p1 p2 p3 p4 p5 y hy=>by
 refine qae (qac (ek119 h119) qad) 1000000 (fn:=Try.f98) (by kernel_rfl) (by kernel_rfl) (X:=X98) (by kernel_rfl) ?_
 rw [eq98]
 exact (nt98 Ops.std c119 p0 p1 p2 p3 p4 p5 _ _ some (K11 k0) (rr98 c119 p0 p1 p2 p3 p4 p5 k0 1000000) none).trans (by show ob (F98 c119 p0 p1 p2 p3 p4 p5) _=_;rw [hy];rfl)
noncomputable def M98:C98:=F98 M119
theorem sm98:Sp98 M98:=sf98 sm119
abbrev C60:Type:=Int→L106→Int→Int→Int→L36→Option (L106×Int×Int×Int×L36)
def e60 {R:Type} (c:C60):Ent R:=eG [.aC (.cP 0),.aC (.cI .i64)] [.oB 0 103 [.cL 106 ty106,.cI .i64,.cO 1002,.cI .i64,.cI .i64],.oR 1002 36 ty36] fun v k=>ob (c v.1 v.2.1 v.2.2.1 v.2.2.2.1 v.2.2.2.2.1 v.2.2.2.2.2.1) (K6 k)
abbrev Sp60 (c:C60):Prop:=∀ (p0:Int) (p1:L106) (p2 p3 p4:Int) (p5:L36) (y:L106×Int×Int×Int×L36),c p0 p1 p2 p3 p4 p5=some y→Spec Try.prog gl0 60 [.c (.ptr 0 0),.c (.int .i64 p0)] [(0,.box 103 [.list 106 ty106 p1,.int .i64 p2,.own 1002,.int .i64 p3,.int .i64 p4]),(1002,.row 36 ty36 p5)] (.tup []) [(0,.box 103 [.list 106 ty106 y.1,.int .i64 y.2.1,.own 1002,.int .i64 y.2.2.1,.int .i64 y.2.2.2.1]),(1002,.row 36 ty36 y.2.2.2.2)]
theorem ek60 {R:Type} {c:C60} (hs:Sp60 c):EOk 60 (e60 (R:=R) c):=qah fun v=>hs v.1 v.2.1 v.2.2.1 v.2.2.2.1 v.2.2.2.2.1 v.2.2.2.2.2.1
abbrev C97:Type:=L106→Int→Int→Int→L36→Option (L106×Int×Int×Int×L36)
def e97 {R:Type} (c:C97):Ent R:=eG [.aC (.cP 0)] [.oB 0 103 [.cL 106 ty106,.cI .i64,.cO 1002,.cI .i64,.cI .i64],.oR 1002 36 ty36] fun v k=>ob (c v.1 v.2.1 v.2.2.1 v.2.2.2.1 v.2.2.2.2.1) (K6 k)
abbrev Sp97 (c:C97):Prop:=∀ (p0:L106) (p1 p2 p3:Int) (p4:L36) (y:L106×Int×Int×Int×L36),c p0 p1 p2 p3 p4=some y→Spec Try.prog gl0 97 [.c (.ptr 0 0)] [(0,.box 103 [.list 106 ty106 p0,.int .i64 p1,.own 1002,.int .i64 p2,.int .i64 p3]),(1002,.row 36 ty36 p4)] (.tup []) [(0,.box 103 [.list 106 ty106 y.1,.int .i64 y.2.1,.own 1002,.int .i64 y.2.2.1,.int .i64 y.2.2.2.1]),(1002,.row 36 ty36 y.2.2.2.2)]
theorem ek97 {R:Type} {c:C97} (hs:Sp97 c):EOk 97 (e97 (R:=R) c):=qah fun v=>hs v.1 v.2.1 v.2.2.1 v.2.2.2.1 v.2.2.2.2.1
def X60:Aux:=⟨[(3,(rg 2 52))],[]⟩
inductive S60 where
 | l0 (v1:L106) (v2 v3 v4:Int) (v5:L36)
def T60 {R:Type} (B:Ops) (c97:C97) (c60:C60) (c98:C98) (p0:Int) (p1:L106) (p2 p3 p4:Int) (p5:L36) (again:S60→Option R) (k:(L106×Int×Int×Int×L36)→Option R):Option S60→Option R | none=>cond (B.lt 4 p0) (ob (c97 p1 p2 p3 p4 p5) fun y0=>k (y0.1,y0.2.1,y0.2.2.1,y0.2.2.2.1,y0.2.2.2.2)) (ob (c60 (IntKind.wrap .i64 (p0+1)) p1 p2 p3 p4 p5) fun y0=>again (.l0 y0.1 y0.2.1 y0.2.2.1 y0.2.2.2.1 y0.2.2.2.2)) | some (.l0 v1 v2 v3 v4 v5)=>cond (B.eq v3 0) (ob (c98 p0 v1 v2 v3 v4 v5) fun y0=>cond (B.eq y0.1 0) (k (y0.2.1,y0.2.2.1,y0.2.2.2.1,y0.2.2.2.2.1,y0.2.2.2.2.2)) (cond (B.eq p0 1) (ob (c60 p0 y0.2.1 (IntKind.wrap .i64 (y0.2.2.1+1)) y0.2.2.2.1 y0.2.2.2.2.1 y0.2.2.2.2.2) fun y1=>cond (B.lim (List.length (y1.2.2.2.2)+List.length ((y0.1,mt (Ty.den ty97))::mt (Ty.den ty36))) 32) (again (.l0 y1.1 y1.2.1 y1.2.2.1 y1.2.2.2.1 (y1.2.2.2.2++(y0.1,mt (Ty.den ty97))::mt (Ty.den ty36)))) none) (cond (B.eq p0 4) (ob (c60 p0 y0.2.1 (IntKind.wrap .i64 (y0.2.2.1+1)) y0.2.2.2.1 y0.2.2.2.2.1 y0.2.2.2.2.2) fun y1=>cond (B.lim (List.length (y1.2.2.2.2)+List.length ((y0.1,mt (Ty.den ty97))::mt (Ty.den ty36))) 32) (again (.l0 y1.1 y1.2.1 y1.2.2.1 y1.2.2.2.1 (y1.2.2.2.2++(y0.1,mt (Ty.den ty97))::mt (Ty.den ty36)))) none) (ob (c60 (IntKind.wrap .i64 (p0+1)) y0.2.1 (IntKind.wrap .i64 (y0.2.2.1+1)) y0.2.2.2.1 y0.2.2.2.2.1 y0.2.2.2.2.2) fun y1=>cond (B.lim (List.length (y1.2.2.2.2)+List.length ((y0.1,mt (Ty.den ty97))::mt (Ty.den ty36))) 32) (again (.l0 y1.1 y1.2.1 y1.2.2.1 y1.2.2.2.1 (y1.2.2.2.2++(y0.1,mt (Ty.den ty97))::mt (Ty.den ty36)))) none)))) (k (v1,v2,v3,v4,v5))
def E60 (p0:Int) (p1:L106) (p2 p3 p4:Int) (p5:L36):S60→List AV×Objs
 | .l0 v1 v2 v3 v4 v5=>(mk 54 [(0,.c (.ptr 0 0)),(1,.c (.int .i64 p0))],[(0,.box 103 [.list 106 ty106 v1,.int .i64 v2,.own 1002,.int .i64 v3,.int .i64 v4]),(1002,.row 36 ty36 v5)])
def I60:S60→Nat
 | .l0 _ _ _ _ _=>0
noncomputable abbrev A60 {R:Type} (B:Ops) (c97:C97) (c60:C60) (c98:C98) (p0:Int) (p1:L106) (p2 p3 p4:Int) (p5:L36) (k:AV→Objs→Option R) (s:S60) (n:Nat):Option R:=aloop tau B gl0 X60 (ent 97 (e97 c97) (ent 60 (e60 c60) (ent 98 (e98 c98) gnil))) ow [0] Try.f60 k (I60 s) (E60 p0 p1 p2 p3 p4 p5 s) n
theorem eq60 {R:Type} (B:Ops) (c97:C97) (c60:C60) (c98:C98) (p0:Int) (p1:L106) (p2 p3 p4:Int) (p5:L36) (k:AV→Objs→Option R) (n:Nat):afun tau B gl0 X60 (ent 97 (e97 c97) (ent 60 (e60 c60) (ent 98 (e98 c98) gnil))) ow Try.f60 [.c (.ptr 0 0),.c (.int .i64 p0)] [(0,.box 103 [.list 106 ty106 p1,.int .i64 p2,.own 1002,.int .i64 p3,.int .i64 p4]),(1002,.row 36 ty36 p5)] k n=T60 B c97 c60 c98 p0 p1 p2 p3 p4 p5 (fun s=>A60 B c97 c60 c98 p0 p1 p2 p3 p4 p5 k s n) (K6 k) none:=by kernel_rfl
theorem el60 {R:Type} (B:Ops) (c97:C97) (c60:C60) (c98:C98) (p0:Int) (p1:L106) (p2 p3 p4:Int) (p5:L36) (k:AV→Objs→Option R) (n:Nat):∀ s,A60 B c97 c60 c98 p0 p1 p2 p3 p4 p5 k s (n+1)=T60 B c97 c60 c98 p0 p1 p2 p3 p4 p5 (fun s=>A60 B c97 c60 c98 p0 p1 p2 p3 p4 p5 k s n) (K6 k) (some s):=by
 intro s
 cases s<;>kernel_rfl
theorem nt60 {R R':Type} (B:Ops) (c97:C97) (c60:C60) (c98:C98) (p0:Int) (p1:L106) (p2 p3 p4:Int) (p5:L36) (again:S60→Option R) (again':S60→Option R') (k0:(L106×Int×Int×Int×L36)→Option R') (k:R'→Option R) (h:∀ s,again s=ob (again' s) k):∀ s,T60 B c97 c60 c98 p0 p1 p2 p3 p4 p5 again (fun y=>ob (k0 y) k) s=ob (T60 B c97 c60 c98 p0 p1 p2 p3 p4 p5 again' k0 s) k:=by
 rintro (_ | x)
 all_goals try cases x
 all_goals (unfold T60;repeat' first | exact rfl | exact h _ | apply qaa | (apply qaf;intro))
def R60 (c97:C97) (c60:C60) (c98:C98) (p0:Int) (p1:L106) (p2 p3 p4:Int) (p5:L36):Nat→S60→Option (L106×Int×Int×Int×L36)
 | 0,_=>none
 | n+1,s=>T60 Ops.std c97 c60 c98 p0 p1 p2 p3 p4 p5 (R60 c97 c60 c98 p0 p1 p2 p3 p4 p5 n) some (some s)
theorem rr60 {R:Type} (c97:C97) (c60:C60) (c98:C98) (p0:Int) (p1:L106) (p2 p3 p4:Int) (p5:L36) (k:AV→Objs→Option R):∀ (n:Nat) (s:S60),A60 Ops.std c97 c60 c98 p0 p1 p2 p3 p4 p5 k s n=ob (R60 c97 c60 c98 p0 p1 p2 p3 p4 p5 n s) (K6 k)
 | 0,s=>by cases s<;>rfl
 | n+1,s=>by rw [el60];exact nt60 Ops.std c97 c60 c98 p0 p1 p2 p3 p4 p5 _ _ some (K6 k) (rr60 c97 c60 c98 p0 p1 p2 p3 p4 p5 k n) (some s)
def F60 (c97:C97) (c60:C60) (c98:C98) (p0:Int) (p1:L106) (p2 p3 p4:Int) (p5:L36):Option (L106×Int×Int×Int×L36):=T60 Ops.std c97 c60 c98 p0 p1 p2 p3 p4 p5 (R60 c97 c60 c98 p0 p1 p2 p3 p4 p5 1000000) some none
theorem sf60 {c97:C97} {c60:C60} {c98:C98} (h97:Sp97 c97) (h60:Sp60 c60) (h98:Sp98 c98):Sp60 (F60 c97 c60 c98):=fun p0 p1 p2 p3 p4 p5 y hy=>by
 refine qae (qac (ek97 h97) (qac (ek60 h60) (qac (ek98 h98) qad))) 1000000 (fn:=Try.f60) (by kernel_rfl) (by kernel_rfl) (X:=X60) (by kernel_rfl) ?_
 rw [eq60]
 exact (nt60 Ops.std c97 c60 c98 p0 p1 p2 p3 p4 p5 _ _ some (K6 k0) (rr60 c97 c60 c98 p0 p1 p2 p3 p4 p5 k0 1000000) none).trans (by show ob (F60 c97 c60 c98 p0 p1 p2 p3 p4 p5) _=_;rw [hy];rfl)
end Go.Proofs.Ytccnmhdgghjgoaa.Av
