/- Twins of functions,printed by gen.py. Conditions: none. -/
import Derived.Test.YtccnmhdgghjgoaaGreatDoorCl1
import Derived.Test.YtccnmhdgghjgoaaGreatDoorGrow
import Derived.KernelRfl
set_option linter.unusedSimpArgs false
set_option linter.unusedVariables false
set_option maxRecDepth 100000
set_option maxHeartbeats 8000000
namespace Go.Proofs.YtccnmhdgghjgoaaGreatDoor.Av
open Go
abbrev LB:=List UInt8
abbrev rg:=List.range'
abbrev L3:=List ty3.den
abbrev L4:=List ty4.den
abbrev L9:=List ty9.den
abbrev L22:=List ty22.den
abbrev L66:=List ty66.den
abbrev L68:=List ty68.den
abbrev L94:=List ty94.den
abbrev L98:=List ty98.den
abbrev L103:=List ty103.den
abbrev L130:=List ty130.den
abbrev L150:=List ty150.den
abbrev L157:=List ty157.den
abbrev L210:=List ty210.den
abbrev oE {R:Type} (l:List AV) (o:Objs) (x:Option R):Option R:=oNil l <| oNilO o <| x
theorem oE_some {R:Type} {l:List AV} {o:Objs} {x:Option R} {r:R} (h:oE l o x=some r):l=[]∧o=[]∧x=some r:=by
 obtain ⟨rfl,q1⟩:=oNil_some h
 obtain ⟨rfl,q2⟩:=oNilO_some q1
 exact ⟨rfl,rfl,q2⟩
abbrev oL {R:Type} (l:List AV) (n:Nat) (t:Ty) (f:List t.den→List AV→Option R):Option R:=oCons l fun a l=>oC a fun x=>cList n t x fun p=>f p l
theorem oL_some {R:Type} {l:List AV} {n:Nat} {t:Ty} {f:List t.den→List AV→Option R} {r:R} (h:oL l n t f=some r):∃ p l',l=.c (.list n t p)::l'∧f p l'=some r:=by
 obtain ⟨a,l',rfl,q1⟩:=qdi h
 obtain ⟨x,rfl,q2⟩:=oC_some q1
 obtain ⟨p,rfl,q3⟩:=cList_some q2
 exact ⟨p,l',rfl,q3⟩
abbrev oI {R:Type} (l:List AV) (n:IntKind) (f:Int→List AV→Option R):Option R:=oCons l fun a l=>oC a fun x=>cInt n x fun p=>f p l
theorem oI_some {R:Type} {l:List AV} {n:IntKind} {f:Int→List AV→Option R} {r:R} (h:oI l n f=some r):∃ p l',l=.c (.int n p)::l'∧f p l'=some r:=by
 obtain ⟨a,l',rfl,q1⟩:=qdi h
 obtain ⟨x,rfl,q2⟩:=oC_some q1
 obtain ⟨p,rfl,q3⟩:=cInt_some q2
 exact ⟨p,l',rfl,q3⟩
abbrev oS {R:Type} (l:List AV) (f:LB→List AV→Option R):Option R:=oCons l fun a l=>oC a fun x=>cStr x fun p=>f p l
theorem oS_some {R:Type} {l:List AV} {f:LB→List AV→Option R} {r:R} (h:oS l f=some r):∃ p l',l=.c (.str p)::l'∧f p l'=some r:=by
 obtain ⟨a,l',rfl,q1⟩:=qdi h
 obtain ⟨x,rfl,q2⟩:=oC_some q1
 obtain ⟨p,rfl,q3⟩:=cStr_some q2
 exact ⟨p,l',rfl,q3⟩
inductive Dc where
 | cI (k:IntKind)
 | cB
 | cS
 | cL (e:Nat) (t:Ty)
 | cO (i:Nat)
 | cP (i:Nat)
 | cN
abbrev Dc.ty (d:Dc) (A:Type):Type:=match d with
 | .cI _=>Int×A
 | .cB=>Bool×A
 | .cS=>LB×A
 | .cL _ t=>List t.den×A
 | _=>A
def Dc.mk (d:Dc) {A:Type} (x:CV) (r:Option A):Option (d.ty A):=match d with
 | .cI k=>match x with
   | .int k' n=>if k'=k then ob r fun a=>some (n,a) else none
   | _=>none
 | .cB=>match x with
   | .bool n=>ob r fun a=>some (n,a)
   | _=>none
 | .cS=>match x with
   | .str n=>ob r fun a=>some (n,a)
   | _=>none
 | .cL e t=>match x with
   | .list e' t' xs=>match Ty.same t' t with
     | some ⟨h⟩=>bif Nat.beq e' e then ob r fun a=>some (h ▸ xs,a) else none
     | none=>none
   | _=>none
 | .cO i=>match x with
   | .own j=>bif Nat.beq j i then r else none
   | _=>none
 | .cP i=>match x with
   | .ptr j 0=>bif Nat.beq j i then r else none
   | _=>none
 | .cN=>match x with
   | .nil=>r
   | _=>none
abbrev Dc.to (d:Dc) {A:Type} (v:d.ty A):CV:=match d,v with
 | .cI k,v=>.int k v.1
 | .cB,v=>.bool v.1
 | .cS,v=>.str v.1
 | .cL e t,v=>.list e t v.1
 | .cO i,_=>.own i
 | .cP i,_=>.ptr i 0
 | .cN,_=>.nil
abbrev Dc.re (d:Dc) {A:Type} (v:d.ty A):A:=match d,v with
 | .cI _,v=>v.2
 | .cB,v=>v.2
 | .cS,v=>v.2
 | .cL _ _,v=>v.2
 | .cO _,v=>v
 | .cP _,v=>v
 | .cN,v=>v
theorem Dc.ok {d:Dc} {A:Type} {x:CV} {r:Option A} {v:d.ty A} (h:d.mk x r=some v):x=d.to v∧r=some (d.re v):=by
 cases d with
 | cI k=>
   simp only [Dc.mk] at h
   split at h
   ·split at h
    ·rename_i hk;subst hk;obtain ⟨a,h1,h2⟩:=qdh h;cases h2;exact ⟨rfl,h1⟩
    ·cases h
   ·cases h
 | cB=>
   simp only [Dc.mk] at h
   split at h
   ·obtain ⟨a,h1,h2⟩:=qdh h;cases h2;exact ⟨rfl,h1⟩
   ·cases h
 | cS=>
   simp only [Dc.mk] at h
   split at h
   ·obtain ⟨a,h1,h2⟩:=qdh h;cases h2;exact ⟨rfl,h1⟩
   ·cases h
 | cL e t=>
   simp only [Dc.mk] at h
   split at h
   ·split at h
    ·rename_i e' t' xs _ hs heq
     subst hs
     cases hb:Nat.beq e' e with
     | false=>rw [hb] at h;cases h
     | true=>
       rw [hb] at h
       have:=Nat.eq_of_beq_eq_true hb
       subst this
       obtain ⟨a,h1,h2⟩:=qdh h;cases h2;exact ⟨rfl,h1⟩
    ·cases h
   ·cases h
 | cO i=>
   simp only [Dc.mk] at h
   split at h
   ·rename_i j
    cases hb:Nat.beq j i with
    | false=>rw [hb] at h;cases h
    | true=>rw [hb] at h;have:=Nat.eq_of_beq_eq_true hb;subst this;exact ⟨rfl,h⟩
   ·cases h
 | cP i=>
   simp only [Dc.mk] at h
   split at h
   ·rename_i j
    cases hb:Nat.beq j i with
    | false=>rw [hb] at h;cases h
    | true=>rw [hb] at h;have:=Nat.eq_of_beq_eq_true hb;subst this;exact ⟨rfl,h⟩
   ·cases h
 | cN=>
   simp only [Dc.mk] at h
   split at h
   ·exact ⟨rfl,h⟩
   ·cases h
abbrev Dl.ty:List Dc→Type→Type
 | [],A=>A
 | d::l,A=>d.ty (Dl.ty l A)
def Dl.mk:(l:List Dc)→{A:Type}→List CV→Option A→Option (Dl.ty l A)
 | [],_,[],r=>r
 | d::l,_,x::xs,r=>d.mk x (Dl.mk l xs r)
 | [],_,_::_,_=>none
 | _::_,_,[],_=>none
abbrev Dl.to:(l:List Dc)→{A:Type}→Dl.ty l A→List CV
 | [],_,_=>[]
 | d::l,_,v=>d.to v::Dl.to l (d.re v)
abbrev Dl.re:(l:List Dc)→{A:Type}→Dl.ty l A→A
 | [],_,v=>v
 | d::l,_,v=>Dl.re l (d.re v)
theorem Dl.ok:∀ {l:List Dc} {A:Type} {xs:List CV} {r:Option A} {v:Dl.ty l A},Dl.mk l xs r=some v→xs=Dl.to l v∧r=some (Dl.re l v)
 | [],_,[],_,_,h=>⟨rfl,h⟩
 | d::l,_,x::xs,_,_,h=>by
   obtain ⟨h1,h2⟩:=Dc.ok h
   obtain ⟨h3,h4⟩:=Dl.ok h2
   exact ⟨by rw [h1,h3],h4⟩
 | [],_,_::_,_,_,h=>by cases h
 | _::_,_,[],_,_,h=>by cases h
inductive Da where
 | aC (d:Dc)
 | aG (l:List Dc)
 | aF (n:Nat) (l:List Dc)
 | aM (n:Nat) (l:List Dc)
abbrev Da.ty (d:Da) (A:Type):Type:=match d with
 | .aC d=>d.ty A
 | .aG l=>Dl.ty l A
 | .aF _ l=>Dl.ty l A
 | .aM _ l=>Dl.ty l A
def Da.mk (d:Da) {A:Type} (x:AV) (r:Option A):Option (d.ty A):=match d with
 | .aC d=>match x with
   | .c x=>d.mk x r
   | _=>none
 | .aG l=>match x with
   | .agg x=>Dl.mk l x r
   | _=>none
 | .aF n l=>match x with
   | .fn k x=>bif Nat.beq k n then Dl.mk l x r else none
   | _=>none
 | .aM n l=>match x with
   | .bm k x=>bif Nat.beq k n then Dl.mk l x r else none
   | _=>none
abbrev Da.to (d:Da) {A:Type} (v:d.ty A):AV:=match d,v with
 | .aC d,v=>.c (d.to v)
 | .aG l,v=>.agg (Dl.to l v)
 | .aF n l,v=>.fn n (Dl.to l v)
 | .aM n l,v=>.bm n (Dl.to l v)
abbrev Da.re (d:Da) {A:Type} (v:d.ty A):A:=match d,v with
 | .aC d,v=>d.re v
 | .aG l,v=>Dl.re l v
 | .aF _ l,v=>Dl.re l v
 | .aM _ l,v=>Dl.re l v
theorem Da.ok {d:Da} {A:Type} {x:AV} {r:Option A} {v:d.ty A} (h:d.mk x r=some v):x=d.to v∧r=some (d.re v):=by
 cases d with
 | aC d=>
   simp only [Da.mk] at h
   split at h
   ·obtain ⟨h1,h2⟩:=Dc.ok h;exact ⟨by rw [h1],h2⟩
   ·cases h
 | aG l=>
   simp only [Da.mk] at h
   split at h
   ·obtain ⟨h1,h2⟩:=Dl.ok h;exact ⟨by rw [h1],h2⟩
   ·cases h
 | aF n l=>
   simp only [Da.mk] at h
   split at h
   ·rename_i k x
    cases hb:Nat.beq k n with
    | false=>rw [hb] at h;cases h
    | true=>rw [hb] at h;have:=Nat.eq_of_beq_eq_true hb;subst this;obtain ⟨h1,h2⟩:=Dl.ok h;exact ⟨by rw [h1],h2⟩
   ·cases h
 | aM n l=>
   simp only [Da.mk] at h
   split at h
   ·rename_i k x
    cases hb:Nat.beq k n with
    | false=>rw [hb] at h;cases h
    | true=>rw [hb] at h;have:=Nat.eq_of_beq_eq_true hb;subst this;obtain ⟨h1,h2⟩:=Dl.ok h;exact ⟨by rw [h1],h2⟩
   ·cases h
abbrev Ds.ty:List Da→Type→Type
 | [],A=>A
 | d::l,A=>d.ty (Ds.ty l A)
def Ds.mk:(l:List Da)→{A:Type}→List AV→Option A→Option (Ds.ty l A)
 | [],_,[],r=>r
 | d::l,_,x::xs,r=>d.mk x (Ds.mk l xs r)
 | [],_,_::_,_=>none
 | _::_,_,[],_=>none
abbrev Ds.to:(l:List Da)→{A:Type}→Ds.ty l A→List AV
 | [],_,_=>[]
 | d::l,_,v=>d.to v::Ds.to l (d.re v)
abbrev Ds.re:(l:List Da)→{A:Type}→Ds.ty l A→A
 | [],_,v=>v
 | d::l,_,v=>Ds.re l (d.re v)
theorem Ds.ok:∀ {l:List Da} {A:Type} {xs:List AV} {r:Option A} {v:Ds.ty l A},Ds.mk l xs r=some v→xs=Ds.to l v∧r=some (Ds.re l v)
 | [],_,[],_,_,h=>⟨rfl,h⟩
 | d::l,_,x::xs,_,_,h=>by
   obtain ⟨h1,h2⟩:=Da.ok h
   obtain ⟨h3,h4⟩:=Ds.ok h2
   exact ⟨by rw [h1,h3],h4⟩
 | [],_,_::_,_,_,h=>by cases h
 | _::_,_,[],_,_,h=>by cases h
inductive Do where
 | oR (k e:Nat) (t:Ty)
 | oB (k e:Nat) (l:List Dc)
abbrev Do.ty (d:Do) (A:Type):Type:=match d with
 | .oR _ _ t=>List t.den×A
 | .oB _ _ l=>Dl.ty l A
def Do.mk (d:Do) {A:Type} (x:Nat×Obj) (r:Option A):Option (d.ty A):=match d with
 | .oR k e t=>match x with
   | (k',.row e' t' xs)=>bif Nat.beq k' k then (Dc.cL e t).mk (.list e' t' xs) r else none
   | _=>none
 | .oB k e l=>match x with
   | (k',.box e' x)=>bif Nat.beq k' k && Nat.beq e' e then Dl.mk l x r else none
   | _=>none
abbrev Do.to (d:Do) {A:Type} (v:d.ty A):Nat×Obj:=match d,v with
 | .oR k e t,v=>(k,.row e t v.1)
 | .oB k e l,v=>(k,.box e (Dl.to l v))
abbrev Do.re (d:Do) {A:Type} (v:d.ty A):A:=match d,v with
 | .oR _ _ _,v=>v.2
 | .oB _ _ l,v=>Dl.re l v
theorem Do.ok {d:Do} {A:Type} {x:Nat×Obj} {r:Option A} {v:d.ty A} (h:d.mk x r=some v):x=d.to v∧r=some (d.re v):=by
 cases d with
 | oR k e t=>
   simp only [Do.mk] at h
   split at h
   ·rename_i k' e' t' xs
    cases hb:Nat.beq k' k with
    | false=>rw [hb] at h;cases h
    | true=>
      rw [hb] at h
      have:=Nat.eq_of_beq_eq_true hb
      subst this
      have h:(Dc.cL e t).mk (.list e' t' xs) r=some v:=h
      obtain ⟨h1,h2⟩:=Dc.ok h
      have h1:CV.list e' t' xs=.list e t v.1:=h1
      cases h1
      exact ⟨rfl,h2⟩
   ·cases h
 | oB k e l=>
   simp only [Do.mk] at h
   split at h
   ·rename_i k' e' x
    cases hb:(Nat.beq k' k && Nat.beq e' e) with
    | false=>rw [hb] at h;cases h
    | true=>
      rw [hb] at h
      simp only [Bool.and_eq_true] at hb
      have:=Nat.eq_of_beq_eq_true hb.1
      subst this
      have:=Nat.eq_of_beq_eq_true hb.2
      subst this
      obtain ⟨h1,h2⟩:=Dl.ok h
      exact ⟨by rw [h1],h2⟩
   ·cases h
abbrev Dp.ty:List Do→Type
 | []=>Unit
 | d::l=>d.ty (Dp.ty l)
def Dp.mk:(l:List Do)→Objs→Option (Dp.ty l)
 | [],[]=>some ()
 | d::l,x::xs=>d.mk x (Dp.mk l xs)
 | [],_::_=>none
 | _::_,[]=>none
abbrev Dp.to:(l:List Do)→Dp.ty l→Objs
 | [],_=>[]
 | d::l,v=>d.to v::Dp.to l (d.re v)
theorem Dp.ok:∀ {l:List Do} {xs:Objs} {v:Dp.ty l},Dp.mk l xs=some v→xs=Dp.to l v
 | [],[],_,_=>rfl
 | d::l,x::xs,_,h=>by
   obtain ⟨h1,h2⟩:=Do.ok h
   rw [h1,Dp.ok h2]
 | [],_::_,_,h=>by cases h
 | _::_,[],_,h=>by cases h
/-- an entry,by what it is handed -/
def eG {R:Type} (l:List Da) (o:List Do) (g:Ds.ty l (Dp.ty o)→(AV→Objs→Option R)→Option R):Ent R:=fun a b k=>ob (Ds.mk l a (Dp.mk o b)) fun v=>g v k
theorem qam {R α:Type} {l:List Da} {o:List Do} {f:Nat} {m:Ds.ty l (Dp.ty o)→Option α} {V:α→AV} {O:α→Objs} (hs:∀ v y,m v=some y→Spec Tryz.prog gl0 f (Ds.to l v) (Dp.to o (Ds.re l v)) (V y) (O y)) :
  EOk (R:=R) f (eG l o fun v k=>ob (m v) fun y=>k (V y) (O y)):=fun args objs k r h=>by
 obtain ⟨v,h1,h2⟩:=qdh h
 obtain ⟨e1,e2⟩:=Ds.ok h1
 rw [e1,Dp.ok e2]
 exact eok_of (hs v) h2
def X96:Aux:=⟨[],[]⟩
def T96 {R:Type} (B:Ops) (p0:Int) (k:(Int)→Option R):Option R:=cond (B.eq p0 1) (k 0) (cond (B.eq p0 2) (k 0) (cond (B.eq p0 3) (k 0) (cond (B.eq p0 4) (k 1) (cond (B.eq p0 8) (k 1) (cond (B.eq p0 11) (k 1) (cond (B.eq p0 12) (k 1) (cond (B.eq p0 5) (k 2) (cond (B.eq p0 6) (k 2) (cond (B.eq p0 7) (k 2) (cond (B.eq p0 9) (k 2) (cond (B.eq p0 10) (k 2) (k (-1)))))))))))))
abbrev K1 {R:Type} (k:AV→Objs→Option R) (y:(Int)):Option R:=k (.c (.int .i64 y)) []
theorem eq96 {R:Type} (B:Ops) (p0:Int) (k:AV→Objs→Option R) (n:Nat):afun tau B gl0 X96 gnil ow Tryz.f96 [.c (.int .i64 p0)] [] k n=T96 B p0 (K1 k):=by kernel_rfl
theorem nt96 {R R':Type} (B:Ops) (p0:Int) (k0:(Int)→Option R') (k:R'→Option R):T96 B p0 (fun y=>ob (k0 y) k)=ob (T96 B p0 k0) k:=by
 unfold T96
 repeat' first | exact rfl | apply qae | (apply qaj;intro)
def F96 (p0:Int):Option (Int):=T96 Ops.std p0 some
abbrev C96:Type:=Int→Option (Int)
def e96 {R:Type} (c:C96):Ent R:=eG [.aC (.cI .i64)] [] fun v k=>ob (c v.1) (K1 k)
abbrev Sp96 (c:C96):Prop:=∀ (p0 y:Int),c p0=some y→Spec Tryz.prog gl0 96 [.c (.int .i64 p0)] [] (.c (.int .i64 y)) []
theorem ek96 {R:Type} {c:C96} (hs:Sp96 c):EOk 96 (e96 (R:=R) c):=qam fun v=>hs v.1
theorem sf96:Sp96 (F96):=fun p0 y hy=>by
 refine qai qah 1000000 (fn:=Tryz.f96) (by kernel_rfl) (by kernel_rfl) (X:=X96) (by kernel_rfl) ?_
 rw [eq96]
 exact (nt96 Ops.std p0 some (K1 k0)).trans (by show ob (F96 p0) _=_;rw [hy];rfl)
noncomputable def M96:C96:=F96
theorem sm96:Sp96 M96:=sf96
def X117:Aux:=⟨[],[]⟩
def T117 {R:Type} (B:Ops) (p0:Int) (k:(Int)→Option R):Option R:=cond (B.lt p0 1) (k (-1)) (cond (B.lt 16 p0) (k (-1)) (cond (B.le p0 3) (k 0) (cond (B.le p0 5) (k 1) (k 2))))
theorem eq117 {R:Type} (B:Ops) (p0:Int) (k:AV→Objs→Option R) (n:Nat):afun tau B gl0 X117 gnil ow Tryz.f117 [.c (.int .i64 p0)] [] k n=T117 B p0 (K1 k):=by kernel_rfl
theorem nt117 {R R':Type} (B:Ops) (p0:Int) (k0:(Int)→Option R') (k:R'→Option R):T117 B p0 (fun y=>ob (k0 y) k)=ob (T117 B p0 k0) k:=by
 unfold T117
 repeat' first | exact rfl | apply qae | (apply qaj;intro)
def F117 (p0:Int):Option (Int):=T117 Ops.std p0 some
abbrev C117:Type:=Int→Option (Int)
def e117 {R:Type} (c:C117):Ent R:=eG [.aC (.cI .i64)] [] fun v k=>ob (c v.1) (K1 k)
abbrev Sp117 (c:C117):Prop:=∀ (p0 y:Int),c p0=some y→Spec Tryz.prog gl0 117 [.c (.int .i64 p0)] [] (.c (.int .i64 y)) []
theorem ek117 {R:Type} {c:C117} (hs:Sp117 c):EOk 117 (e117 (R:=R) c):=qam fun v=>hs v.1
theorem sf117:Sp117 (F117):=fun p0 y hy=>by
 refine qai qah 1000000 (fn:=Tryz.f117) (by kernel_rfl) (by kernel_rfl) (X:=X117) (by kernel_rfl) ?_
 rw [eq117]
 exact (nt117 Ops.std p0 some (K1 k0)).trans (by show ob (F117 p0) _=_;rw [hy];rfl)
noncomputable def M117:C117:=F117
theorem sm117:Sp117 M117:=sf117
def X187:Aux:=⟨[],[]⟩
def T187 {R:Type} (B:Ops) (p0:Int) (k:(Bool)→Option R):Option R:=cond (B.le 97 p0) (cond (B.le p0 122) (k true) (k (B.eq p0 95))) (k (B.eq p0 95))
abbrev K2 {R:Type} (k:AV→Objs→Option R) (y:(Bool)):Option R:=k (.c (.bool y)) []
theorem eq187 {R:Type} (B:Ops) (p0:Int) (k:AV→Objs→Option R) (n:Nat):afun tau B gl0 X187 gnil ow Tryz.f187 [.c (.int .u8 p0)] [] k n=T187 B p0 (K2 k):=by kernel_rfl
theorem nt187 {R R':Type} (B:Ops) (p0:Int) (k0:(Bool)→Option R') (k:R'→Option R):T187 B p0 (fun y=>ob (k0 y) k)=ob (T187 B p0 k0) k:=by
 unfold T187
 repeat' first | exact rfl | apply qae | (apply qaj;intro)
def F187 (p0:Int):Option (Bool):=T187 Ops.std p0 some
abbrev C187:Type:=Int→Option (Bool)
def e187 {R:Type} (c:C187):Ent R:=eG [.aC (.cI .u8)] [] fun v k=>ob (c v.1) (K2 k)
abbrev Sp187 (c:C187):Prop:=∀ (p0:Int) (y:Bool),c p0=some y→Spec Tryz.prog gl0 187 [.c (.int .u8 p0)] [] (.c (.bool y)) []
theorem ek187 {R:Type} {c:C187} (hs:Sp187 c):EOk 187 (e187 (R:=R) c):=qam fun v=>hs v.1
theorem sf187:Sp187 (F187):=fun p0 y hy=>by
 refine qai qah 1000000 (fn:=Tryz.f187) (by kernel_rfl) (by kernel_rfl) (X:=X187) (by kernel_rfl) ?_
 rw [eq187]
 exact (nt187 Ops.std p0 some (K2 k0)).trans (by show ob (F187 p0) _=_;rw [hy];rfl)
noncomputable def M187:C187:=F187
theorem sm187:Sp187 M187:=sf187
def X192:Aux:=⟨[],[]⟩
def T192 {R:Type} (B:Ops) (p0:Int) (k:(Bool)→Option R):Option R:=cond (B.le 48 p0) (k (B.le p0 57)) (k false)
theorem eq192 {R:Type} (B:Ops) (p0:Int) (k:AV→Objs→Option R) (n:Nat):afun tau B gl0 X192 gnil ow Tryz.f192 [.c (.int .u8 p0)] [] k n=T192 B p0 (K2 k):=by kernel_rfl
theorem nt192 {R R':Type} (B:Ops) (p0:Int) (k0:(Bool)→Option R') (k:R'→Option R):T192 B p0 (fun y=>ob (k0 y) k)=ob (T192 B p0 k0) k:=by
 unfold T192
 repeat' first | exact rfl | apply qae | (apply qaj;intro)
def F192 (p0:Int):Option (Bool):=T192 Ops.std p0 some
abbrev C192:Type:=Int→Option (Bool)
def e192 {R:Type} (c:C192):Ent R:=eG [.aC (.cI .u8)] [] fun v k=>ob (c v.1) (K2 k)
abbrev Sp192 (c:C192):Prop:=∀ (p0:Int) (y:Bool),c p0=some y→Spec Tryz.prog gl0 192 [.c (.int .u8 p0)] [] (.c (.bool y)) []
theorem ek192 {R:Type} {c:C192} (hs:Sp192 c):EOk 192 (e192 (R:=R) c):=qam fun v=>hs v.1
theorem sf192:Sp192 (F192):=fun p0 y hy=>by
 refine qai qah 1000000 (fn:=Tryz.f192) (by kernel_rfl) (by kernel_rfl) (X:=X192) (by kernel_rfl) ?_
 rw [eq192]
 exact (nt192 Ops.std p0 some (K2 k0)).trans (by show ob (F192 p0) _=_;rw [hy];rfl)
noncomputable def M192:C192:=F192
theorem sm192:Sp192 M192:=sf192
def X189:Aux:=⟨[],[]⟩
def T189 {R:Type} (B:Ops) (c187:C187) (c192:C192) (p0:Int) (k:(Bool)→Option R):Option R:=ob (c187 p0) fun y0=>cond (y0) (k true) (ob (c192 p0) fun y1=>k y1)
theorem eq189 {R:Type} (B:Ops) (c187:C187) (c192:C192) (p0:Int) (k:AV→Objs→Option R) (n:Nat):afun tau B gl0 X189 (ent 187 (e187 c187) (ent 192 (e192 c192) gnil)) ow Tryz.f189 [.c (.int .u8 p0)] [] k n=T189 B c187 c192 p0 (K2 k):=by kernel_rfl
theorem nt189 {R R':Type} (B:Ops) (c187:C187) (c192:C192) (p0:Int) (k0:(Bool)→Option R') (k:R'→Option R):T189 B c187 c192 p0 (fun y=>ob (k0 y) k)=ob (T189 B c187 c192 p0 k0) k:=by
 unfold T189
 repeat' first | exact rfl | apply qae | (apply qaj;intro)
def F189 (c187:C187) (c192:C192) (p0:Int):Option (Bool):=T189 Ops.std c187 c192 p0 some
abbrev C189:Type:=Int→Option (Bool)
def e189 {R:Type} (c:C189):Ent R:=eG [.aC (.cI .u8)] [] fun v k=>ob (c v.1) (K2 k)
abbrev Sp189 (c:C189):Prop:=∀ (p0:Int) (y:Bool),c p0=some y→Spec Tryz.prog gl0 189 [.c (.int .u8 p0)] [] (.c (.bool y)) []
theorem ek189 {R:Type} {c:C189} (hs:Sp189 c):EOk 189 (e189 (R:=R) c):=qam fun v=>hs v.1
theorem sf189 {c187:C187} {c192:C192} (h187:Sp187 c187) (h192:Sp192 c192):Sp189 (F189 c187 c192):=fun p0 y hy=>by
 refine qai (qac (ek187 h187) (qac (ek192 h192) qah)) 1000000 (fn:=Tryz.f189) (by kernel_rfl) (by kernel_rfl) (X:=X189) (by kernel_rfl) ?_
 rw [eq189]
 exact (nt189 Ops.std c187 c192 p0 some (K2 k0)).trans (by show ob (F189 c187 c192 p0) _=_;rw [hy];rfl)
noncomputable def M189:C189:=F189 M187 M192
theorem sm189:Sp189 M189:=sf189 sm187 sm192
def X188:Aux:=⟨[(2,([2,3,4]++rg 6 16))],[]⟩
inductive S188 where
 | l0 (v1:Int)
def T188 {R:Type} (B:Ops) (c189:C189) (p0:LB) (again:S188→Option R) (k:(LB)→Option R):Option S188→Option R | none=>again (.l0 0) | some (.l0 v1)=>cond (B.lt v1 (↑p0.length)) (cond (B.inb v1 p0.length) (ob (c189 (Nat.cast (UInt8.toNat (p0.getD v1.toNat 0)))) fun y0=>cond (y0) (again (.l0 (IntKind.wrap .i64 (v1+1)))) (cond (B.inb v1 (List.length p0+1)) (k (List.drop 0 (List.take v1.toNat p0))) none)) none) (cond (B.inb v1 (List.length p0+1)) (k (List.drop 0 (List.take v1.toNat p0))) none)
def E188 (p0:LB):S188→List AV×Objs
 | .l0 v1=>(mk 22 [(0,.c (.str p0)),(1,.fn 189 []),(5,.c (.int .i64 v1))],[])
def I188:S188→Nat
 | .l0 _=>0
abbrev K3 {R:Type} (k:AV→Objs→Option R) (y:(LB)):Option R:=k (.c (.str y)) []
noncomputable abbrev A188 {R:Type} (B:Ops) (c189:C189) (p0:LB) (k:AV→Objs→Option R) (s:S188) (n:Nat):Option R:=aloop tau B gl0 X188 (ent 189 (e189 c189) gnil) ow [] Tryz.f188 k (I188 s) (E188 p0 s) n
theorem eq188 {R:Type} (B:Ops) (c189:C189) (p0:LB) (k:AV→Objs→Option R) (n:Nat):afun tau B gl0 X188 (ent 189 (e189 c189) gnil) ow Tryz.f188 [.c (.str p0),.fn 189 []] [] k n=T188 B c189 p0 (fun s=>A188 B c189 p0 k s n) (K3 k) none:=by kernel_rfl
theorem el188 {R:Type} (B:Ops) (c189:C189) (p0:LB) (k:AV→Objs→Option R) (n:Nat):∀ s,A188 B c189 p0 k s (n+1)=T188 B c189 p0 (fun s=>A188 B c189 p0 k s n) (K3 k) (some s):=by
 intro s
 cases s<;>kernel_rfl
theorem nt188 {R R':Type} (B:Ops) (c189:C189) (p0:LB) (again:S188→Option R) (again':S188→Option R') (k0:(LB)→Option R') (k:R'→Option R) (h:∀ s,again s=ob (again' s) k):∀ s,T188 B c189 p0 again (fun y=>ob (k0 y) k) s=ob (T188 B c189 p0 again' k0 s) k:=by
 rintro (_ | x)
 all_goals try cases x
 all_goals (unfold T188;repeat' first | exact rfl | exact h _ | apply qae | (apply qaj;intro))
def R188 (c189:C189) (p0:LB):Nat→S188→Option (LB)
 | 0,_=>none
 | n+1,s=>T188 Ops.std c189 p0 (R188 c189 p0 n) some (some s)
theorem rr188 {R:Type} (c189:C189) (p0:LB) (k:AV→Objs→Option R):∀ (n:Nat) (s:S188),A188 Ops.std c189 p0 k s n=ob (R188 c189 p0 n s) (K3 k)
 | 0,s=>by cases s<;>rfl
 | n+1,s=>by rw [el188];exact nt188 Ops.std c189 p0 _ _ some (K3 k) (rr188 c189 p0 k n) (some s)
def F188 (c189:C189) (p0:LB):Option (LB):=T188 Ops.std c189 p0 (R188 c189 p0 1000000) some none
abbrev C188:Type:=LB→Option (LB)
def e188 {R:Type} (c:C188):Ent R:=eG [.aC .cS,.aF 189 []] [] fun v k=>ob (c v.1) (K3 k)
abbrev Sp188 (c:C188):Prop:=∀ (p0 y:LB),c p0=some y→Spec Tryz.prog gl0 188 [.c (.str p0),.fn 189 []] [] (.c (.str y)) []
theorem ek188 {R:Type} {c:C188} (hs:Sp188 c):EOk 188 (e188 (R:=R) c):=qam fun v=>hs v.1
theorem sf188 {c189:C189} (h189:Sp189 c189):Sp188 (F188 c189):=fun p0 y hy=>by
 refine qai (qac (ek189 h189) qah) 1000000 (fn:=Tryz.f188) (by kernel_rfl) (by kernel_rfl) (X:=X188) (by kernel_rfl) ?_
 rw [eq188]
 exact (nt188 Ops.std c189 p0 _ _ some (K3 k0) (rr188 c189 p0 k0 1000000) none).trans (by show ob (F188 c189 p0) _=_;rw [hy];rfl)
noncomputable def M188:C188:=F188 M189
theorem sm188:Sp188 M188:=sf188 sm189
def X217:Aux:=⟨[(2,([2,3,4]++rg 6 16))],[]⟩
inductive S217 where
 | l0 (v1:Int)
def T217 {R:Type} (B:Ops) (c192:C192) (p0:LB) (again:S217→Option R) (k:(LB)→Option R):Option S217→Option R | none=>again (.l0 0) | some (.l0 v1)=>cond (B.lt v1 (↑p0.length)) (cond (B.inb v1 p0.length) (ob (c192 (Nat.cast (UInt8.toNat (p0.getD v1.toNat 0)))) fun y0=>cond (y0) (again (.l0 (IntKind.wrap .i64 (v1+1)))) (cond (B.inb v1 (List.length p0+1)) (k (List.drop 0 (List.take v1.toNat p0))) none)) none) (cond (B.inb v1 (List.length p0+1)) (k (List.drop 0 (List.take v1.toNat p0))) none)
def E217 (p0:LB):S217→List AV×Objs
 | .l0 v1=>(mk 22 [(0,.c (.str p0)),(1,.fn 192 []),(5,.c (.int .i64 v1))],[])
def I217:S217→Nat
 | .l0 _=>0
noncomputable abbrev A217 {R:Type} (B:Ops) (c192:C192) (p0:LB) (k:AV→Objs→Option R) (s:S217) (n:Nat):Option R:=aloop tau B gl0 X217 (ent 192 (e192 c192) gnil) ow [] Tryz.f188 k (I217 s) (E217 p0 s) n
theorem eq217 {R:Type} (B:Ops) (c192:C192) (p0:LB) (k:AV→Objs→Option R) (n:Nat):afun tau B gl0 X217 (ent 192 (e192 c192) gnil) ow Tryz.f188 [.c (.str p0),.fn 192 []] [] k n=T217 B c192 p0 (fun s=>A217 B c192 p0 k s n) (K3 k) none:=by kernel_rfl
theorem el217 {R:Type} (B:Ops) (c192:C192) (p0:LB) (k:AV→Objs→Option R) (n:Nat):∀ s,A217 B c192 p0 k s (n+1)=T217 B c192 p0 (fun s=>A217 B c192 p0 k s n) (K3 k) (some s):=by
 intro s
 cases s<;>kernel_rfl
theorem nt217 {R R':Type} (B:Ops) (c192:C192) (p0:LB) (again:S217→Option R) (again':S217→Option R') (k0:(LB)→Option R') (k:R'→Option R) (h:∀ s,again s=ob (again' s) k):∀ s,T217 B c192 p0 again (fun y=>ob (k0 y) k) s=ob (T217 B c192 p0 again' k0 s) k:=by
 rintro (_ | x)
 all_goals try cases x
 all_goals (unfold T217;repeat' first | exact rfl | exact h _ | apply qae | (apply qaj;intro))
def R217 (c192:C192) (p0:LB):Nat→S217→Option (LB)
 | 0,_=>none
 | n+1,s=>T217 Ops.std c192 p0 (R217 c192 p0 n) some (some s)
theorem rr217 {R:Type} (c192:C192) (p0:LB) (k:AV→Objs→Option R):∀ (n:Nat) (s:S217),A217 Ops.std c192 p0 k s n=ob (R217 c192 p0 n s) (K3 k)
 | 0,s=>by cases s<;>rfl
 | n+1,s=>by rw [el217];exact nt217 Ops.std c192 p0 _ _ some (K3 k) (rr217 c192 p0 k n) (some s)
def F217 (c192:C192) (p0:LB):Option (LB):=T217 Ops.std c192 p0 (R217 c192 p0 1000000) some none
abbrev C217:Type:=LB→Option (LB)
def e217 {R:Type} (c:C217):Ent R:=eG [.aC .cS,.aF 192 []] [] fun v k=>ob (c v.1) (K3 k)
abbrev Sp217 (c:C217):Prop:=∀ (p0 y:LB),c p0=some y→Spec Tryz.prog gl0 188 [.c (.str p0),.fn 192 []] [] (.c (.str y)) []
theorem ek217 {R:Type} {c:C217} (hs:Sp217 c):EOk 188 (e217 (R:=R) c):=qam fun v=>hs v.1
theorem sf217 {c192:C192} (h192:Sp192 c192):Sp217 (F217 c192):=fun p0 y hy=>by
 refine qai (qac (ek192 h192) qah) 1000000 (fn:=Tryz.f188) (by kernel_rfl) (by kernel_rfl) (X:=X217) (by kernel_rfl) ?_
 rw [eq217]
 exact (nt217 Ops.std c192 p0 _ _ some (K3 k0) (rr217 c192 p0 k0 1000000) none).trans (by show ob (F217 c192 p0) _=_;rw [hy];rfl)
noncomputable def M217:C217:=F217 M192
theorem sm217:Sp217 M217:=sf217 sm192
def X185:Aux:=⟨[],[]⟩
def T185 {R:Type} (B:Ops) (c187:C187) (c188:C188) (c217:C217) (c189:C189) (p0:LB) (k:(Bool)→Option R):Option R:=cond (!p0 == mt UInt8) (cond (B.le (↑p0.length) 8) (cond (B.inb 0 p0.length) (ob (c187 (Nat.cast (UInt8.toNat (p0.getD (Int.toNat 0) 0)))) fun y0=>cond (y0) (ob (c188 p0) fun y1=>k (y1 == p0)) (k false)) none) (k false)) (k false)
theorem eq185 {R:Type} (B:Ops) (c187:C187) (c188:C188) (c217:C217) (c189:C189) (p0:LB) (k:AV→Objs→Option R) (n:Nat):afun tau B gl0 X185 (ent 187 (e187 c187) (ent 188 (eAlt 1 189 (e188 c188) (e217 c217)) (ent 189 (e189 c189) gnil))) ow Tryz.f185 [.c (.str p0)] [] k n=T185 B c187 c188 c217 c189 p0 (K2 k):=by kernel_rfl
theorem nt185 {R R':Type} (B:Ops) (c187:C187) (c188:C188) (c217:C217) (c189:C189) (p0:LB) (k0:(Bool)→Option R') (k:R'→Option R):T185 B c187 c188 c217 c189 p0 (fun y=>ob (k0 y) k)=ob (T185 B c187 c188 c217 c189 p0 k0) k:=by
 unfold T185
 repeat' first | exact rfl | apply qae | (apply qaj;intro)
def F185 (c187:C187) (c188:C188) (c217:C217) (c189:C189) (p0:LB):Option (Bool):=T185 Ops.std c187 c188 c217 c189 p0 some
abbrev C185:Type:=LB→Option (Bool)
def e185 {R:Type} (c:C185):Ent R:=eG [.aC .cS] [] fun v k=>ob (c v.1) (K2 k)
abbrev Sp185 (c:C185):Prop:=∀ (p0:LB) (y:Bool),c p0=some y→Spec Tryz.prog gl0 185 [.c (.str p0)] [] (.c (.bool y)) []
theorem ek185 {R:Type} {c:C185} (hs:Sp185 c):EOk 185 (e185 (R:=R) c):=qam fun v=>hs v.1
theorem sf185 {c187:C187} {c188:C188} {c217:C217} {c189:C189} (h187:Sp187 c187) (h188:Sp188 c188) (h217:Sp217 c217) (h189:Sp189 c189):Sp185 (F185 c187 c188 c217 c189):=fun p0 y hy=>by
 refine qai (G:=ent 187 (e187 c187) (ent 188 (eAlt 1 189 (e188 c188) (e217 c217)) (ent 189 (e189 c189) gnil))) (qac (ek187 h187) (qac (eAlt_ok (ek188 h188) (ek217 h217)) (qac (ek189 h189) qah))) 1000000 (fn:=Tryz.f185) (by kernel_rfl) (by kernel_rfl) (X:=X185) (by kernel_rfl) ?_
 rw [eq185]
 exact (nt185 Ops.std c187 c188 c217 c189 p0 some (K2 k0)).trans (by show ob (F185 c187 c188 c217 c189 p0) _=_;rw [hy];rfl)
noncomputable def M185:C185:=F185 M187 M188 M217 M189
theorem sm185:Sp185 M185:=sf185 sm187 sm188 sm217 sm189
def X183:Aux:=⟨[],[]⟩
def T183 {R:Type} (B:Ops) (c185:C185) (c117:C117) (p0 p1:Int) (p2 p3:LB) (k:(Bool)→Option R):Option R:=cond (B.eq p0 1) (cond (B.le 0 p1) (cond (B.le p1 999) (cond (p2 == mt UInt8) (k (p3 == mt UInt8)) (k false)) (k false)) (k false)) (cond (B.eq p0 2) (cond (B.eq p1 0) (ob (c185 p2) fun y0=>cond (y0) (k (p3 == mt UInt8)) (k false)) (k false)) (cond (B.eq p0 3) (cond (B.eq p1 0) (ob (c185 p2) fun y0=>cond (y0) (ob (c185 p3) fun y1=>k y1) (k false)) (k false)) (ob (c117 p0) fun y0=>cond (B.lt 0 y0) (cond (B.eq p1 0) (cond (p2 == mt UInt8) (k (p3 == mt UInt8)) (k false)) (k false)) (k false))))
theorem eq183 {R:Type} (B:Ops) (c185:C185) (c117:C117) (p0 p1:Int) (p2 p3:LB) (k:AV→Objs→Option R) (n:Nat):afun tau B gl0 X183 (ent 185 (e185 c185) (ent 117 (e117 c117) gnil)) ow Tryz.f183 [.agg [.int .i64 p0,.int .i64 p1,.str p2,.str p3]] [] k n=T183 B c185 c117 p0 p1 p2 p3 (K2 k):=by kernel_rfl
theorem nt183 {R R':Type} (B:Ops) (c185:C185) (c117:C117) (p0 p1:Int) (p2 p3:LB) (k0:(Bool)→Option R') (k:R'→Option R):T183 B c185 c117 p0 p1 p2 p3 (fun y=>ob (k0 y) k)=ob (T183 B c185 c117 p0 p1 p2 p3 k0) k:=by
 unfold T183
 repeat' first | exact rfl | apply qae | (apply qaj;intro)
def F183 (c185:C185) (c117:C117) (p0 p1:Int) (p2 p3:LB):Option (Bool):=T183 Ops.std c185 c117 p0 p1 p2 p3 some
abbrev C183:Type:=Int→Int→LB→LB→Option (Bool)
def e183 {R:Type} (c:C183):Ent R:=eG [.aG [.cI .i64,.cI .i64,.cS,.cS]] [] fun v k=>ob (c v.1 v.2.1 v.2.2.1 v.2.2.2.1) (K2 k)
abbrev Sp183 (c:C183):Prop:=∀ (p0 p1:Int) (p2 p3:LB) (y:Bool),c p0 p1 p2 p3=some y→Spec Tryz.prog gl0 183 [.agg [.int .i64 p0,.int .i64 p1,.str p2,.str p3]] [] (.c (.bool y)) []
theorem ek183 {R:Type} {c:C183} (hs:Sp183 c):EOk 183 (e183 (R:=R) c):=qam fun v=>hs v.1 v.2.1 v.2.2.1 v.2.2.2.1
theorem sf183 {c185:C185} {c117:C117} (h185:Sp185 c185) (h117:Sp117 c117):Sp183 (F183 c185 c117):=fun p0 p1 p2 p3 y hy=>by
 refine qai (qac (ek185 h185) (qac (ek117 h117) qah)) 1000000 (fn:=Tryz.f183) (by kernel_rfl) (by kernel_rfl) (X:=X183) (by kernel_rfl) ?_
 rw [eq183]
 exact (nt183 Ops.std c185 c117 p0 p1 p2 p3 some (K2 k0)).trans (by show ob (F183 c185 c117 p0 p1 p2 p3) _=_;rw [hy];rfl)
noncomputable def M183:C183:=F183 M185 M117
theorem sm183:Sp183 M183:=sf183 sm185 sm117
def X156:Aux:=⟨[(3,([1,2,4,5,6]++rg 10 26))],[]⟩
inductive S156 where
 | l0 (v1 v3 v4:Int)
def T156 {R:Type} (B:Ops) (c117:C117) (c183:C183) (p0:L150) (again:S156→Option R) (k:(Bool)→Option R):Option S156→Option R | none=>again (.l0 0 (↑p0.length) 0) | some (.l0 v1 v3 v4)=>cond (B.lt v4 v3) (cond (B.inb v4 p0.length) (ob (c117 (p0.getD v4.toNat ty150.dflt).1) fun y0=>ob (c183 (p0.getD v4.toNat ty150.dflt).1 ((p0.getD v4.toNat ty150.dflt).2).1 (((p0.getD v4.toNat ty150.dflt).2).2).1 (((p0.getD v4.toNat ty150.dflt).2).2).2) fun y1=>cond (!y1) (k false) (cond (B.lt v1 y0) (k false) (again (.l0 (IntKind.wrap .i64 (v1+IntKind.wrap .i64 (1-y0))) v3 (IntKind.wrap .i64 (v4+1)))))) none) (cond (B.eq v1 1) (k (B.le (↑p0.length) 30)) (k false))
def E156 (p0:L150):S156→List AV×Objs
 | .l0 v1 v3 v4=>(mk 36 [(0,.c (.list 150 ty150 p0)),(3,.c (.int .i64 v1)),(7,.c (.list 150 ty150 p0)),(8,.c (.int .i64 v3)),(9,.c (.int .i64 v4))],[])
def I156:S156→Nat
 | .l0 _ _ _=>0
noncomputable abbrev A156 {R:Type} (B:Ops) (c117:C117) (c183:C183) (p0:L150) (k:AV→Objs→Option R) (s:S156) (n:Nat):Option R:=aloop tau B gl0 X156 (ent 117 (e117 c117) (ent 183 (e183 c183) gnil)) ow [] Tryz.f156 k (I156 s) (E156 p0 s) n
theorem eq156 {R:Type} (B:Ops) (c117:C117) (c183:C183) (p0:L150) (k:AV→Objs→Option R) (n:Nat):afun tau B gl0 X156 (ent 117 (e117 c117) (ent 183 (e183 c183) gnil)) ow Tryz.f156 [.c (.list 150 ty150 p0)] [] k n=T156 B c117 c183 p0 (fun s=>A156 B c117 c183 p0 k s n) (K2 k) none:=by kernel_rfl
theorem el156 {R:Type} (B:Ops) (c117:C117) (c183:C183) (p0:L150) (k:AV→Objs→Option R) (n:Nat):∀ s,A156 B c117 c183 p0 k s (n+1)=T156 B c117 c183 p0 (fun s=>A156 B c117 c183 p0 k s n) (K2 k) (some s):=by
 intro s
 cases s<;>kernel_rfl
theorem nt156 {R R':Type} (B:Ops) (c117:C117) (c183:C183) (p0:L150) (again:S156→Option R) (again':S156→Option R') (k0:(Bool)→Option R') (k:R'→Option R) (h:∀ s,again s=ob (again' s) k):∀ s,T156 B c117 c183 p0 again (fun y=>ob (k0 y) k) s=ob (T156 B c117 c183 p0 again' k0 s) k:=by
 rintro (_ | x)
 all_goals try cases x
 all_goals (unfold T156;repeat' first | exact rfl | exact h _ | apply qae | (apply qaj;intro))
def R156 (c117:C117) (c183:C183) (p0:L150):Nat→S156→Option (Bool)
 | 0,_=>none
 | n+1,s=>T156 Ops.std c117 c183 p0 (R156 c117 c183 p0 n) some (some s)
theorem rr156 {R:Type} (c117:C117) (c183:C183) (p0:L150) (k:AV→Objs→Option R):∀ (n:Nat) (s:S156),A156 Ops.std c117 c183 p0 k s n=ob (R156 c117 c183 p0 n s) (K2 k)
 | 0,s=>by cases s<;>rfl
 | n+1,s=>by rw [el156];exact nt156 Ops.std c117 c183 p0 _ _ some (K2 k) (rr156 c117 c183 p0 k n) (some s)
def F156 (c117:C117) (c183:C183) (p0:L150):Option (Bool):=T156 Ops.std c117 c183 p0 (R156 c117 c183 p0 1000000) some none
abbrev C156:Type:=L150→Option (Bool)
def e156 {R:Type} (c:C156):Ent R:=eG [.aC (.cL 150 ty150)] [] fun v k=>ob (c v.1) (K2 k)
abbrev Sp156 (c:C156):Prop:=∀ (p0:L150) (y:Bool),c p0=some y→Spec Tryz.prog gl0 156 [.c (.list 150 ty150 p0)] [] (.c (.bool y)) []
theorem ek156 {R:Type} {c:C156} (hs:Sp156 c):EOk 156 (e156 (R:=R) c):=qam fun v=>hs v.1
theorem sf156 {c117:C117} {c183:C183} (h117:Sp117 c117) (h183:Sp183 c183):Sp156 (F156 c117 c183):=fun p0 y hy=>by
 refine qai (qac (ek117 h117) (qac (ek183 h183) qah)) 1000000 (fn:=Tryz.f156) (by kernel_rfl) (by kernel_rfl) (X:=X156) (by kernel_rfl) ?_
 rw [eq156]
 exact (nt156 Ops.std c117 c183 p0 _ _ some (K2 k0) (rr156 c117 c183 p0 k0 1000000) none).trans (by show ob (F156 c117 c183 p0) _=_;rw [hy];rfl)
noncomputable def M156:C156:=F156 M117 M183
theorem sm156:Sp156 M156:=sf156 sm117 sm183
def X95:Aux:=⟨[(3,([1,2,4,5,6]++rg 10 47))],[]⟩
inductive S95 where
 | l0 (v1 v3 v4:Int)
def T95 {R:Type} (B:Ops) (c96:C96) (c156:C156) (p0:L66) (again:S95→Option R) (k:(Bool)→Option R):Option S95→Option R | none=>again (.l0 0 (↑p0.length) 0) | some (.l0 v1 v3 v4)=>cond (B.lt v4 v3) (cond (B.inb v4 p0.length) (ob (c96 (p0.getD v4.toNat ty66.dflt).1) fun y0=>cond (B.lt y0 0) (k false) (cond (B.lt v1 y0) (k false) (cond (B.eq (p0.getD v4.toNat ty66.dflt).1 3) (ob (c156 (p0.getD v4.toNat ty66.dflt).2) fun y1=>cond (!y1) (k false) (cond (!B.eq (p0.getD v4.toNat ty66.dflt).1 3) (cond (B.lt 0 (Nat.cast (List.length (p0.getD v4.toNat ty66.dflt).2))) (k false) (again (.l0 (IntKind.wrap .i64 (v1+IntKind.wrap .i64 (1-y0))) v3 (IntKind.wrap .i64 (v4+1))))) (again (.l0 (IntKind.wrap .i64 (v1+IntKind.wrap .i64 (1-y0))) v3 (IntKind.wrap .i64 (v4+1)))))) (cond (!B.eq (p0.getD v4.toNat ty66.dflt).1 3) (cond (B.lt 0 (Nat.cast (List.length (p0.getD v4.toNat ty66.dflt).2))) (k false) (again (.l0 (IntKind.wrap .i64 (v1+IntKind.wrap .i64 (1-y0))) v3 (IntKind.wrap .i64 (v4+1))))) (again (.l0 (IntKind.wrap .i64 (v1+IntKind.wrap .i64 (1-y0))) v3 (IntKind.wrap .i64 (v4+1)))))))) none) (cond (B.eq v1 1) (k (B.le (↑p0.length) 60)) (k false))
def E95 (p0:L66):S95→List AV×Objs
 | .l0 v1 v3 v4=>(mk 57 [(0,.c (.list 66 ty66 p0)),(3,.c (.int .i64 v1)),(7,.c (.list 66 ty66 p0)),(8,.c (.int .i64 v3)),(9,.c (.int .i64 v4))],[])
def I95:S95→Nat
 | .l0 _ _ _=>0
noncomputable abbrev A95 {R:Type} (B:Ops) (c96:C96) (c156:C156) (p0:L66) (k:AV→Objs→Option R) (s:S95) (n:Nat):Option R:=aloop tau B gl0 X95 (ent 96 (e96 c96) (ent 156 (e156 c156) gnil)) ow [] Tryz.f95 k (I95 s) (E95 p0 s) n
theorem eq95 {R:Type} (B:Ops) (c96:C96) (c156:C156) (p0:L66) (k:AV→Objs→Option R) (n:Nat):afun tau B gl0 X95 (ent 96 (e96 c96) (ent 156 (e156 c156) gnil)) ow Tryz.f95 [.c (.list 66 ty66 p0)] [] k n=T95 B c96 c156 p0 (fun s=>A95 B c96 c156 p0 k s n) (K2 k) none:=by kernel_rfl
theorem el95 {R:Type} (B:Ops) (c96:C96) (c156:C156) (p0:L66) (k:AV→Objs→Option R) (n:Nat):∀ s,A95 B c96 c156 p0 k s (n+1)=T95 B c96 c156 p0 (fun s=>A95 B c96 c156 p0 k s n) (K2 k) (some s):=by
 intro s
 cases s<;>kernel_rfl
theorem nt95 {R R':Type} (B:Ops) (c96:C96) (c156:C156) (p0:L66) (again:S95→Option R) (again':S95→Option R') (k0:(Bool)→Option R') (k:R'→Option R) (h:∀ s,again s=ob (again' s) k):∀ s,T95 B c96 c156 p0 again (fun y=>ob (k0 y) k) s=ob (T95 B c96 c156 p0 again' k0 s) k:=by
 rintro (_ | x)
 all_goals try cases x
 all_goals (unfold T95;repeat' first | exact rfl | exact h _ | apply qae | (apply qaj;intro))
def R95 (c96:C96) (c156:C156) (p0:L66):Nat→S95→Option (Bool)
 | 0,_=>none
 | n+1,s=>T95 Ops.std c96 c156 p0 (R95 c96 c156 p0 n) some (some s)
theorem rr95 {R:Type} (c96:C96) (c156:C156) (p0:L66) (k:AV→Objs→Option R):∀ (n:Nat) (s:S95),A95 Ops.std c96 c156 p0 k s n=ob (R95 c96 c156 p0 n s) (K2 k)
 | 0,s=>by cases s<;>rfl
 | n+1,s=>by rw [el95];exact nt95 Ops.std c96 c156 p0 _ _ some (K2 k) (rr95 c96 c156 p0 k n) (some s)
def F95 (c96:C96) (c156:C156) (p0:L66):Option (Bool):=T95 Ops.std c96 c156 p0 (R95 c96 c156 p0 1000000) some none
abbrev C95:Type:=L66→Option (Bool)
def e95 {R:Type} (c:C95):Ent R:=eG [.aC (.cL 66 ty66)] [] fun v k=>ob (c v.1) (K2 k)
abbrev Sp95 (c:C95):Prop:=∀ (p0:L66) (y:Bool),c p0=some y→Spec Tryz.prog gl0 95 [.c (.list 66 ty66 p0)] [] (.c (.bool y)) []
theorem ek95 {R:Type} {c:C95} (hs:Sp95 c):EOk 95 (e95 (R:=R) c):=qam fun v=>hs v.1
theorem sf95 {c96:C96} {c156:C156} (h96:Sp96 c96) (h156:Sp156 c156):Sp95 (F95 c96 c156):=fun p0 y hy=>by
 refine qai (qac (ek96 h96) (qac (ek156 h156) qah)) 1000000 (fn:=Tryz.f95) (by kernel_rfl) (by kernel_rfl) (X:=X95) (by kernel_rfl) ?_
 rw [eq95]
 exact (nt95 Ops.std c96 c156 p0 _ _ some (K2 k0) (rr95 c96 c156 p0 k0 1000000) none).trans (by show ob (F95 c96 c156 p0) _=_;rw [hy];rfl)
noncomputable def M95:C95:=F95 M96 M156
theorem sm95:Sp95 M95:=sf95 sm96 sm156
abbrev K4 {R:Type} (k:AV→Objs→Option R) (y:(L3)):Option R:=k (.c (.own 500)) [(500,.row 3 ty3 y)]
abbrev C97:Type:=L3→Option (L3)
def e97 {R:Type} (c:C97):Ent R:=eG [.aC (.cL 3 ty3)] [] fun v k=>ob (c v.1) (K4 k)
abbrev Sp97 (c:C97):Prop:=∀ (p0 y:L3),c p0=some y→Spec Tryz.prog gl0 97 [.c (.list 3 ty3 p0)] [] (.c (.own 500)) [(500,.row 3 ty3 y)]
theorem ek97 {R:Type} {c:C97} (hs:Sp97 c):EOk 97 (e97 (R:=R) c):=qam fun v=>hs v.1
def M97:L3→Option (L3):=cloneF (t:=ty3) 8
theorem sm97:Sp97 M97:=by
 have h:∀ (B:Ops) (xs:List (Ty.den ty3)) (k:AV→Objs→Option AO),afun tau B gl0 X0 gnil ow Tryz.f97 [.c (.list 3 ty3 xs)] [] k 1=cloneT B 3 8 ty3 xs k:=fun B xs k=>by kernel_rfl
 refine clone_sp (fun xs v o h0=>?_) fun b=>?_
 ·exact qai (G:=gnil) qah 1 (fn:=Tryz.f97) (by kernel_rfl) (by kernel_rfl) (X:=X0) (by kernel_rfl) ((h _ _ _).trans h0)
 ·cases b<;>exact qai (G:=gnil) qah 1 (fn:=Tryz.f97) (by kernel_rfl) (by kernel_rfl) (X:=X0) (by kernel_rfl) (by kernel_rfl)
def X52:Aux:=⟨[(6,([0,1,2,5,6,7,8,9,10]++rg 14 25))],[]⟩
inductive S52 where
 | l0 (v1 v2:Int) (v3:L22) (v4:L3)
def T52 {R:Type} (B:Ops) (c95:C95) (c96:C96) (c97:C97) (p0:L66) (again:S52→Option R) (k:(L22)→Option R):Option S52→Option R | none=>ob (c95 p0) fun y0=>cond (!y0) (k (mt (Ty.den ty22))) (again (.l0 (↑p0.length) 0 (mt (Ty.den ty22)) (mt (Ty.den (Ty.int .i64))))) | some (.l0 v1 v2 v3 v4)=>cond (B.lt v2 v1) (cond (B.inb v2 p0.length) (ob (c96 (p0.getD v2.toNat ty66.dflt).1) fun y0=>cond (B.inb (IntKind.wrap .i64 (Nat.cast v4.length-y0)) (List.length v4+1)) (ob (c97 (List.drop (Int.toNat (IntKind.wrap .i64 (Nat.cast v4.length-y0))) (List.take v4.length v4))) fun y1=>cond (B.lim (List.length v3+List.length (y1::mt (Ty.den ty22))) 24) (cond (B.inb (IntKind.wrap .i64 (Nat.cast v4.length-y0)) (List.length v4+1)) (cond (B.lim (List.length (List.take (Int.toNat (IntKind.wrap .i64 (Nat.cast v4.length-y0))) v4)+List.length (v2::mt (Ty.den (Ty.int .i64)))) 8) (again (.l0 v1 (IntKind.wrap .i64 (v2+1)) (v3++y1::mt (Ty.den ty22)) (List.take (Int.toNat (IntKind.wrap .i64 (Nat.cast v4.length-y0))) v4++v2::mt (Ty.den (Ty.int .i64))))) none) none) none) none) none) (k v3)
def E52 (p0:L66):S52→List AV×Objs
 | .l0 v1 v2 v3 v4=>(mk 39 [(3,.c (.own 3)),(4,.c (.own 4)),(11,.c (.list 66 ty66 p0)),(12,.c (.int .i64 v1)),(13,.c (.int .i64 v2))],[(3,.row 22 ty22 v3),(4,.row 3 ty3 v4)])
def I52:S52→Nat
 | .l0 _ _ _ _=>0
abbrev K5 {R:Type} (k:AV→Objs→Option R) (y:(L22)):Option R:=k (.c (.own 500)) [(500,.row 22 ty22 y)]
noncomputable abbrev A52 {R:Type} (B:Ops) (c95:C95) (c96:C96) (c97:C97) (p0:L66) (k:AV→Objs→Option R) (s:S52) (n:Nat):Option R:=aloop tau B gl0 X52 (ent 95 (e95 c95) (ent 96 (e96 c96) (ent 97 (e97 c97) gnil))) ow [] Tryz.f52 k (I52 s) (E52 p0 s) n
theorem eq52 {R:Type} (B:Ops) (c95:C95) (c96:C96) (c97:C97) (p0:L66) (k:AV→Objs→Option R) (n:Nat):afun tau B gl0 X52 (ent 95 (e95 c95) (ent 96 (e96 c96) (ent 97 (e97 c97) gnil))) ow Tryz.f52 [.c (.list 66 ty66 p0)] [] k n=T52 B c95 c96 c97 p0 (fun s=>A52 B c95 c96 c97 p0 k s n) (K5 k) none:=by kernel_rfl
theorem el52 {R:Type} (B:Ops) (c95:C95) (c96:C96) (c97:C97) (p0:L66) (k:AV→Objs→Option R) (n:Nat):∀ s,A52 B c95 c96 c97 p0 k s (n+1)=T52 B c95 c96 c97 p0 (fun s=>A52 B c95 c96 c97 p0 k s n) (K5 k) (some s):=by
 intro s
 cases s<;>kernel_rfl
theorem nt52 {R R':Type} (B:Ops) (c95:C95) (c96:C96) (c97:C97) (p0:L66) (again:S52→Option R) (again':S52→Option R') (k0:(L22)→Option R') (k:R'→Option R) (h:∀ s,again s=ob (again' s) k):∀ s,T52 B c95 c96 c97 p0 again (fun y=>ob (k0 y) k) s=ob (T52 B c95 c96 c97 p0 again' k0 s) k:=by
 rintro (_ | x)
 all_goals try cases x
 all_goals (unfold T52;repeat' first | exact rfl | exact h _ | apply qae | (apply qaj;intro))
def R52 (c95:C95) (c96:C96) (c97:C97) (p0:L66):Nat→S52→Option (L22)
 | 0,_=>none
 | n+1,s=>T52 Ops.std c95 c96 c97 p0 (R52 c95 c96 c97 p0 n) some (some s)
theorem rr52 {R:Type} (c95:C95) (c96:C96) (c97:C97) (p0:L66) (k:AV→Objs→Option R):∀ (n:Nat) (s:S52),A52 Ops.std c95 c96 c97 p0 k s n=ob (R52 c95 c96 c97 p0 n s) (K5 k)
 | 0,s=>by cases s<;>rfl
 | n+1,s=>by rw [el52];exact nt52 Ops.std c95 c96 c97 p0 _ _ some (K5 k) (rr52 c95 c96 c97 p0 k n) (some s)
def F52 (c95:C95) (c96:C96) (c97:C97) (p0:L66):Option (L22):=T52 Ops.std c95 c96 c97 p0 (R52 c95 c96 c97 p0 1000000) some none
abbrev C52:Type:=L66→Option (L22)
def e52 {R:Type} (c:C52):Ent R:=eG [.aC (.cL 66 ty66)] [] fun v k=>ob (c v.1) (K5 k)
abbrev Sp52 (c:C52):Prop:=∀ (p0:L66) (y:L22),c p0=some y→Spec Tryz.prog gl0 52 [.c (.list 66 ty66 p0)] [] (.c (.own 500)) [(500,.row 22 ty22 y)]
theorem ek52 {R:Type} {c:C52} (hs:Sp52 c):EOk 52 (e52 (R:=R) c):=qam fun v=>hs v.1
theorem sf52 {c95:C95} {c96:C96} {c97:C97} (h95:Sp95 c95) (h96:Sp96 c96) (h97:Sp97 c97):Sp52 (F52 c95 c96 c97):=fun p0 y hy=>by
 refine qai (qac (ek95 h95) (qac (ek96 h96) (qac (ek97 h97) qah))) 1000000 (fn:=Tryz.f52) (by kernel_rfl) (by kernel_rfl) (X:=X52) (by kernel_rfl) ?_
 rw [eq52]
 exact (nt52 Ops.std c95 c96 c97 p0 _ _ some (K5 k0) (rr52 c95 c96 c97 p0 k0 1000000) none).trans (by show ob (F52 c95 c96 c97 p0) _=_;rw [hy];rfl)
noncomputable def M52:C52:=F52 M95 M96 M97
theorem sm52:Sp52 M52:=sf52 sm95 sm96 sm97
def X51:Aux:=⟨[(3,([1,2,4,5,6,7]++rg 11 32))],[]⟩
inductive S51 where
 | l0 (v2 v3:Int) (v4:L22)
def T51 {R:Type} (B:Ops) (c52:C52) (p0:L66) (again:S51→Option R) (k:(Bool)→Option R):Option S51→Option R | none=>ob (c52 p0) fun y0=>again (.l0 (↑p0.length) 0 y0) | some (.l0 v2 v3 v4)=>cond (B.lt v3 v2) (cond (B.inb v3 p0.length) (cond (B.eq (p0.getD v3.toNat ty66.dflt).1 7) (k false) (cond (B.eq (p0.getD v3.toNat ty66.dflt).1 11) (k false) (cond (B.eq (p0.getD v3.toNat ty66.dflt).1 12) (k false) (cond (B.eq (p0.getD v3.toNat ty66.dflt).1 4) (cond (B.eq (↑v4.length) 0) (k false) (cond (B.inb v3 v4.length) (cond (B.inb 0 (List.length (v4.getD v3.toNat ty22.dflt))) (cond (B.inb (List.getD (v4.getD v3.toNat ty22.dflt) (Int.toNat 0) (Ty.dflt (Ty.int .i64))) p0.length) (cond (!B.eq ((p0.getD (Int.toNat (List.getD (v4.getD v3.toNat ty22.dflt) (Int.toNat 0) (Ty.dflt (Ty.int .i64)))) ty66.dflt).1) 3) (k false) (again (.l0 v2 (IntKind.wrap .i64 (v3+1)) v4))) none) none) none)) (again (.l0 v2 (IntKind.wrap .i64 (v3+1)) v4)))))) none) (k (B.lt 0 (↑v4.length)))
def E51 (p0:L66):S51→List AV×Objs
 | .l0 v2 v3 v4=>(mk 43 [(0,.c (.list 66 ty66 p0)),(3,.c (.own 3)),(8,.c (.list 66 ty66 p0)),(9,.c (.int .i64 v2)),(10,.c (.int .i64 v3))],[(3,.row 22 ty22 v4)])
def I51:S51→Nat
 | .l0 _ _ _=>0
noncomputable abbrev A51 {R:Type} (B:Ops) (c52:C52) (p0:L66) (k:AV→Objs→Option R) (s:S51) (n:Nat):Option R:=aloop tau B gl0 X51 (ent 52 (e52 c52) gnil) ow [] Tryz.f51 k (I51 s) (E51 p0 s) n
theorem eq51 {R:Type} (B:Ops) (c52:C52) (p0:L66) (k:AV→Objs→Option R) (n:Nat):afun tau B gl0 X51 (ent 52 (e52 c52) gnil) ow Tryz.f51 [.c (.list 66 ty66 p0)] [] k n=T51 B c52 p0 (fun s=>A51 B c52 p0 k s n) (K2 k) none:=by kernel_rfl
theorem el51 {R:Type} (B:Ops) (c52:C52) (p0:L66) (k:AV→Objs→Option R) (n:Nat):∀ s,A51 B c52 p0 k s (n+1)=T51 B c52 p0 (fun s=>A51 B c52 p0 k s n) (K2 k) (some s):=by
 intro s
 cases s<;>kernel_rfl
theorem nt51 {R R':Type} (B:Ops) (c52:C52) (p0:L66) (again:S51→Option R) (again':S51→Option R') (k0:(Bool)→Option R') (k:R'→Option R) (h:∀ s,again s=ob (again' s) k):∀ s,T51 B c52 p0 again (fun y=>ob (k0 y) k) s=ob (T51 B c52 p0 again' k0 s) k:=by
 rintro (_ | x)
 all_goals try cases x
 all_goals (unfold T51;repeat' first | exact rfl | exact h _ | apply qae | (apply qaj;intro))
def R51 (c52:C52) (p0:L66):Nat→S51→Option (Bool)
 | 0,_=>none
 | n+1,s=>T51 Ops.std c52 p0 (R51 c52 p0 n) some (some s)
theorem rr51 {R:Type} (c52:C52) (p0:L66) (k:AV→Objs→Option R):∀ (n:Nat) (s:S51),A51 Ops.std c52 p0 k s n=ob (R51 c52 p0 n s) (K2 k)
 | 0,s=>by cases s<;>rfl
 | n+1,s=>by rw [el51];exact nt51 Ops.std c52 p0 _ _ some (K2 k) (rr51 c52 p0 k n) (some s)
def F51 (c52:C52) (p0:L66):Option (Bool):=T51 Ops.std c52 p0 (R51 c52 p0 1000000) some none
abbrev C51:Type:=L66→Option (Bool)
def e51 {R:Type} (c:C51):Ent R:=eG [.aC (.cL 66 ty66)] [] fun v k=>ob (c v.1) (K2 k)
abbrev Sp51 (c:C51):Prop:=∀ (p0:L66) (y:Bool),c p0=some y→Spec Tryz.prog gl0 51 [.c (.list 66 ty66 p0)] [] (.c (.bool y)) []
theorem ek51 {R:Type} {c:C51} (hs:Sp51 c):EOk 51 (e51 (R:=R) c):=qam fun v=>hs v.1
theorem sf51 {c52:C52} (h52:Sp52 c52):Sp51 (F51 c52):=fun p0 y hy=>by
 refine qai (qac (ek52 h52) qah) 1000000 (fn:=Tryz.f51) (by kernel_rfl) (by kernel_rfl) (X:=X51) (by kernel_rfl) ?_
 rw [eq51]
 exact (nt51 Ops.std c52 p0 _ _ some (K2 k0) (rr51 c52 p0 k0 1000000) none).trans (by show ob (F51 c52 p0) _=_;rw [hy];rfl)
noncomputable def M51:C51:=F51 M52
theorem sm51:Sp51 M51:=sf51 sm52
def X164:Aux:=⟨[],[]⟩
def T164 {R:Type} (B:Ops) (p0:LB) (p1 p2 p3:Int) (p4:LB) (k:(Bool×LB)→Option R):Option R:=k (p0 == p4,p4)
abbrev K6 {R:Type} (k:AV→Objs→Option R) (y:(Bool×LB)):Option R:=k (.c (.bool y.1)) [(1,.box 9 [.str y.2])]
theorem eq164 {R:Type} (B:Ops) (p0:LB) (p1 p2 p3:Int) (p4:LB) (k:AV→Objs→Option R) (n:Nat):afun tau B gl0 X164 gnil ow Tryz.f164 [.agg [.str p0,.int .i64 p1,.int .i64 p2,.int .i64 p3],.c (.ptr 1 0)] [(1,.box 9 [.str p4])] k n=T164 B p0 p1 p2 p3 p4 (K6 k):=by kernel_rfl
theorem nt164 {R R':Type} (B:Ops) (p0:LB) (p1 p2 p3:Int) (p4:LB) (k0:(Bool×LB)→Option R') (k:R'→Option R):T164 B p0 p1 p2 p3 p4 (fun y=>ob (k0 y) k)=ob (T164 B p0 p1 p2 p3 p4 k0) k:=by
 unfold T164
 repeat' first | exact rfl | apply qae | (apply qaj;intro)
def F164 (p0:LB) (p1 p2 p3:Int) (p4:LB):Option (Bool×LB):=T164 Ops.std p0 p1 p2 p3 p4 some
abbrev C164:Type:=LB→Int→Int→Int→LB→Option (Bool×LB)
def e164 {R:Type} (c:C164):Ent R:=eG [.aG [.cS,.cI .i64,.cI .i64,.cI .i64],.aC (.cP 1)] [.oB 1 9 [.cS]] fun v k=>ob (c v.1 v.2.1 v.2.2.1 v.2.2.2.1 v.2.2.2.2.1) (K6 k)
abbrev Sp164 (c:C164):Prop:=∀ (p0:LB) (p1 p2 p3:Int) (p4:LB) (y:Bool×LB),c p0 p1 p2 p3 p4=some y→Spec Tryz.prog gl0 164 [.agg [.str p0,.int .i64 p1,.int .i64 p2,.int .i64 p3],.c (.ptr 1 0)] [(1,.box 9 [.str p4])] (.c (.bool y.1)) [(1,.box 9 [.str y.2])]
theorem ek164 {R:Type} {c:C164} (hs:Sp164 c):EOk 164 (e164 (R:=R) c):=qam fun v=>hs v.1 v.2.1 v.2.2.1 v.2.2.2.1 v.2.2.2.2.1
theorem sf164:Sp164 (F164):=fun p0 p1 p2 p3 p4 y hy=>by
 refine qai qah 1000000 (fn:=Tryz.f164) (by kernel_rfl) (by kernel_rfl) (X:=X164) (by kernel_rfl) ?_
 rw [eq164]
 exact (nt164 Ops.std p0 p1 p2 p3 p4 some (K6 k0)).trans (by show ob (F164 p0 p1 p2 p3 p4) _=_;rw [hy];rfl)
noncomputable def M164:C164:=F164
theorem sm164:Sp164 M164:=sf164
def X166:Aux:=⟨[],[]⟩
def T166 {R:Type} (B:Ops) (p0:LB) (p1:L9) (p2:LB) (k:(Bool×LB)→Option R):Option R:=k (p0 == p2,p2)
theorem eq166 {R:Type} (B:Ops) (p0:LB) (p1:L9) (p2:LB) (k:AV→Objs→Option R) (n:Nat):afun tau B gl0 X166 gnil ow Tryz.f166 [.agg [.str p0,.list 9 ty9 p1],.c (.ptr 1 0)] [(1,.box 9 [.str p2])] k n=T166 B p0 p1 p2 (K6 k):=by kernel_rfl
theorem nt166 {R R':Type} (B:Ops) (p0:LB) (p1:L9) (p2:LB) (k0:(Bool×LB)→Option R') (k:R'→Option R):T166 B p0 p1 p2 (fun y=>ob (k0 y) k)=ob (T166 B p0 p1 p2 k0) k:=by
 unfold T166
 repeat' first | exact rfl | apply qae | (apply qaj;intro)
def F166 (p0:LB) (p1:L9) (p2:LB):Option (Bool×LB):=T166 Ops.std p0 p1 p2 some
abbrev C166:Type:=LB→L9→LB→Option (Bool×LB)
def e166 {R:Type} (c:C166):Ent R:=eG [.aG [.cS,.cL 9 ty9],.aC (.cP 1)] [.oB 1 9 [.cS]] fun v k=>ob (c v.1 v.2.1 v.2.2.1) (K6 k)
abbrev Sp166 (c:C166):Prop:=∀ (p0:LB) (p1:L9) (p2:LB) (y:Bool×LB),c p0 p1 p2=some y→Spec Tryz.prog gl0 166 [.agg [.str p0,.list 9 ty9 p1],.c (.ptr 1 0)] [(1,.box 9 [.str p2])] (.c (.bool y.1)) [(1,.box 9 [.str y.2])]
theorem ek166 {R:Type} {c:C166} (hs:Sp166 c):EOk 166 (e166 (R:=R) c):=qam fun v=>hs v.1 v.2.1 v.2.2.1
theorem sf166:Sp166 (F166):=fun p0 p1 p2 y hy=>by
 refine qai qah 1000000 (fn:=Tryz.f166) (by kernel_rfl) (by kernel_rfl) (X:=X166) (by kernel_rfl) ?_
 rw [eq166]
 exact (nt166 Ops.std p0 p1 p2 some (K6 k0)).trans (by show ob (F166 p0 p1 p2) _=_;rw [hy];rfl)
noncomputable def M166:C166:=F166
theorem sm166:Sp166 M166:=sf166
def X167:Aux:=⟨[(2,([2,3,4,5,6]++rg 9 10))],[]⟩
inductive S167 where
 | l0 (v2 v3:Int)
def T167 {R:Type} (B:Ops) (p0:L9) (p1:LB) (again:S167→Option R) (k:(Int)→Option R):Option S167→Option R | none=>again (.l0 (↑p0.length) 0) | some (.l0 v2 v3)=>cond (B.lt v3 v2) (cond (B.inb v3 p0.length) (cond (p1 == p0.getD v3.toNat ty9.dflt) (k v3) (again (.l0 v2 (IntKind.wrap .i64 (v3+1))))) none) (k (-1))
def E167 (p0:L9) (p1:LB):S167→List AV×Objs
 | .l0 v2 v3=>(mk 19 [(0,.c (.list 9 ty9 p0)),(1,.c (.str p1)),(7,.c (.int .i64 v2)),(8,.c (.int .i64 v3))],[])
def I167:S167→Nat
 | .l0 _ _=>0
noncomputable abbrev A167 {R:Type} (B:Ops) (p0:L9) (p1:LB) (k:AV→Objs→Option R) (s:S167) (n:Nat):Option R:=aloop tau B gl0 X167 gnil ow [] Tryz.f167 k (I167 s) (E167 p0 p1 s) n
theorem eq167 {R:Type} (B:Ops) (p0:L9) (p1:LB) (k:AV→Objs→Option R) (n:Nat):afun tau B gl0 X167 gnil ow Tryz.f167 [.c (.list 9 ty9 p0),.c (.str p1)] [] k n=T167 B p0 p1 (fun s=>A167 B p0 p1 k s n) (K1 k) none:=by kernel_rfl
theorem el167 {R:Type} (B:Ops) (p0:L9) (p1:LB) (k:AV→Objs→Option R) (n:Nat):∀ s,A167 B p0 p1 k s (n+1)=T167 B p0 p1 (fun s=>A167 B p0 p1 k s n) (K1 k) (some s):=by
 intro s
 cases s<;>kernel_rfl
theorem nt167 {R R':Type} (B:Ops) (p0:L9) (p1:LB) (again:S167→Option R) (again':S167→Option R') (k0:(Int)→Option R') (k:R'→Option R) (h:∀ s,again s=ob (again' s) k):∀ s,T167 B p0 p1 again (fun y=>ob (k0 y) k) s=ob (T167 B p0 p1 again' k0 s) k:=by
 rintro (_ | x)
 all_goals try cases x
 all_goals (unfold T167;repeat' first | exact rfl | exact h _ | apply qae | (apply qaj;intro))
def R167 (p0:L9) (p1:LB):Nat→S167→Option (Int)
 | 0,_=>none
 | n+1,s=>T167 Ops.std p0 p1 (R167 p0 p1 n) some (some s)
theorem rr167 {R:Type} (p0:L9) (p1:LB) (k:AV→Objs→Option R):∀ (n:Nat) (s:S167),A167 Ops.std p0 p1 k s n=ob (R167 p0 p1 n s) (K1 k)
 | 0,s=>by cases s<;>rfl
 | n+1,s=>by rw [el167];exact nt167 Ops.std p0 p1 _ _ some (K1 k) (rr167 p0 p1 k n) (some s)
def F167 (p0:L9) (p1:LB):Option (Int):=T167 Ops.std p0 p1 (R167 p0 p1 1000000) some none
abbrev C167:Type:=L9→LB→Option (Int)
def e167 {R:Type} (c:C167):Ent R:=eG [.aC (.cL 9 ty9),.aC .cS] [] fun v k=>ob (c v.1 v.2.1) (K1 k)
abbrev Sp167 (c:C167):Prop:=∀ (p0:L9) (p1:LB) (y:Int),c p0 p1=some y→Spec Tryz.prog gl0 167 [.c (.list 9 ty9 p0),.c (.str p1)] [] (.c (.int .i64 y)) []
theorem ek167 {R:Type} {c:C167} (hs:Sp167 c):EOk 167 (e167 (R:=R) c):=qam fun v=>hs v.1 v.2.1
theorem sf167:Sp167 (F167):=fun p0 p1 y hy=>by
 refine qai qah 1000000 (fn:=Tryz.f167) (by kernel_rfl) (by kernel_rfl) (X:=X167) (by kernel_rfl) ?_
 rw [eq167]
 exact (nt167 Ops.std p0 p1 _ _ some (K1 k0) (rr167 p0 p1 k0 1000000) none).trans (by show ob (F167 p0 p1) _=_;rw [hy];rfl)
noncomputable def M167:C167:=F167
theorem sm167:Sp167 M167:=sf167
def X118:Aux:=⟨[],[]⟩
def T118 {R:Type} (B:Ops) (p0:Int) (k:(Int)→Option R):Option R:=k (bif true then bif B.lt (-99999) (bif false then bif B.lt p0 99999 then 99999 else p0 else bif B.lt 99999 p0 then 99999 else p0) then bif false then bif B.lt p0 99999 then 99999 else p0 else bif B.lt 99999 p0 then 99999 else p0 else -99999 else bif B.lt (bif false then bif B.lt p0 99999 then 99999 else p0 else bif B.lt 99999 p0 then 99999 else p0) (-99999) then bif false then bif B.lt p0 99999 then 99999 else p0 else bif B.lt 99999 p0 then 99999 else p0 else -99999)
theorem eq118 {R:Type} (B:Ops) (p0:Int) (k:AV→Objs→Option R) (n:Nat):afun tau B gl0 X118 gnil ow Tryz.f118 [.c (.int .i64 p0)] [] k n=T118 B p0 (K1 k):=by kernel_rfl
theorem nt118 {R R':Type} (B:Ops) (p0:Int) (k0:(Int)→Option R') (k:R'→Option R):T118 B p0 (fun y=>ob (k0 y) k)=ob (T118 B p0 k0) k:=by
 unfold T118
 repeat' first | exact rfl | apply qae | (apply qaj;intro)
def F118 (p0:Int):Option (Int):=T118 Ops.std p0 some
abbrev C118:Type:=Int→Option (Int)
def e118 {R:Type} (c:C118):Ent R:=eG [.aC (.cI .i64)] [] fun v k=>ob (c v.1) (K1 k)
abbrev Sp118 (c:C118):Prop:=∀ (p0 y:Int),c p0=some y→Spec Tryz.prog gl0 118 [.c (.int .i64 p0)] [] (.c (.int .i64 y)) []
theorem ek118 {R:Type} {c:C118} (hs:Sp118 c):EOk 118 (e118 (R:=R) c):=qam fun v=>hs v.1
theorem sf118:Sp118 (F118):=fun p0 y hy=>by
 refine qai qah 1000000 (fn:=Tryz.f118) (by kernel_rfl) (by kernel_rfl) (X:=X118) (by kernel_rfl) ?_
 rw [eq118]
 exact (nt118 Ops.std p0 some (K1 k0)).trans (by show ob (F118 p0) _=_;rw [hy];rfl)
noncomputable def M118:C118:=F118
theorem sm118:Sp118 M118:=sf118
def X121:Aux:=⟨[],[]⟩
def T121 {R:Type} (B:Ops) (p0:Bool) (k:(Int)→Option R):Option R:=cond (p0) (k 1) (k 0)
theorem eq121 {R:Type} (B:Ops) (p0:Bool) (k:AV→Objs→Option R) (n:Nat):afun tau B gl0 X121 gnil ow Tryz.f121 [.c (.bool p0)] [] k n=T121 B p0 (K1 k):=by kernel_rfl
theorem nt121 {R R':Type} (B:Ops) (p0:Bool) (k0:(Int)→Option R') (k:R'→Option R):T121 B p0 (fun y=>ob (k0 y) k)=ob (T121 B p0 k0) k:=by
 unfold T121
 repeat' first | exact rfl | apply qae | (apply qaj;intro)
def F121 (p0:Bool):Option (Int):=T121 Ops.std p0 some
abbrev C121:Type:=Bool→Option (Int)
def e121 {R:Type} (c:C121):Ent R:=eG [.aC .cB] [] fun v k=>ob (c v.1) (K1 k)
abbrev Sp121 (c:C121):Prop:=∀ (p0:Bool) (y:Int),c p0=some y→Spec Tryz.prog gl0 121 [.c (.bool p0)] [] (.c (.int .i64 y)) []
theorem ek121 {R:Type} {c:C121} (hs:Sp121 c):EOk 121 (e121 (R:=R) c):=qam fun v=>hs v.1
theorem sf121:Sp121 (F121):=fun p0 y hy=>by
 refine qai qah 1000000 (fn:=Tryz.f121) (by kernel_rfl) (by kernel_rfl) (X:=X121) (by kernel_rfl) ?_
 rw [eq121]
 exact (nt121 Ops.std p0 some (K1 k0)).trans (by show ob (F121 p0) _=_;rw [hy];rfl)
noncomputable def M121:C121:=F121
theorem sm121:Sp121 M121:=sf121
def X122:Aux:=⟨[],[]⟩
def T122 {R:Type} (B:Ops) (c118:C118) (c121:C121) (p0 p1 p2:Int) (k:(Int)→Option R):Option R:=cond (B.eq p0 6) (ob (c118 (IntKind.wrap .i64 (p1*p2))) fun y0=>k y0) (cond (B.eq p0 7) (ob (c118 (IntKind.wrap .i64 (p1+p2))) fun y0=>k y0) (cond (B.eq p0 8) (ob (c118 (IntKind.wrap .i64 (p1-p2))) fun y0=>k y0) (cond (B.eq p0 9) (ob (c121 (B.lt p1 p2)) fun y0=>k y0) (cond (B.eq p0 10) (ob (c121 (B.le p1 p2)) fun y0=>k y0) (cond (B.eq p0 11) (ob (c121 (B.lt p2 p1)) fun y0=>k y0) (cond (B.eq p0 12) (ob (c121 (B.le p2 p1)) fun y0=>k y0) (cond (B.eq p0 13) (ob (c121 (B.eq p1 p2)) fun y0=>k y0) (cond (B.eq p0 14) (ob (c121 !B.eq p1 p2) fun y0=>k y0) (cond (B.eq p0 15) (cond (!B.eq p1 0) (ob (c121 !B.eq p2 0) fun y0=>k y0) (ob (c121 false) fun y0=>k y0)) (cond (!B.eq p1 0) (ob (c121 true) fun y0=>k y0) (ob (c121 !B.eq p2 0) fun y0=>k y0)))))))))))
theorem eq122 {R:Type} (B:Ops) (c118:C118) (c121:C121) (p0 p1 p2:Int) (k:AV→Objs→Option R) (n:Nat):afun tau B gl0 X122 (ent 118 (e118 c118) (ent 121 (e121 c121) gnil)) ow Tryz.f122 [.c (.int .i64 p0),.c (.int .i64 p1),.c (.int .i64 p2)] [] k n=T122 B c118 c121 p0 p1 p2 (K1 k):=by kernel_rfl
theorem nt122 {R R':Type} (B:Ops) (c118:C118) (c121:C121) (p0 p1 p2:Int) (k0:(Int)→Option R') (k:R'→Option R):T122 B c118 c121 p0 p1 p2 (fun y=>ob (k0 y) k)=ob (T122 B c118 c121 p0 p1 p2 k0) k:=by
 unfold T122
 repeat' first | exact rfl | apply qae | (apply qaj;intro)
def F122 (c118:C118) (c121:C121) (p0 p1 p2:Int):Option (Int):=T122 Ops.std c118 c121 p0 p1 p2 some
abbrev C122:Type:=Int→Int→Int→Option (Int)
def e122 {R:Type} (c:C122):Ent R:=eG [.aC (.cI .i64),.aC (.cI .i64),.aC (.cI .i64)] [] fun v k=>ob (c v.1 v.2.1 v.2.2.1) (K1 k)
abbrev Sp122 (c:C122):Prop:=∀ (p0 p1 p2 y:Int),c p0 p1 p2=some y→Spec Tryz.prog gl0 122 [.c (.int .i64 p0),.c (.int .i64 p1),.c (.int .i64 p2)] [] (.c (.int .i64 y)) []
theorem ek122 {R:Type} {c:C122} (hs:Sp122 c):EOk 122 (e122 (R:=R) c):=qam fun v=>hs v.1 v.2.1 v.2.2.1
theorem sf122 {c118:C118} {c121:C121} (h118:Sp118 c118) (h121:Sp121 c121):Sp122 (F122 c118 c121):=fun p0 p1 p2 y hy=>by
 refine qai (qac (ek118 h118) (qac (ek121 h121) qah)) 1000000 (fn:=Tryz.f122) (by kernel_rfl) (by kernel_rfl) (X:=X122) (by kernel_rfl) ?_
 rw [eq122]
 exact (nt122 Ops.std c118 c121 p0 p1 p2 some (K1 k0)).trans (by show ob (F122 c118 c121 p0 p1 p2) _=_;rw [hy];rfl)
noncomputable def M122:C122:=F122 M118 M121
theorem sm122:Sp122 M122:=sf122 sm118 sm121
def X163:Aux:=⟨[(2,([2,3,4,5,6]++rg 9 10))],[]⟩
inductive S163 where
 | l0 (v1 v2:Int) (v3:LB)
def T163 {R:Type} (B:Ops) (c164:C164) (p0:L94) (p1:LB) (again:S163→Option R) (k:(Int×LB)→Option R):Option S163→Option R | none=>again (.l0 (↑p0.length) 0 p1) | some (.l0 v1 v2 v3)=>cond (B.lt v2 v1) (cond (B.inb v2 p0.length) (ob (c164 (p0.getD v2.toNat ty94.dflt).1 ((p0.getD v2.toNat ty94.dflt).2).1 (((p0.getD v2.toNat ty94.dflt).2).2).1 (((p0.getD v2.toNat ty94.dflt).2).2).2 v3) fun y0=>cond y0.1 (k (v2,y0.2)) (again (.l0 v1 (IntKind.wrap .i64 (v2+1)) y0.2))) none) (k (-1,v3))
def E163 (p0:L94) (p1:LB):S163→List AV×Objs
 | .l0 v1 v2 v3=>(mk 19 [(0,.c (.list 94 ty94 p0)),(1,.fn 164 [.ptr 2500 0]),(7,.c (.int .i64 v1)),(8,.c (.int .i64 v2))],[(2500,.box 9 [.str v3])])
def I163:S163→Nat
 | .l0 _ _ _=>0
abbrev K7 {R:Type} (k:AV→Objs→Option R) (y:(Int×LB)):Option R:=k (.c (.int .i64 y.1)) [(2500,.box 9 [.str y.2])]
noncomputable abbrev A163 {R:Type} (B:Ops) (c164:C164) (p0:L94) (p1:LB) (k:AV→Objs→Option R) (s:S163) (n:Nat):Option R:=aloop tau B gl0 X163 (ent 164 (e164 c164) gnil) ow [2500] Tryz.f163 k (I163 s) (E163 p0 p1 s) n
theorem eq163 {R:Type} (B:Ops) (c164:C164) (p0:L94) (p1:LB) (k:AV→Objs→Option R) (n:Nat):afun tau B gl0 X163 (ent 164 (e164 c164) gnil) ow Tryz.f163 [.c (.list 94 ty94 p0),.fn 164 [.ptr 2500 0]] [(2500,.box 9 [.str p1])] k n=T163 B c164 p0 p1 (fun s=>A163 B c164 p0 p1 k s n) (K7 k) none:=by kernel_rfl
theorem el163 {R:Type} (B:Ops) (c164:C164) (p0:L94) (p1:LB) (k:AV→Objs→Option R) (n:Nat):∀ s,A163 B c164 p0 p1 k s (n+1)=T163 B c164 p0 p1 (fun s=>A163 B c164 p0 p1 k s n) (K7 k) (some s):=by
 intro s
 cases s<;>kernel_rfl
theorem nt163 {R R':Type} (B:Ops) (c164:C164) (p0:L94) (p1:LB) (again:S163→Option R) (again':S163→Option R') (k0:(Int×LB)→Option R') (k:R'→Option R) (h:∀ s,again s=ob (again' s) k):∀ s,T163 B c164 p0 p1 again (fun y=>ob (k0 y) k) s=ob (T163 B c164 p0 p1 again' k0 s) k:=by
 rintro (_ | x)
 all_goals try cases x
 all_goals (unfold T163;repeat' first | exact rfl | exact h _ | apply qae | (apply qaj;intro))
def R163 (c164:C164) (p0:L94) (p1:LB):Nat→S163→Option (Int×LB)
 | 0,_=>none
 | n+1,s=>T163 Ops.std c164 p0 p1 (R163 c164 p0 p1 n) some (some s)
theorem rr163 {R:Type} (c164:C164) (p0:L94) (p1:LB) (k:AV→Objs→Option R):∀ (n:Nat) (s:S163),A163 Ops.std c164 p0 p1 k s n=ob (R163 c164 p0 p1 n s) (K7 k)
 | 0,s=>by cases s<;>rfl
 | n+1,s=>by rw [el163];exact nt163 Ops.std c164 p0 p1 _ _ some (K7 k) (rr163 c164 p0 p1 k n) (some s)
def F163 (c164:C164) (p0:L94) (p1:LB):Option (Int×LB):=T163 Ops.std c164 p0 p1 (R163 c164 p0 p1 1000000) some none
abbrev C163:Type:=L94→LB→Option (Int×LB)
def e163 {R:Type} (c:C163):Ent R:=eG [.aC (.cL 94 ty94),.aF 164 [.cP 2500]] [.oB 2500 9 [.cS]] fun v k=>ob (c v.1 v.2.1) (K7 k)
abbrev Sp163 (c:C163):Prop:=∀ (p0:L94) (p1:LB) (y:Int×LB),c p0 p1=some y→Spec Tryz.prog gl0 163 [.c (.list 94 ty94 p0),.fn 164 [.ptr 2500 0]] [(2500,.box 9 [.str p1])] (.c (.int .i64 y.1)) [(2500,.box 9 [.str y.2])]
theorem ek163 {R:Type} {c:C163} (hs:Sp163 c):EOk 163 (e163 (R:=R) c):=qam fun v=>hs v.1 v.2.1
theorem sf163 {c164:C164} (h164:Sp164 c164):Sp163 (F163 c164):=fun p0 p1 y hy=>by
 refine qai (qac (ek164 h164) qah) 1000000 (fn:=Tryz.f163) (by kernel_rfl) (by kernel_rfl) (X:=X163) (by kernel_rfl) ?_
 rw [eq163]
 exact (nt163 Ops.std c164 p0 p1 _ _ some (K7 k0) (rr163 c164 p0 p1 k0 1000000) none).trans (by show ob (F163 c164 p0 p1) _=_;rw [hy];rfl)
noncomputable def M163:C163:=F163 M164
theorem sm163:Sp163 M163:=sf163 sm164
def X119:Aux:=⟨[],[]⟩
def T119 {R:Type} (B:Ops) (c164:C164) (c163:C163) (p0:L94) (p1:L98) (p2:L103) (p3:LB) (k:(Int)→Option R):Option R:=ob (c163 p0 p3) fun y0=>k y0.1
theorem eq119 {R:Type} (B:Ops) (c164:C164) (c163:C163) (p0:L94) (p1:L98) (p2:L103) (p3:LB) (k:AV→Objs→Option R) (n:Nat):afun tau B gl0 X119 (ent 164 (e164 c164) (ent 163 (e163 c163) gnil)) ow Tryz.f119 [.agg [.list 94 ty94 p0,.list 98 ty98 p1,.list 103 ty103 p2],.c (.str p3)] [] k n=T119 B c164 c163 p0 p1 p2 p3 (K1 k):=by kernel_rfl
theorem nt119 {R R':Type} (B:Ops) (c164:C164) (c163:C163) (p0:L94) (p1:L98) (p2:L103) (p3:LB) (k0:(Int)→Option R') (k:R'→Option R):T119 B c164 c163 p0 p1 p2 p3 (fun y=>ob (k0 y) k)=ob (T119 B c164 c163 p0 p1 p2 p3 k0) k:=by
 unfold T119
 repeat' first | exact rfl | apply qae | (apply qaj;intro)
def F119 (c164:C164) (c163:C163) (p0:L94) (p1:L98) (p2:L103) (p3:LB):Option (Int):=T119 Ops.std c164 c163 p0 p1 p2 p3 some
abbrev C119:Type:=L94→L98→L103→LB→Option (Int)
def e119 {R:Type} (c:C119):Ent R:=eG [.aG [.cL 94 ty94,.cL 98 ty98,.cL 103 ty103],.aC .cS] [] fun v k=>ob (c v.1 v.2.1 v.2.2.1 v.2.2.2.1) (K1 k)
abbrev Sp119 (c:C119):Prop:=∀ (p0:L94) (p1:L98) (p2:L103) (p3:LB) (y:Int),c p0 p1 p2 p3=some y→Spec Tryz.prog gl0 119 [.agg [.list 94 ty94 p0,.list 98 ty98 p1,.list 103 ty103 p2],.c (.str p3)] [] (.c (.int .i64 y)) []
theorem ek119 {R:Type} {c:C119} (hs:Sp119 c):EOk 119 (e119 (R:=R) c):=qam fun v=>hs v.1 v.2.1 v.2.2.1 v.2.2.2.1
theorem sf119 {c164:C164} {c163:C163} (h164:Sp164 c164) (h163:Sp163 c163):Sp119 (F119 c164 c163):=fun p0 p1 p2 p3 y hy=>by
 refine qai (qac (ek164 h164) (qac (ek163 h163) qah)) 1000000 (fn:=Tryz.f119) (by kernel_rfl) (by kernel_rfl) (X:=X119) (by kernel_rfl) ?_
 rw [eq119]
 exact (nt119 Ops.std c164 c163 p0 p1 p2 p3 some (K1 k0)).trans (by show ob (F119 c164 c163 p0 p1 p2 p3) _=_;rw [hy];rfl)
noncomputable def M119:C119:=F119 M164 M163
theorem sm119:Sp119 M119:=sf119 sm164 sm163
def X165:Aux:=⟨[(2,([2,3,4,5,6]++rg 9 10))],[]⟩
inductive S165 where
 | l0 (v1 v2:Int) (v3:LB)
def T165 {R:Type} (B:Ops) (c166:C166) (p0:L98) (p1:LB) (again:S165→Option R) (k:(Int×LB)→Option R):Option S165→Option R | none=>again (.l0 (↑p0.length) 0 p1) | some (.l0 v1 v2 v3)=>cond (B.lt v2 v1) (cond (B.inb v2 p0.length) (ob (c166 (p0.getD v2.toNat ty98.dflt).1 (p0.getD v2.toNat ty98.dflt).2 v3) fun y0=>cond y0.1 (k (v2,y0.2)) (again (.l0 v1 (IntKind.wrap .i64 (v2+1)) y0.2))) none) (k (-1,v3))
def E165 (p0:L98) (p1:LB):S165→List AV×Objs
 | .l0 v1 v2 v3=>(mk 19 [(0,.c (.list 98 ty98 p0)),(1,.fn 166 [.ptr 2500 0]),(7,.c (.int .i64 v1)),(8,.c (.int .i64 v2))],[(2500,.box 9 [.str v3])])
def I165:S165→Nat
 | .l0 _ _ _=>0
noncomputable abbrev A165 {R:Type} (B:Ops) (c166:C166) (p0:L98) (p1:LB) (k:AV→Objs→Option R) (s:S165) (n:Nat):Option R:=aloop tau B gl0 X165 (ent 166 (e166 c166) gnil) ow [2500] Tryz.f165 k (I165 s) (E165 p0 p1 s) n
theorem eq165 {R:Type} (B:Ops) (c166:C166) (p0:L98) (p1:LB) (k:AV→Objs→Option R) (n:Nat):afun tau B gl0 X165 (ent 166 (e166 c166) gnil) ow Tryz.f165 [.c (.list 98 ty98 p0),.fn 166 [.ptr 2500 0]] [(2500,.box 9 [.str p1])] k n=T165 B c166 p0 p1 (fun s=>A165 B c166 p0 p1 k s n) (K7 k) none:=by kernel_rfl
theorem el165 {R:Type} (B:Ops) (c166:C166) (p0:L98) (p1:LB) (k:AV→Objs→Option R) (n:Nat):∀ s,A165 B c166 p0 p1 k s (n+1)=T165 B c166 p0 p1 (fun s=>A165 B c166 p0 p1 k s n) (K7 k) (some s):=by
 intro s
 cases s<;>kernel_rfl
theorem nt165 {R R':Type} (B:Ops) (c166:C166) (p0:L98) (p1:LB) (again:S165→Option R) (again':S165→Option R') (k0:(Int×LB)→Option R') (k:R'→Option R) (h:∀ s,again s=ob (again' s) k):∀ s,T165 B c166 p0 p1 again (fun y=>ob (k0 y) k) s=ob (T165 B c166 p0 p1 again' k0 s) k:=by
 rintro (_ | x)
 all_goals try cases x
 all_goals (unfold T165;repeat' first | exact rfl | exact h _ | apply qae | (apply qaj;intro))
def R165 (c166:C166) (p0:L98) (p1:LB):Nat→S165→Option (Int×LB)
 | 0,_=>none
 | n+1,s=>T165 Ops.std c166 p0 p1 (R165 c166 p0 p1 n) some (some s)
theorem rr165 {R:Type} (c166:C166) (p0:L98) (p1:LB) (k:AV→Objs→Option R):∀ (n:Nat) (s:S165),A165 Ops.std c166 p0 p1 k s n=ob (R165 c166 p0 p1 n s) (K7 k)
 | 0,s=>by cases s<;>rfl
 | n+1,s=>by rw [el165];exact nt165 Ops.std c166 p0 p1 _ _ some (K7 k) (rr165 c166 p0 p1 k n) (some s)
def F165 (c166:C166) (p0:L98) (p1:LB):Option (Int×LB):=T165 Ops.std c166 p0 p1 (R165 c166 p0 p1 1000000) some none
abbrev C165:Type:=L98→LB→Option (Int×LB)
def e165 {R:Type} (c:C165):Ent R:=eG [.aC (.cL 98 ty98),.aF 166 [.cP 2500]] [.oB 2500 9 [.cS]] fun v k=>ob (c v.1 v.2.1) (K7 k)
abbrev Sp165 (c:C165):Prop:=∀ (p0:L98) (p1:LB) (y:Int×LB),c p0 p1=some y→Spec Tryz.prog gl0 165 [.c (.list 98 ty98 p0),.fn 166 [.ptr 2500 0]] [(2500,.box 9 [.str p1])] (.c (.int .i64 y.1)) [(2500,.box 9 [.str y.2])]
theorem ek165 {R:Type} {c:C165} (hs:Sp165 c):EOk 165 (e165 (R:=R) c):=qam fun v=>hs v.1 v.2.1
theorem sf165 {c166:C166} (h166:Sp166 c166):Sp165 (F165 c166):=fun p0 p1 y hy=>by
 refine qai (qac (ek166 h166) qah) 1000000 (fn:=Tryz.f165) (by kernel_rfl) (by kernel_rfl) (X:=X165) (by kernel_rfl) ?_
 rw [eq165]
 exact (nt165 Ops.std c166 p0 p1 _ _ some (K7 k0) (rr165 c166 p0 p1 k0 1000000) none).trans (by show ob (F165 c166 p0 p1) _=_;rw [hy];rfl)
noncomputable def M165:C165:=F165 M166
theorem sm165:Sp165 M165:=sf165 sm166
def X120:Aux:=⟨[],[]⟩
def T120 {R:Type} (B:Ops) (c166:C166) (c165:C165) (c167:C167) (p0:L94) (p1:L98) (p2:L103) (p3 p4:LB) (k:(Int×Int)→Option R):Option R:=ob (c165 p1 p3) fun y0=>cond (B.lt y0.1 0) (k (-1,-1)) (cond (B.inb y0.1 p1.length) (ob (c167 (p1.getD (Int.toNat y0.1) ty98.dflt).2 p4) fun y1=>k (y0.1,y1)) none)
abbrev K8 {R:Type} (k:AV→Objs→Option R) (y:(Int×Int)):Option R:=k (.tup [(false,[.int .i64 y.1]),(false,[.int .i64 y.2])]) []
theorem eq120 {R:Type} (B:Ops) (c166:C166) (c165:C165) (c167:C167) (p0:L94) (p1:L98) (p2:L103) (p3 p4:LB) (k:AV→Objs→Option R) (n:Nat):afun tau B gl0 X120 (ent 166 (e166 c166) (ent 165 (e165 c165) (ent 167 (e167 c167) gnil))) ow Tryz.f120 [.agg [.list 94 ty94 p0,.list 98 ty98 p1,.list 103 ty103 p2],.c (.str p3),.c (.str p4)] [] k n=T120 B c166 c165 c167 p0 p1 p2 p3 p4 (K8 k):=by kernel_rfl
theorem nt120 {R R':Type} (B:Ops) (c166:C166) (c165:C165) (c167:C167) (p0:L94) (p1:L98) (p2:L103) (p3 p4:LB) (k0:(Int×Int)→Option R') (k:R'→Option R):T120 B c166 c165 c167 p0 p1 p2 p3 p4 (fun y=>ob (k0 y) k)=ob (T120 B c166 c165 c167 p0 p1 p2 p3 p4 k0) k:=by
 unfold T120
 repeat' first | exact rfl | apply qae | (apply qaj;intro)
def F120 (c166:C166) (c165:C165) (c167:C167) (p0:L94) (p1:L98) (p2:L103) (p3 p4:LB):Option (Int×Int):=T120 Ops.std c166 c165 c167 p0 p1 p2 p3 p4 some
abbrev C120:Type:=L94→L98→L103→LB→LB→Option (Int×Int)
def e120 {R:Type} (c:C120):Ent R:=eG [.aG [.cL 94 ty94,.cL 98 ty98,.cL 103 ty103],.aC .cS,.aC .cS] [] fun v k=>ob (c v.1 v.2.1 v.2.2.1 v.2.2.2.1 v.2.2.2.2.1) (K8 k)
abbrev Sp120 (c:C120):Prop:=∀ (p0:L94) (p1:L98) (p2:L103) (p3 p4:LB) (y:Int×Int),c p0 p1 p2 p3 p4=some y→Spec Tryz.prog gl0 120 [.agg [.list 94 ty94 p0,.list 98 ty98 p1,.list 103 ty103 p2],.c (.str p3),.c (.str p4)] [] (.tup [(false,[.int .i64 y.1]),(false,[.int .i64 y.2])]) []
theorem ek120 {R:Type} {c:C120} (hs:Sp120 c):EOk 120 (e120 (R:=R) c):=qam fun v=>hs v.1 v.2.1 v.2.2.1 v.2.2.2.1 v.2.2.2.2.1
theorem sf120 {c166:C166} {c165:C165} {c167:C167} (h166:Sp166 c166) (h165:Sp165 c165) (h167:Sp167 c167):Sp120 (F120 c166 c165 c167):=fun p0 p1 p2 p3 p4 y hy=>by
 refine qai (qac (ek166 h166) (qac (ek165 h165) (qac (ek167 h167) qah))) 1000000 (fn:=Tryz.f120) (by kernel_rfl) (by kernel_rfl) (X:=X120) (by kernel_rfl) ?_
 rw [eq120]
 exact (nt120 Ops.std c166 c165 c167 p0 p1 p2 p3 p4 some (K8 k0)).trans (by show ob (F120 c166 c165 c167 p0 p1 p2 p3 p4) _=_;rw [hy];rfl)
noncomputable def M120:C120:=F120 M166 M165 M167
theorem sm120:Sp120 M120:=sf120 sm166 sm165 sm167
def X116:Aux:=⟨[(2,([0,3,4,5,6,7,8]++rg 12 28))],[]⟩
inductive S116 where
 | l0 (v2 v3:Int)
def T116 {R:Type} (B:Ops) (c119:C119) (c120:C120) (c156:C156) (p0:L94) (p1:L98) (p2:L103) (p3:L150) (again:S116→Option R) (k:(Bool)→Option R):Option S116→Option R | none=>again (.l0 (↑p3.length) 0) | some (.l0 v2 v3)=>cond (B.lt v3 v2) (cond (B.inb v3 p3.length) (cond (B.eq (p3.getD v3.toNat ty150.dflt).1 2) (ob (c119 p0 p1 p2 (((p3.getD v3.toNat ty150.dflt).2).2).1) fun y0=>cond (B.lt y0 0) (k false) (again (.l0 v2 (IntKind.wrap .i64 (v3+1))))) (cond (B.eq (p3.getD v3.toNat ty150.dflt).1 3) (ob (c120 p0 p1 p2 (((p3.getD v3.toNat ty150.dflt).2).2).1 (((p3.getD v3.toNat ty150.dflt).2).2).2) fun y0=>cond (B.lt y0.2 0) (k false) (again (.l0 v2 (IntKind.wrap .i64 (v3+1))))) (again (.l0 v2 (IntKind.wrap .i64 (v3+1)))))) none) (ob (c156 p3) fun y0=>k y0)
def E116 (p0:L94) (p1:L98) (p2:L103) (p3:L150):S116→List AV×Objs
 | .l0 v2 v3=>(mk 40 [(1,.c (.list 150 ty150 p3)),(2,.c (.ptr 2 0)),(9,.c (.list 150 ty150 p3)),(10,.c (.int .i64 v2)),(11,.c (.int .i64 v3))],[(2,.box 31 [.list 94 ty94 p0,.list 98 ty98 p1,.list 103 ty103 p2])])
def I116:S116→Nat
 | .l0 _ _=>0
noncomputable abbrev A116 {R:Type} (B:Ops) (c119:C119) (c120:C120) (c156:C156) (p0:L94) (p1:L98) (p2:L103) (p3:L150) (k:AV→Objs→Option R) (s:S116) (n:Nat):Option R:=aloop tau B gl0 X116 (ent 119 (e119 c119) (ent 120 (e120 c120) (ent 156 (e156 c156) gnil))) ow [] Tryz.f116 k (I116 s) (E116 p0 p1 p2 p3 s) n
theorem eq116 {R:Type} (B:Ops) (c119:C119) (c120:C120) (c156:C156) (p0:L94) (p1:L98) (p2:L103) (p3:L150) (k:AV→Objs→Option R) (n:Nat):afun tau B gl0 X116 (ent 119 (e119 c119) (ent 120 (e120 c120) (ent 156 (e156 c156) gnil))) ow Tryz.f116 [.agg [.list 94 ty94 p0,.list 98 ty98 p1,.list 103 ty103 p2],.c (.list 150 ty150 p3)] [] k n=T116 B c119 c120 c156 p0 p1 p2 p3 (fun s=>A116 B c119 c120 c156 p0 p1 p2 p3 k s n) (K2 k) none:=by kernel_rfl
theorem el116 {R:Type} (B:Ops) (c119:C119) (c120:C120) (c156:C156) (p0:L94) (p1:L98) (p2:L103) (p3:L150) (k:AV→Objs→Option R) (n:Nat):∀ s,A116 B c119 c120 c156 p0 p1 p2 p3 k s (n+1)=T116 B c119 c120 c156 p0 p1 p2 p3 (fun s=>A116 B c119 c120 c156 p0 p1 p2 p3 k s n) (K2 k) (some s):=by
 intro s
 cases s<;>kernel_rfl
theorem nt116 {R R':Type} (B:Ops) (c119:C119) (c120:C120) (c156:C156) (p0:L94) (p1:L98) (p2:L103) (p3:L150) (again:S116→Option R) (again':S116→Option R') (k0:(Bool)→Option R') (k:R'→Option R) (h:∀ s,again s=ob (again' s) k):∀ s,T116 B c119 c120 c156 p0 p1 p2 p3 again (fun y=>ob (k0 y) k) s=ob (T116 B c119 c120 c156 p0 p1 p2 p3 again' k0 s) k:=by
 rintro (_ | x)
 all_goals try cases x
 all_goals (unfold T116;repeat' first | exact rfl | exact h _ | apply qae | (apply qaj;intro))
def R116 (c119:C119) (c120:C120) (c156:C156) (p0:L94) (p1:L98) (p2:L103) (p3:L150):Nat→S116→Option (Bool)
 | 0,_=>none
 | n+1,s=>T116 Ops.std c119 c120 c156 p0 p1 p2 p3 (R116 c119 c120 c156 p0 p1 p2 p3 n) some (some s)
theorem rr116 {R:Type} (c119:C119) (c120:C120) (c156:C156) (p0:L94) (p1:L98) (p2:L103) (p3:L150) (k:AV→Objs→Option R):∀ (n:Nat) (s:S116),A116 Ops.std c119 c120 c156 p0 p1 p2 p3 k s n=ob (R116 c119 c120 c156 p0 p1 p2 p3 n s) (K2 k)
 | 0,s=>by cases s<;>rfl
 | n+1,s=>by rw [el116];exact nt116 Ops.std c119 c120 c156 p0 p1 p2 p3 _ _ some (K2 k) (rr116 c119 c120 c156 p0 p1 p2 p3 k n) (some s)
def F116 (c119:C119) (c120:C120) (c156:C156) (p0:L94) (p1:L98) (p2:L103) (p3:L150):Option (Bool):=T116 Ops.std c119 c120 c156 p0 p1 p2 p3 (R116 c119 c120 c156 p0 p1 p2 p3 1000000) some none
abbrev C116:Type:=L94→L98→L103→L150→Option (Bool)
def e116 {R:Type} (c:C116):Ent R:=eG [.aG [.cL 94 ty94,.cL 98 ty98,.cL 103 ty103],.aC (.cL 150 ty150)] [] fun v k=>ob (c v.1 v.2.1 v.2.2.1 v.2.2.2.1) (K2 k)
abbrev Sp116 (c:C116):Prop:=∀ (p0:L94) (p1:L98) (p2:L103) (p3:L150) (y:Bool),c p0 p1 p2 p3=some y→Spec Tryz.prog gl0 116 [.agg [.list 94 ty94 p0,.list 98 ty98 p1,.list 103 ty103 p2],.c (.list 150 ty150 p3)] [] (.c (.bool y)) []
theorem ek116 {R:Type} {c:C116} (hs:Sp116 c):EOk 116 (e116 (R:=R) c):=qam fun v=>hs v.1 v.2.1 v.2.2.1 v.2.2.2.1
theorem sf116 {c119:C119} {c120:C120} {c156:C156} (h119:Sp119 c119) (h120:Sp120 c120) (h156:Sp156 c156):Sp116 (F116 c119 c120 c156):=fun p0 p1 p2 p3 y hy=>by
 refine qai (qac (ek119 h119) (qac (ek120 h120) (qac (ek156 h156) qah))) 1000000 (fn:=Tryz.f116) (by kernel_rfl) (by kernel_rfl) (X:=X116) (by kernel_rfl) ?_
 rw [eq116]
 exact (nt116 Ops.std c119 c120 c156 p0 p1 p2 p3 _ _ some (K2 k0) (rr116 c119 c120 c156 p0 p1 p2 p3 k0 1000000) none).trans (by show ob (F116 c119 c120 c156 p0 p1 p2 p3) _=_;rw [hy];rfl)
noncomputable def M116:C116:=F116 M119 M120 M156
theorem sm116:Sp116 M116:=sf116 sm119 sm120 sm156
def X68:Aux:=⟨[(5,([0,1,2,5,6]++rg 8 28++rg 39 83))],[(14,.lin (rg 0 10)),(10,.lin (rg 0 13))]⟩
inductive S68 where
 | l0 (v1 v2:Int) (v8:L3)
def T68 {R:Type} (B:Ops) (c116:C116) (c117:C117) (c119:C119) (c118:C118) (c120:C120) (c121:C121) (c122:C122) (p0:L94) (p1:L98) (p2:L103) (p3 p4:L3) (p5:L150) (again:S68→Option R) (k:(Int)→Option R):Option S68→Option R | none=>ob (c116 p0 p1 p2 p5) fun y0=>cond (!y0) (k 0) (cond (!B.eq (↑p3.length) (↑p1.length)) (k 0) (cond (!B.eq (↑p4.length) (↑p0.length)) (k 0) (again (.l0 (↑p5.length) 0 (mt (Ty.den (Ty.int .i64))))))) | some (.l0 v1 v2 v8)=>cond (B.lt v2 v1) (cond (B.inb v2 p5.length) (ob (c117 (p5.getD v2.toNat ty150.dflt).1) fun y0=>cond (B.eq (p5.getD v2.toNat ty150.dflt).1 1) (cond (B.inb (IntKind.wrap .i64 (Nat.cast v8.length-y0)) (List.length v8+1)) (cond (B.lim (List.length (List.take (Int.toNat (IntKind.wrap .i64 (Nat.cast v8.length-y0))) v8)+List.length (((p5.getD v2.toNat ty150.dflt).2).1::mt (Ty.den (Ty.int .i64)))) 8) (again (.l0 v1 (IntKind.wrap .i64 (v2+1)) (List.take (Int.toNat (IntKind.wrap .i64 (Nat.cast v8.length-y0))) v8++((p5.getD v2.toNat ty150.dflt).2).1::mt (Ty.den (Ty.int .i64))))) none) none) (cond (B.eq (p5.getD v2.toNat ty150.dflt).1 2) (ob (c119 p0 p1 p2 (((p5.getD v2.toNat ty150.dflt).2).2).1) fun y1=>cond (B.inb y1 p4.length) (ob (c118 (p4.getD y1.toNat ty3.dflt)) fun y2=>cond (B.inb (IntKind.wrap .i64 (Nat.cast v8.length-y0)) (List.length v8+1)) (cond (B.lim (List.length (List.take (Int.toNat (IntKind.wrap .i64 (Nat.cast v8.length-y0))) v8)+List.length (y2::mt (Ty.den (Ty.int .i64)))) 8) (again (.l0 v1 (IntKind.wrap .i64 (v2+1)) (List.take (Int.toNat (IntKind.wrap .i64 (Nat.cast v8.length-y0))) v8++y2::mt (Ty.den (Ty.int .i64))))) none) none) none) (cond (B.eq (p5.getD v2.toNat ty150.dflt).1 3) (ob (c120 p0 p1 p2 (((p5.getD v2.toNat ty150.dflt).2).2).1 (((p5.getD v2.toNat ty150.dflt).2).2).2) fun y1=>cond (B.inb y1.1 p3.length) (ob (c121 (B.eq (p3.getD (Int.toNat y1.1) ty3.dflt) y1.2)) fun y2=>cond (B.inb (IntKind.wrap .i64 (Nat.cast v8.length-y0)) (List.length v8+1)) (cond (B.lim (List.length (List.take (Int.toNat (IntKind.wrap .i64 (Nat.cast v8.length-y0))) v8)+List.length (y2::mt (Ty.den (Ty.int .i64)))) 8) (again (.l0 v1 (IntKind.wrap .i64 (v2+1)) (List.take (Int.toNat (IntKind.wrap .i64 (Nat.cast v8.length-y0))) v8++y2::mt (Ty.den (Ty.int .i64))))) none) none) none) (cond (B.eq (p5.getD v2.toNat ty150.dflt).1 4) (cond (B.inb (IntKind.wrap .i64 (Nat.cast v8.length-y0)) v8.length) (ob (c121 (B.eq (v8.getD (Int.toNat (IntKind.wrap .i64 (Nat.cast v8.length-y0))) ty3.dflt) 0)) fun y1=>cond (B.inb (IntKind.wrap .i64 (Nat.cast v8.length-y0)) (List.length v8+1)) (cond (B.lim (List.length (List.take (Int.toNat (IntKind.wrap .i64 (Nat.cast v8.length-y0))) v8)+List.length (y1::mt (Ty.den (Ty.int .i64)))) 8) (again (.l0 v1 (IntKind.wrap .i64 (v2+1)) (List.take (Int.toNat (IntKind.wrap .i64 (Nat.cast v8.length-y0))) v8++y1::mt (Ty.den (Ty.int .i64))))) none) none) none) (cond (B.eq (p5.getD v2.toNat ty150.dflt).1 5) (cond (B.inb (IntKind.wrap .i64 (Nat.cast v8.length-y0)) v8.length) (ob (c118 (IntKind.wrap .i64 (0-v8.getD (Int.toNat (IntKind.wrap .i64 (Nat.cast v8.length-y0))) ty3.dflt))) fun y1=>cond (B.inb (IntKind.wrap .i64 (Nat.cast v8.length-y0)) (List.length v8+1)) (cond (B.lim (List.length (List.take (Int.toNat (IntKind.wrap .i64 (Nat.cast v8.length-y0))) v8)+List.length (y1::mt (Ty.den (Ty.int .i64)))) 8) (again (.l0 v1 (IntKind.wrap .i64 (v2+1)) (List.take (Int.toNat (IntKind.wrap .i64 (Nat.cast v8.length-y0))) v8++y1::mt (Ty.den (Ty.int .i64))))) none) none) none) (cond (B.inb (IntKind.wrap .i64 (Nat.cast v8.length-y0)) v8.length) (cond (B.inb (IntKind.wrap .i64 (IntKind.wrap .i64 (Nat.cast v8.length-y0)+1)) v8.length) (ob (c122 (p5.getD v2.toNat ty150.dflt).1 (v8.getD (Int.toNat (IntKind.wrap .i64 (Nat.cast v8.length-y0))) ty3.dflt) (v8.getD (Int.toNat (IntKind.wrap .i64 (IntKind.wrap .i64 (Nat.cast v8.length-y0)+1))) ty3.dflt)) fun y1=>cond (B.inb (IntKind.wrap .i64 (Nat.cast v8.length-y0)) (List.length v8+1)) (cond (B.lim (List.length (List.take (Int.toNat (IntKind.wrap .i64 (Nat.cast v8.length-y0))) v8)+List.length (y1::mt (Ty.den (Ty.int .i64)))) 8) (again (.l0 v1 (IntKind.wrap .i64 (v2+1)) (List.take (Int.toNat (IntKind.wrap .i64 (Nat.cast v8.length-y0))) v8++y1::mt (Ty.den (Ty.int .i64))))) none) none) none) none)))))) none) (cond (B.inb 0 v8.length) (k (v8.getD (Int.toNat 0) ty3.dflt)) none)
def E68 (p0:L94) (p1:L98) (p2:L103) (p3 p4:L3) (p5:L150):S68→List AV×Objs
 | .l0 v1 v2 v8=>(mk 122 [(3,.c (.ptr 3 0)),(4,.c (.ptr 4 0)),(7,.c (.own 7)),(36,.c (.list 150 ty150 p5)),(37,.c (.int .i64 v1)),(38,.c (.int .i64 v2))],[(3,.box 31 [.list 94 ty94 p0,.list 98 ty98 p1,.list 103 ty103 p2]),(4,.box 57 [.list 3 ty3 p3,.list 3 ty3 p4]),(7,.row 3 ty3 v8)])
def I68:S68→Nat
 | .l0 _ _ _=>0
noncomputable abbrev A68 {R:Type} (B:Ops) (c116:C116) (c117:C117) (c119:C119) (c118:C118) (c120:C120) (c121:C121) (c122:C122) (p0:L94) (p1:L98) (p2:L103) (p3 p4:L3) (p5:L150) (k:AV→Objs→Option R) (s:S68) (n:Nat):Option R:=aloop tau B gl0 X68 (ent 116 (e116 c116) (ent 117 (e117 c117) (ent 119 (e119 c119) (ent 118 (e118 c118) (ent 120 (e120 c120) (ent 121 (e121 c121) (ent 122 (e122 c122) gnil))))))) ow [] Tryz.f68 k (I68 s) (E68 p0 p1 p2 p3 p4 p5 s) n
theorem eq68 {R:Type} (B:Ops) (c116:C116) (c117:C117) (c119:C119) (c118:C118) (c120:C120) (c121:C121) (c122:C122) (p0:L94) (p1:L98) (p2:L103) (p3 p4:L3) (p5:L150) (k:AV→Objs→Option R) (n:Nat):afun tau B gl0 X68 (ent 116 (e116 c116) (ent 117 (e117 c117) (ent 119 (e119 c119) (ent 118 (e118 c118) (ent 120 (e120 c120) (ent 121 (e121 c121) (ent 122 (e122 c122) gnil))))))) ow Tryz.f68 [.agg [.list 94 ty94 p0,.list 98 ty98 p1,.list 103 ty103 p2],.agg [.list 3 ty3 p3,.list 3 ty3 p4],.c (.list 150 ty150 p5)] [] k n=T68 B c116 c117 c119 c118 c120 c121 c122 p0 p1 p2 p3 p4 p5 (fun s=>A68 B c116 c117 c119 c118 c120 c121 c122 p0 p1 p2 p3 p4 p5 k s n) (K1 k) none:=by kernel_rfl
theorem el68 {R:Type} (B:Ops) (c116:C116) (c117:C117) (c119:C119) (c118:C118) (c120:C120) (c121:C121) (c122:C122) (p0:L94) (p1:L98) (p2:L103) (p3 p4:L3) (p5:L150) (k:AV→Objs→Option R) (n:Nat):∀ s,A68 B c116 c117 c119 c118 c120 c121 c122 p0 p1 p2 p3 p4 p5 k s (n+1)=T68 B c116 c117 c119 c118 c120 c121 c122 p0 p1 p2 p3 p4 p5 (fun s=>A68 B c116 c117 c119 c118 c120 c121 c122 p0 p1 p2 p3 p4 p5 k s n) (K1 k) (some s):=by
 intro s
 cases s<;>kernel_rfl
theorem nt68 {R R':Type} (B:Ops) (c116:C116) (c117:C117) (c119:C119) (c118:C118) (c120:C120) (c121:C121) (c122:C122) (p0:L94) (p1:L98) (p2:L103) (p3 p4:L3) (p5:L150) (again:S68→Option R) (again':S68→Option R') (k0:(Int)→Option R') (k:R'→Option R) (h:∀ s,again s=ob (again' s) k):∀ s,T68 B c116 c117 c119 c118 c120 c121 c122 p0 p1 p2 p3 p4 p5 again (fun y=>ob (k0 y) k) s=ob (T68 B c116 c117 c119 c118 c120 c121 c122 p0 p1 p2 p3 p4 p5 again' k0 s) k:=by
 rintro (_ | x)
 all_goals try cases x
 all_goals (unfold T68;repeat' first | exact rfl | exact h _ | apply qae | (apply qaj;intro))
def R68 (c116:C116) (c117:C117) (c119:C119) (c118:C118) (c120:C120) (c121:C121) (c122:C122) (p0:L94) (p1:L98) (p2:L103) (p3 p4:L3) (p5:L150):Nat→S68→Option (Int)
 | 0,_=>none
 | n+1,s=>T68 Ops.std c116 c117 c119 c118 c120 c121 c122 p0 p1 p2 p3 p4 p5 (R68 c116 c117 c119 c118 c120 c121 c122 p0 p1 p2 p3 p4 p5 n) some (some s)
theorem rr68 {R:Type} (c116:C116) (c117:C117) (c119:C119) (c118:C118) (c120:C120) (c121:C121) (c122:C122) (p0:L94) (p1:L98) (p2:L103) (p3 p4:L3) (p5:L150) (k:AV→Objs→Option R):∀ (n:Nat) (s:S68),A68 Ops.std c116 c117 c119 c118 c120 c121 c122 p0 p1 p2 p3 p4 p5 k s n=ob (R68 c116 c117 c119 c118 c120 c121 c122 p0 p1 p2 p3 p4 p5 n s) (K1 k)
 | 0,s=>by cases s<;>rfl
 | n+1,s=>by rw [el68];exact nt68 Ops.std c116 c117 c119 c118 c120 c121 c122 p0 p1 p2 p3 p4 p5 _ _ some (K1 k) (rr68 c116 c117 c119 c118 c120 c121 c122 p0 p1 p2 p3 p4 p5 k n) (some s)
def F68 (c116:C116) (c117:C117) (c119:C119) (c118:C118) (c120:C120) (c121:C121) (c122:C122) (p0:L94) (p1:L98) (p2:L103) (p3 p4:L3) (p5:L150):Option (Int):=T68 Ops.std c116 c117 c119 c118 c120 c121 c122 p0 p1 p2 p3 p4 p5 (R68 c116 c117 c119 c118 c120 c121 c122 p0 p1 p2 p3 p4 p5 1000000) some none
abbrev C68:Type:=L94→L98→L103→L3→L3→L150→Option (Int)
def e68 {R:Type} (c:C68):Ent R:=eG [.aG [.cL 94 ty94,.cL 98 ty98,.cL 103 ty103],.aG [.cL 3 ty3,.cL 3 ty3],.aC (.cL 150 ty150)] [] fun v k=>ob (c v.1 v.2.1 v.2.2.1 v.2.2.2.1 v.2.2.2.2.1 v.2.2.2.2.2.1) (K1 k)
abbrev Sp68 (c:C68):Prop:=∀ (p0:L94) (p1:L98) (p2:L103) (p3 p4:L3) (p5:L150) (y:Int),c p0 p1 p2 p3 p4 p5=some y→Spec Tryz.prog gl0 68 [.agg [.list 94 ty94 p0,.list 98 ty98 p1,.list 103 ty103 p2],.agg [.list 3 ty3 p3,.list 3 ty3 p4],.c (.list 150 ty150 p5)] [] (.c (.int .i64 y)) []
theorem ek68 {R:Type} {c:C68} (hs:Sp68 c):EOk 68 (e68 (R:=R) c):=qam fun v=>hs v.1 v.2.1 v.2.2.1 v.2.2.2.1 v.2.2.2.2.1 v.2.2.2.2.2.1
theorem sf68 {c116:C116} {c117:C117} {c119:C119} {c118:C118} {c120:C120} {c121:C121} {c122:C122} (h116:Sp116 c116) (h117:Sp117 c117) (h119:Sp119 c119) (h118:Sp118 c118) (h120:Sp120 c120) (h121:Sp121 c121) (h122:Sp122 c122):Sp68 (F68 c116 c117 c119 c118 c120 c121 c122):=fun p0 p1 p2 p3 p4 p5 y hy=>by
 refine qai (qac (ek116 h116) (qac (ek117 h117) (qac (ek119 h119) (qac (ek118 h118) (qac (ek120 h120) (qac (ek121 h121) (qac (ek122 h122) qah))))))) 1000000 (fn:=Tryz.f68) (by kernel_rfl) (by kernel_rfl) (X:=X68) (by kernel_rfl) ?_
 rw [eq68]
 exact (nt68 Ops.std c116 c117 c119 c118 c120 c121 c122 p0 p1 p2 p3 p4 p5 _ _ some (K1 k0) (rr68 c116 c117 c119 c118 c120 c121 c122 p0 p1 p2 p3 p4 p5 k0 1000000) none).trans (by show ob (F68 c116 c117 c119 c118 c120 c121 c122 p0 p1 p2 p3 p4 p5) _=_;rw [hy];rfl)
noncomputable def M68:C68:=F68 M116 M117 M119 M118 M120 M121 M122
theorem sm68:Sp68 M68:=sf68 sm116 sm117 sm119 sm118 sm120 sm121 sm122
def X115:Aux:=⟨[],[]⟩
def T115 {R:Type} (B:Ops) (c116:C116) (p0:Int) (p1:L150) (p2:L94) (p3:L98) (p4:L103) (k:(Bool×L94×L98×L103)→Option R):Option R:=cond (B.eq p0 3) (ob (c116 p2 p3 p4 p1) fun y0=>k (!y0,p2,p3,p4)) (k (false,p2,p3,p4))
abbrev K9 {R:Type} (k:AV→Objs→Option R) (y:(Bool×L94×L98×L103)):Option R:=k (.c (.bool y.1)) [(1,.box 31 [.list 94 ty94 y.2.1,.list 98 ty98 y.2.2.1,.list 103 ty103 y.2.2.2])]
theorem eq115 {R:Type} (B:Ops) (c116:C116) (p0:Int) (p1:L150) (p2:L94) (p3:L98) (p4:L103) (k:AV→Objs→Option R) (n:Nat):afun tau B gl0 X115 (ent 116 (e116 c116) gnil) ow Tryz.f115 [.agg [.int .i64 p0,.list 150 ty150 p1],.c (.ptr 1 0)] [(1,.box 31 [.list 94 ty94 p2,.list 98 ty98 p3,.list 103 ty103 p4])] k n=T115 B c116 p0 p1 p2 p3 p4 (K9 k):=by kernel_rfl
theorem nt115 {R R':Type} (B:Ops) (c116:C116) (p0:Int) (p1:L150) (p2:L94) (p3:L98) (p4:L103) (k0:(Bool×L94×L98×L103)→Option R') (k:R'→Option R):T115 B c116 p0 p1 p2 p3 p4 (fun y=>ob (k0 y) k)=ob (T115 B c116 p0 p1 p2 p3 p4 k0) k:=by
 unfold T115
 repeat' first | exact rfl | apply qae | (apply qaj;intro)
def F115 (c116:C116) (p0:Int) (p1:L150) (p2:L94) (p3:L98) (p4:L103):Option (Bool×L94×L98×L103):=T115 Ops.std c116 p0 p1 p2 p3 p4 some
abbrev C115:Type:=Int→L150→L94→L98→L103→Option (Bool×L94×L98×L103)
def e115 {R:Type} (c:C115):Ent R:=eG [.aG [.cI .i64,.cL 150 ty150],.aC (.cP 1)] [.oB 1 31 [.cL 94 ty94,.cL 98 ty98,.cL 103 ty103]] fun v k=>ob (c v.1 v.2.1 v.2.2.1 v.2.2.2.1 v.2.2.2.2.1) (K9 k)
abbrev Sp115 (c:C115):Prop:=∀ (p0:Int) (p1:L150) (p2:L94) (p3:L98) (p4:L103) (y:Bool×L94×L98×L103),c p0 p1 p2 p3 p4=some y→Spec Tryz.prog gl0 115 [.agg [.int .i64 p0,.list 150 ty150 p1],.c (.ptr 1 0)] [(1,.box 31 [.list 94 ty94 p2,.list 98 ty98 p3,.list 103 ty103 p4])] (.c (.bool y.1)) [(1,.box 31 [.list 94 ty94 y.2.1,.list 98 ty98 y.2.2.1,.list 103 ty103 y.2.2.2])]
theorem ek115 {R:Type} {c:C115} (hs:Sp115 c):EOk 115 (e115 (R:=R) c):=qam fun v=>hs v.1 v.2.1 v.2.2.1 v.2.2.2.1 v.2.2.2.2.1
theorem sf115 {c116:C116} (h116:Sp116 c116):Sp115 (F115 c116):=fun p0 p1 p2 p3 p4 y hy=>by
 refine qai (qac (ek116 h116) qah) 1000000 (fn:=Tryz.f115) (by kernel_rfl) (by kernel_rfl) (X:=X115) (by kernel_rfl) ?_
 rw [eq115]
 exact (nt115 Ops.std c116 p0 p1 p2 p3 p4 some (K9 k0)).trans (by show ob (F115 c116 p0 p1 p2 p3 p4) _=_;rw [hy];rfl)
noncomputable def M115:C115:=F115 M116
theorem sm115:Sp115 M115:=sf115 sm116
def X162:Aux:=⟨[(2,([2,3,4,5,6]++rg 9 10))],[]⟩
inductive S162 where
 | l0 (v1 v2:Int) (v3:L94) (v4:L98) (v5:L103)
def T162 {R:Type} (B:Ops) (c115:C115) (p0:L66) (p1:L94) (p2:L98) (p3:L103) (again:S162→Option R) (k:(Int×L94×L98×L103)→Option R):Option S162→Option R | none=>again (.l0 (↑p0.length) 0 p1 p2 p3) | some (.l0 v1 v2 v3 v4 v5)=>cond (B.lt v2 v1) (cond (B.inb v2 p0.length) (ob (c115 (p0.getD v2.toNat ty66.dflt).1 (p0.getD v2.toNat ty66.dflt).2 v3 v4 v5) fun y0=>cond y0.1 (k (v2,y0.2.1,y0.2.2.1,y0.2.2.2)) (again (.l0 v1 (IntKind.wrap .i64 (v2+1)) y0.2.1 y0.2.2.1 y0.2.2.2))) none) (k (-1,v3,v4,v5))
def E162 (p0:L66) (p1:L94) (p2:L98) (p3:L103):S162→List AV×Objs
 | .l0 v1 v2 v3 v4 v5=>(mk 19 [(0,.c (.list 66 ty66 p0)),(1,.fn 115 [.ptr 2500 0]),(7,.c (.int .i64 v1)),(8,.c (.int .i64 v2))],[(2500,.box 31 [.list 94 ty94 v3,.list 98 ty98 v4,.list 103 ty103 v5])])
def I162:S162→Nat
 | .l0 _ _ _ _ _=>0
abbrev K10 {R:Type} (k:AV→Objs→Option R) (y:(Int×L94×L98×L103)):Option R:=k (.c (.int .i64 y.1)) [(2500,.box 31 [.list 94 ty94 y.2.1,.list 98 ty98 y.2.2.1,.list 103 ty103 y.2.2.2])]
noncomputable abbrev A162 {R:Type} (B:Ops) (c115:C115) (p0:L66) (p1:L94) (p2:L98) (p3:L103) (k:AV→Objs→Option R) (s:S162) (n:Nat):Option R:=aloop tau B gl0 X162 (ent 115 (e115 c115) gnil) ow [2500] Tryz.f162 k (I162 s) (E162 p0 p1 p2 p3 s) n
theorem eq162 {R:Type} (B:Ops) (c115:C115) (p0:L66) (p1:L94) (p2:L98) (p3:L103) (k:AV→Objs→Option R) (n:Nat):afun tau B gl0 X162 (ent 115 (e115 c115) gnil) ow Tryz.f162 [.c (.list 66 ty66 p0),.fn 115 [.ptr 2500 0]] [(2500,.box 31 [.list 94 ty94 p1,.list 98 ty98 p2,.list 103 ty103 p3])] k n=T162 B c115 p0 p1 p2 p3 (fun s=>A162 B c115 p0 p1 p2 p3 k s n) (K10 k) none:=by kernel_rfl
theorem el162 {R:Type} (B:Ops) (c115:C115) (p0:L66) (p1:L94) (p2:L98) (p3:L103) (k:AV→Objs→Option R) (n:Nat):∀ s,A162 B c115 p0 p1 p2 p3 k s (n+1)=T162 B c115 p0 p1 p2 p3 (fun s=>A162 B c115 p0 p1 p2 p3 k s n) (K10 k) (some s):=by
 intro s
 cases s<;>kernel_rfl
theorem nt162 {R R':Type} (B:Ops) (c115:C115) (p0:L66) (p1:L94) (p2:L98) (p3:L103) (again:S162→Option R) (again':S162→Option R') (k0:(Int×L94×L98×L103)→Option R') (k:R'→Option R) (h:∀ s,again s=ob (again' s) k):∀ s,T162 B c115 p0 p1 p2 p3 again (fun y=>ob (k0 y) k) s=ob (T162 B c115 p0 p1 p2 p3 again' k0 s) k:=by
 rintro (_ | x)
 all_goals try cases x
 all_goals (unfold T162;repeat' first | exact rfl | exact h _ | apply qae | (apply qaj;intro))
def R162 (c115:C115) (p0:L66) (p1:L94) (p2:L98) (p3:L103):Nat→S162→Option (Int×L94×L98×L103)
 | 0,_=>none
 | n+1,s=>T162 Ops.std c115 p0 p1 p2 p3 (R162 c115 p0 p1 p2 p3 n) some (some s)
theorem rr162 {R:Type} (c115:C115) (p0:L66) (p1:L94) (p2:L98) (p3:L103) (k:AV→Objs→Option R):∀ (n:Nat) (s:S162),A162 Ops.std c115 p0 p1 p2 p3 k s n=ob (R162 c115 p0 p1 p2 p3 n s) (K10 k)
 | 0,s=>by cases s<;>rfl
 | n+1,s=>by rw [el162];exact nt162 Ops.std c115 p0 p1 p2 p3 _ _ some (K10 k) (rr162 c115 p0 p1 p2 p3 k n) (some s)
def F162 (c115:C115) (p0:L66) (p1:L94) (p2:L98) (p3:L103):Option (Int×L94×L98×L103):=T162 Ops.std c115 p0 p1 p2 p3 (R162 c115 p0 p1 p2 p3 1000000) some none
abbrev C162:Type:=L66→L94→L98→L103→Option (Int×L94×L98×L103)
def e162 {R:Type} (c:C162):Ent R:=eG [.aC (.cL 66 ty66),.aF 115 [.cP 2500]] [.oB 2500 31 [.cL 94 ty94,.cL 98 ty98,.cL 103 ty103]] fun v k=>ob (c v.1 v.2.1 v.2.2.1 v.2.2.2.1) (K10 k)
abbrev Sp162 (c:C162):Prop:=∀ (p0:L66) (p1:L94) (p2:L98) (p3:L103) (y:Int×L94×L98×L103),c p0 p1 p2 p3=some y→Spec Tryz.prog gl0 162 [.c (.list 66 ty66 p0),.fn 115 [.ptr 2500 0]] [(2500,.box 31 [.list 94 ty94 p1,.list 98 ty98 p2,.list 103 ty103 p3])] (.c (.int .i64 y.1)) [(2500,.box 31 [.list 94 ty94 y.2.1,.list 98 ty98 y.2.2.1,.list 103 ty103 y.2.2.2])]
theorem ek162 {R:Type} {c:C162} (hs:Sp162 c):EOk 162 (e162 (R:=R) c):=qam fun v=>hs v.1 v.2.1 v.2.2.1 v.2.2.2.1
theorem sf162 {c115:C115} (h115:Sp115 c115):Sp162 (F162 c115):=fun p0 p1 p2 p3 y hy=>by
 refine qai (qac (ek115 h115) qah) 1000000 (fn:=Tryz.f162) (by kernel_rfl) (by kernel_rfl) (X:=X162) (by kernel_rfl) ?_
 rw [eq162]
 exact (nt162 Ops.std c115 p0 p1 p2 p3 _ _ some (K10 k0) (rr162 c115 p0 p1 p2 p3 k0 1000000) none).trans (by show ob (F162 c115 p0 p1 p2 p3) _=_;rw [hy];rfl)
noncomputable def M162:C162:=F162 M115
theorem sm162:Sp162 M162:=sf162 sm115
def X114:Aux:=⟨[],[]⟩
def T114 {R:Type} (B:Ops) (c162:C162) (c115:C115) (p0:L66) (p1:L94) (p2:L98) (p3:L103) (k:(Bool×L94×L98×L103)→Option R):Option R:=ob (c162 p0 p1 p2 p3) fun y0=>k (B.le 0 y0.1,y0.2.1,y0.2.2.1,y0.2.2.2)
abbrev K11 {R:Type} (k:AV→Objs→Option R) (y:(Bool×L94×L98×L103)):Option R:=k (.c (.bool y.1)) [(2500,.box 31 [.list 94 ty94 y.2.1,.list 98 ty98 y.2.2.1,.list 103 ty103 y.2.2.2])]
theorem eq114 {R:Type} (B:Ops) (c162:C162) (c115:C115) (p0:L66) (p1:L94) (p2:L98) (p3:L103) (k:AV→Objs→Option R) (n:Nat):afun tau B gl0 X114 (ent 162 (e162 c162) (ent 115 (e115 c115) gnil)) ow Tryz.f114 [.c (.list 66 ty66 p0),.fn 115 [.ptr 2500 0]] [(2500,.box 31 [.list 94 ty94 p1,.list 98 ty98 p2,.list 103 ty103 p3])] k n=T114 B c162 c115 p0 p1 p2 p3 (K11 k):=by kernel_rfl
theorem nt114 {R R':Type} (B:Ops) (c162:C162) (c115:C115) (p0:L66) (p1:L94) (p2:L98) (p3:L103) (k0:(Bool×L94×L98×L103)→Option R') (k:R'→Option R):T114 B c162 c115 p0 p1 p2 p3 (fun y=>ob (k0 y) k)=ob (T114 B c162 c115 p0 p1 p2 p3 k0) k:=by
 unfold T114
 repeat' first | exact rfl | apply qae | (apply qaj;intro)
def F114 (c162:C162) (c115:C115) (p0:L66) (p1:L94) (p2:L98) (p3:L103):Option (Bool×L94×L98×L103):=T114 Ops.std c162 c115 p0 p1 p2 p3 some
abbrev C114:Type:=L66→L94→L98→L103→Option (Bool×L94×L98×L103)
def e114 {R:Type} (c:C114):Ent R:=eG [.aC (.cL 66 ty66),.aF 115 [.cP 2500]] [.oB 2500 31 [.cL 94 ty94,.cL 98 ty98,.cL 103 ty103]] fun v k=>ob (c v.1 v.2.1 v.2.2.1 v.2.2.2.1) (K11 k)
abbrev Sp114 (c:C114):Prop:=∀ (p0:L66) (p1:L94) (p2:L98) (p3:L103) (y:Bool×L94×L98×L103),c p0 p1 p2 p3=some y→Spec Tryz.prog gl0 114 [.c (.list 66 ty66 p0),.fn 115 [.ptr 2500 0]] [(2500,.box 31 [.list 94 ty94 p1,.list 98 ty98 p2,.list 103 ty103 p3])] (.c (.bool y.1)) [(2500,.box 31 [.list 94 ty94 y.2.1,.list 98 ty98 y.2.2.1,.list 103 ty103 y.2.2.2])]
theorem ek114 {R:Type} {c:C114} (hs:Sp114 c):EOk 114 (e114 (R:=R) c):=qam fun v=>hs v.1 v.2.1 v.2.2.1 v.2.2.2.1
theorem sf114 {c162:C162} {c115:C115} (h162:Sp162 c162) (h115:Sp115 c115):Sp114 (F114 c162 c115):=fun p0 p1 p2 p3 y hy=>by
 refine qai (qac (ek162 h162) (qac (ek115 h115) qah)) 1000000 (fn:=Tryz.f114) (by kernel_rfl) (by kernel_rfl) (X:=X114) (by kernel_rfl) ?_
 rw [eq114]
 exact (nt114 Ops.std c162 c115 p0 p1 p2 p3 some (K11 k0)).trans (by show ob (F114 c162 c115 p0 p1 p2 p3) _=_;rw [hy];rfl)
noncomputable def M114:C114:=F114 M162 M115
theorem sm114:Sp114 M114:=sf114 sm162 sm115
def X67:Aux:=⟨[],[]⟩
def T67 {R:Type} (B:Ops) (c115:C115) (c114:C114) (c95:C95) (p0:L94) (p1:L98) (p2:L103) (p3:L66) (k:(Bool)→Option R):Option R:=ob (c114 p3 p0 p1 p2) fun y0=>ob (c95 p3) fun y1=>cond (y1) (k (!y0.1)) (k false)
theorem eq67 {R:Type} (B:Ops) (c115:C115) (c114:C114) (c95:C95) (p0:L94) (p1:L98) (p2:L103) (p3:L66) (k:AV→Objs→Option R) (n:Nat):afun tau B gl0 X67 (ent 115 (e115 c115) (ent 114 (e114 c114) (ent 95 (e95 c95) gnil))) ow Tryz.f67 [.agg [.list 94 ty94 p0,.list 98 ty98 p1,.list 103 ty103 p2],.c (.list 66 ty66 p3)] [] k n=T67 B c115 c114 c95 p0 p1 p2 p3 (K2 k):=by kernel_rfl
theorem nt67 {R R':Type} (B:Ops) (c115:C115) (c114:C114) (c95:C95) (p0:L94) (p1:L98) (p2:L103) (p3:L66) (k0:(Bool)→Option R') (k:R'→Option R):T67 B c115 c114 c95 p0 p1 p2 p3 (fun y=>ob (k0 y) k)=ob (T67 B c115 c114 c95 p0 p1 p2 p3 k0) k:=by
 unfold T67
 repeat' first | exact rfl | apply qae | (apply qaj;intro)
def F67 (c115:C115) (c114:C114) (c95:C95) (p0:L94) (p1:L98) (p2:L103) (p3:L66):Option (Bool):=T67 Ops.std c115 c114 c95 p0 p1 p2 p3 some
abbrev C67:Type:=L94→L98→L103→L66→Option (Bool)
def e67 {R:Type} (c:C67):Ent R:=eG [.aG [.cL 94 ty94,.cL 98 ty98,.cL 103 ty103],.aC (.cL 66 ty66)] [] fun v k=>ob (c v.1 v.2.1 v.2.2.1 v.2.2.2.1) (K2 k)
abbrev Sp67 (c:C67):Prop:=∀ (p0:L94) (p1:L98) (p2:L103) (p3:L66) (y:Bool),c p0 p1 p2 p3=some y→Spec Tryz.prog gl0 67 [.agg [.list 94 ty94 p0,.list 98 ty98 p1,.list 103 ty103 p2],.c (.list 66 ty66 p3)] [] (.c (.bool y)) []
theorem ek67 {R:Type} {c:C67} (hs:Sp67 c):EOk 67 (e67 (R:=R) c):=qam fun v=>hs v.1 v.2.1 v.2.2.1 v.2.2.2.1
theorem sf67 {c115:C115} {c114:C114} {c95:C95} (h115:Sp115 c115) (h114:Sp114 c114) (h95:Sp95 c95):Sp67 (F67 c115 c114 c95):=fun p0 p1 p2 p3 y hy=>by
 refine qai (qac (ek115 h115) (qac (ek114 h114) (qac (ek95 h95) qah))) 1000000 (fn:=Tryz.f67) (by kernel_rfl) (by kernel_rfl) (X:=X67) (by kernel_rfl) ?_
 rw [eq67]
 exact (nt67 Ops.std c115 c114 c95 p0 p1 p2 p3 some (K2 k0)).trans (by show ob (F67 c115 c114 c95 p0 p1 p2 p3) _=_;rw [hy];rfl)
noncomputable def M67:C67:=F67 M115 M114 M95
theorem sm67:Sp67 M67:=sf67 sm115 sm114 sm95
def X29:Aux:=⟨[],[]⟩
def T29 {R:Type} (B:Ops) (p0 p1:Int) (k:(Int)→Option R):Option R:=cond (B.eq p1 0) none (cond (B.lt (Int.tmod p0 p1) 0) (k (IntKind.wrap .i64 (Int.tmod p0 p1+p1))) (k (Int.tmod p0 p1)))
theorem eq29 {R:Type} (B:Ops) (p0 p1:Int) (k:AV→Objs→Option R) (n:Nat):afun tau B gl0 X29 gnil ow Tryz.f29 [.c (.int .i64 p0),.c (.int .i64 p1)] [] k n=T29 B p0 p1 (K1 k):=by kernel_rfl
theorem nt29 {R R':Type} (B:Ops) (p0 p1:Int) (k0:(Int)→Option R') (k:R'→Option R):T29 B p0 p1 (fun y=>ob (k0 y) k)=ob (T29 B p0 p1 k0) k:=by
 unfold T29
 repeat' first | exact rfl | apply qae | (apply qaj;intro)
def F29 (p0 p1:Int):Option (Int):=T29 Ops.std p0 p1 some
abbrev C29:Type:=Int→Int→Option (Int)
def e29 {R:Type} (c:C29):Ent R:=eG [.aC (.cI .i64),.aC (.cI .i64)] [] fun v k=>ob (c v.1 v.2.1) (K1 k)
abbrev Sp29 (c:C29):Prop:=∀ (p0 p1 y:Int),c p0 p1=some y→Spec Tryz.prog gl0 29 [.c (.int .i64 p0),.c (.int .i64 p1)] [] (.c (.int .i64 y)) []
theorem ek29 {R:Type} {c:C29} (hs:Sp29 c):EOk 29 (e29 (R:=R) c):=qam fun v=>hs v.1 v.2.1
theorem sf29:Sp29 (F29):=fun p0 p1 y hy=>by
 refine qai qah 1000000 (fn:=Tryz.f29) (by kernel_rfl) (by kernel_rfl) (X:=X29) (by kernel_rfl) ?_
 rw [eq29]
 exact (nt29 Ops.std p0 p1 some (K1 k0)).trans (by show ob (F29 p0 p1) _=_;rw [hy];rfl)
noncomputable def M29:C29:=F29
theorem sm29:Sp29 M29:=sf29
abbrev C182:Type:=Int→Option (LB)
def e182 {R:Type} (c:C182):Ent R:=eG [.aC (.cI .u64)] [] fun v k=>ob (c v.1) (K3 k)
abbrev Sp182 (c:C182):Prop:=∀ (p0:Int) (y:LB),c p0=some y→Spec Tryz.prog gl0 182 [.c (.int .u64 p0)] [] (.c (.str y)) []
theorem ek182 {R:Type} {c:C182} (hs:Sp182 c):EOk 182 (e182 (R:=R) c):=qam fun v=>hs v.1
end Go.Proofs.YtccnmhdgghjgoaaGreatDoor.Av
