/- Twins of functions,printed by gen.py. Conditions: none. -/
import Derived.Test.YtkmpkebaloejhaaGreatDoorCl1
import Derived.Test.YtkmpkebaloejhaaGreatDoorItoa
import Derived.KernelRfl
set_option linter.unusedSimpArgs false
set_option linter.unusedVariables false
set_option maxRecDepth 100000
set_option maxHeartbeats 8000000
namespace Go.Proofs.YtkmpkebaloejhaaGreatDoor.Av
open Go
abbrev LB:=List UInt8
abbrev rg:=List.range'
abbrev L3:=List ty3.den
abbrev L5:=List ty5.den
abbrev L9:=List ty9.den
abbrev L22:=List ty22.den
abbrev L52:=List ty52.den
abbrev L61:=List ty61.den
abbrev L63:=List ty63.den
abbrev L77:=List ty77.den
abbrev L82:=List ty82.den
abbrev L97:=List ty97.den
abbrev L101:=List ty101.den
abbrev L104:=List ty104.den
abbrev L122:=List ty122.den
abbrev L156:=List ty156.den
abbrev L172:=List ty172.den
abbrev oE {R:Type} (l:List AV) (o:Objs) (x:Option R):Option R:=oNil l <| oNilO o <| x
theorem oE_some {R:Type} {l:List AV} {o:Objs} {x:Option R} {r:R} (h:oE l o x=some r):l=[]∧o=[]∧x=some r:=by
 obtain ⟨rfl,q1⟩:=oNil_some h
 obtain ⟨rfl,q2⟩:=oNilO_some q1
 exact ⟨rfl,rfl,q2⟩
abbrev oL {R:Type} (l:List AV) (n:Nat) (t:Ty) (f:List t.den→List AV→Option R):Option R:=oCons l fun a l=>oC a fun x=>cList n t x fun p=>f p l
theorem oL_some {R:Type} {l:List AV} {n:Nat} {t:Ty} {f:List t.den→List AV→Option R} {r:R} (h:oL l n t f=some r):∃ p l',l=.c (.list n t p)::l'∧f p l'=some r:=by
 obtain ⟨a,l',rfl,q1⟩:=qdn h
 obtain ⟨x,rfl,q2⟩:=oC_some q1
 obtain ⟨p,rfl,q3⟩:=cList_some q2
 exact ⟨p,l',rfl,q3⟩
abbrev oI {R:Type} (l:List AV) (n:IntKind) (f:Int→List AV→Option R):Option R:=oCons l fun a l=>oC a fun x=>cInt n x fun p=>f p l
theorem oI_some {R:Type} {l:List AV} {n:IntKind} {f:Int→List AV→Option R} {r:R} (h:oI l n f=some r):∃ p l',l=.c (.int n p)::l'∧f p l'=some r:=by
 obtain ⟨a,l',rfl,q1⟩:=qdn h
 obtain ⟨x,rfl,q2⟩:=oC_some q1
 obtain ⟨p,rfl,q3⟩:=cInt_some q2
 exact ⟨p,l',rfl,q3⟩
abbrev oS {R:Type} (l:List AV) (f:LB→List AV→Option R):Option R:=oCons l fun a l=>oC a fun x=>cStr x fun p=>f p l
theorem oS_some {R:Type} {l:List AV} {f:LB→List AV→Option R} {r:R} (h:oS l f=some r):∃ p l',l=.c (.str p)::l'∧f p l'=some r:=by
 obtain ⟨a,l',rfl,q1⟩:=qdn h
 obtain ⟨x,rfl,q2⟩:=oC_some q1
 obtain ⟨p,rfl,q3⟩:=cStr_some q2
 exact ⟨p,l',rfl,q3⟩
inductive Dc where
 | cI (k:IntKind)
 | cB
 | cS
 | cL (e:Nat) (t:Ty)
 | cO (i:Nat)
 | cP (i:Nat)
 | cN
abbrev Dc.ty (d:Dc) (A:Type):Type:=match d with
 | .cI _=>Int×A
 | .cB=>Bool×A
 | .cS=>LB×A
 | .cL _ t=>List t.den×A
 | _=>A
def Dc.mk (d:Dc) {A:Type} (x:CV) (r:Option A):Option (d.ty A):=match d with
 | .cI k=>match x with
   | .int k' n=>if k'=k then ob r fun a=>some (n,a) else none
   | _=>none
 | .cB=>match x with
   | .bool n=>ob r fun a=>some (n,a)
   | _=>none
 | .cS=>match x with
   | .str n=>ob r fun a=>some (n,a)
   | _=>none
 | .cL e t=>match x with
   | .list e' t' xs=>match Ty.same t' t with
     | some ⟨h⟩=>bif Nat.beq e' e then ob r fun a=>some (h ▸ xs,a) else none
     | none=>none
   | _=>none
 | .cO i=>match x with
   | .own j=>bif Nat.beq j i then r else none
   | _=>none
 | .cP i=>match x with
   | .ptr j 0=>bif Nat.beq j i then r else none
   | _=>none
 | .cN=>match x with
   | .nil=>r
   | _=>none
abbrev Dc.to (d:Dc) {A:Type} (v:d.ty A):CV:=match d,v with
 | .cI k,v=>.int k v.1
 | .cB,v=>.bool v.1
 | .cS,v=>.str v.1
 | .cL e t,v=>.list e t v.1
 | .cO i,_=>.own i
 | .cP i,_=>.ptr i 0
 | .cN,_=>.nil
abbrev Dc.re (d:Dc) {A:Type} (v:d.ty A):A:=match d,v with
 | .cI _,v=>v.2
 | .cB,v=>v.2
 | .cS,v=>v.2
 | .cL _ _,v=>v.2
 | .cO _,v=>v
 | .cP _,v=>v
 | .cN,v=>v
theorem Dc.ok {d:Dc} {A:Type} {x:CV} {r:Option A} {v:d.ty A} (h:d.mk x r=some v):x=d.to v∧r=some (d.re v):=by
 cases d with
 | cI k=>
   simp only [Dc.mk] at h
   split at h
   ·split at h
    ·rename_i hk;subst hk;obtain ⟨a,h1,h2⟩:=qdm h;cases h2;exact ⟨rfl,h1⟩
    ·cases h
   ·cases h
 | cB=>
   simp only [Dc.mk] at h
   split at h
   ·obtain ⟨a,h1,h2⟩:=qdm h;cases h2;exact ⟨rfl,h1⟩
   ·cases h
 | cS=>
   simp only [Dc.mk] at h
   split at h
   ·obtain ⟨a,h1,h2⟩:=qdm h;cases h2;exact ⟨rfl,h1⟩
   ·cases h
 | cL e t=>
   simp only [Dc.mk] at h
   split at h
   ·split at h
    ·rename_i e' t' xs _ hs heq
     subst hs
     cases hb:Nat.beq e' e with
     | false=>rw [hb] at h;cases h
     | true=>
       rw [hb] at h
       have:=Nat.eq_of_beq_eq_true hb
       subst this
       obtain ⟨a,h1,h2⟩:=qdm h;cases h2;exact ⟨rfl,h1⟩
    ·cases h
   ·cases h
 | cO i=>
   simp only [Dc.mk] at h
   split at h
   ·rename_i j
    cases hb:Nat.beq j i with
    | false=>rw [hb] at h;cases h
    | true=>rw [hb] at h;have:=Nat.eq_of_beq_eq_true hb;subst this;exact ⟨rfl,h⟩
   ·cases h
 | cP i=>
   simp only [Dc.mk] at h
   split at h
   ·rename_i j
    cases hb:Nat.beq j i with
    | false=>rw [hb] at h;cases h
    | true=>rw [hb] at h;have:=Nat.eq_of_beq_eq_true hb;subst this;exact ⟨rfl,h⟩
   ·cases h
 | cN=>
   simp only [Dc.mk] at h
   split at h
   ·exact ⟨rfl,h⟩
   ·cases h
abbrev Dl.ty:List Dc→Type→Type
 | [],A=>A
 | d::l,A=>d.ty (Dl.ty l A)
def Dl.mk:(l:List Dc)→{A:Type}→List CV→Option A→Option (Dl.ty l A)
 | [],_,[],r=>r
 | d::l,_,x::xs,r=>d.mk x (Dl.mk l xs r)
 | [],_,_::_,_=>none
 | _::_,_,[],_=>none
abbrev Dl.to:(l:List Dc)→{A:Type}→Dl.ty l A→List CV
 | [],_,_=>[]
 | d::l,_,v=>d.to v::Dl.to l (d.re v)
abbrev Dl.re:(l:List Dc)→{A:Type}→Dl.ty l A→A
 | [],_,v=>v
 | d::l,_,v=>Dl.re l (d.re v)
theorem Dl.ok:∀ {l:List Dc} {A:Type} {xs:List CV} {r:Option A} {v:Dl.ty l A},Dl.mk l xs r=some v→xs=Dl.to l v∧r=some (Dl.re l v)
 | [],_,[],_,_,h=>⟨rfl,h⟩
 | d::l,_,x::xs,_,_,h=>by
   obtain ⟨h1,h2⟩:=Dc.ok h
   obtain ⟨h3,h4⟩:=Dl.ok h2
   exact ⟨by rw [h1,h3],h4⟩
 | [],_,_::_,_,_,h=>by cases h
 | _::_,_,[],_,_,h=>by cases h
inductive Da where
 | aC (d:Dc)
 | aG (l:List Dc)
 | aF (n:Nat) (l:List Dc)
 | aM (n:Nat) (l:List Dc)
abbrev Da.ty (d:Da) (A:Type):Type:=match d with
 | .aC d=>d.ty A
 | .aG l=>Dl.ty l A
 | .aF _ l=>Dl.ty l A
 | .aM _ l=>Dl.ty l A
def Da.mk (d:Da) {A:Type} (x:AV) (r:Option A):Option (d.ty A):=match d with
 | .aC d=>match x with
   | .c x=>d.mk x r
   | _=>none
 | .aG l=>match x with
   | .agg x=>Dl.mk l x r
   | _=>none
 | .aF n l=>match x with
   | .fn k x=>bif Nat.beq k n then Dl.mk l x r else none
   | _=>none
 | .aM n l=>match x with
   | .bm k x=>bif Nat.beq k n then Dl.mk l x r else none
   | _=>none
abbrev Da.to (d:Da) {A:Type} (v:d.ty A):AV:=match d,v with
 | .aC d,v=>.c (d.to v)
 | .aG l,v=>.agg (Dl.to l v)
 | .aF n l,v=>.fn n (Dl.to l v)
 | .aM n l,v=>.bm n (Dl.to l v)
abbrev Da.re (d:Da) {A:Type} (v:d.ty A):A:=match d,v with
 | .aC d,v=>d.re v
 | .aG l,v=>Dl.re l v
 | .aF _ l,v=>Dl.re l v
 | .aM _ l,v=>Dl.re l v
theorem Da.ok {d:Da} {A:Type} {x:AV} {r:Option A} {v:d.ty A} (h:d.mk x r=some v):x=d.to v∧r=some (d.re v):=by
 cases d with
 | aC d=>
   simp only [Da.mk] at h
   split at h
   ·obtain ⟨h1,h2⟩:=Dc.ok h;exact ⟨by rw [h1],h2⟩
   ·cases h
 | aG l=>
   simp only [Da.mk] at h
   split at h
   ·obtain ⟨h1,h2⟩:=Dl.ok h;exact ⟨by rw [h1],h2⟩
   ·cases h
 | aF n l=>
   simp only [Da.mk] at h
   split at h
   ·rename_i k x
    cases hb:Nat.beq k n with
    | false=>rw [hb] at h;cases h
    | true=>rw [hb] at h;have:=Nat.eq_of_beq_eq_true hb;subst this;obtain ⟨h1,h2⟩:=Dl.ok h;exact ⟨by rw [h1],h2⟩
   ·cases h
 | aM n l=>
   simp only [Da.mk] at h
   split at h
   ·rename_i k x
    cases hb:Nat.beq k n with
    | false=>rw [hb] at h;cases h
    | true=>rw [hb] at h;have:=Nat.eq_of_beq_eq_true hb;subst this;obtain ⟨h1,h2⟩:=Dl.ok h;exact ⟨by rw [h1],h2⟩
   ·cases h
abbrev Ds.ty:List Da→Type→Type
 | [],A=>A
 | d::l,A=>d.ty (Ds.ty l A)
def Ds.mk:(l:List Da)→{A:Type}→List AV→Option A→Option (Ds.ty l A)
 | [],_,[],r=>r
 | d::l,_,x::xs,r=>d.mk x (Ds.mk l xs r)
 | [],_,_::_,_=>none
 | _::_,_,[],_=>none
abbrev Ds.to:(l:List Da)→{A:Type}→Ds.ty l A→List AV
 | [],_,_=>[]
 | d::l,_,v=>d.to v::Ds.to l (d.re v)
abbrev Ds.re:(l:List Da)→{A:Type}→Ds.ty l A→A
 | [],_,v=>v
 | d::l,_,v=>Ds.re l (d.re v)
theorem Ds.ok:∀ {l:List Da} {A:Type} {xs:List AV} {r:Option A} {v:Ds.ty l A},Ds.mk l xs r=some v→xs=Ds.to l v∧r=some (Ds.re l v)
 | [],_,[],_,_,h=>⟨rfl,h⟩
 | d::l,_,x::xs,_,_,h=>by
   obtain ⟨h1,h2⟩:=Da.ok h
   obtain ⟨h3,h4⟩:=Ds.ok h2
   exact ⟨by rw [h1,h3],h4⟩
 | [],_,_::_,_,_,h=>by cases h
 | _::_,_,[],_,_,h=>by cases h
inductive Do where
 | oR (k e:Nat) (t:Ty)
 | oB (k e:Nat) (l:List Dc)
abbrev Do.ty (d:Do) (A:Type):Type:=match d with
 | .oR _ _ t=>List t.den×A
 | .oB _ _ l=>Dl.ty l A
def Do.mk (d:Do) {A:Type} (x:Nat×Obj) (r:Option A):Option (d.ty A):=match d with
 | .oR k e t=>match x with
   | (k',.row e' t' xs)=>bif Nat.beq k' k then (Dc.cL e t).mk (.list e' t' xs) r else none
   | _=>none
 | .oB k e l=>match x with
   | (k',.box e' x)=>bif Nat.beq k' k && Nat.beq e' e then Dl.mk l x r else none
   | _=>none
abbrev Do.to (d:Do) {A:Type} (v:d.ty A):Nat×Obj:=match d,v with
 | .oR k e t,v=>(k,.row e t v.1)
 | .oB k e l,v=>(k,.box e (Dl.to l v))
abbrev Do.re (d:Do) {A:Type} (v:d.ty A):A:=match d,v with
 | .oR _ _ _,v=>v.2
 | .oB _ _ l,v=>Dl.re l v
theorem Do.ok {d:Do} {A:Type} {x:Nat×Obj} {r:Option A} {v:d.ty A} (h:d.mk x r=some v):x=d.to v∧r=some (d.re v):=by
 cases d with
 | oR k e t=>
   simp only [Do.mk] at h
   split at h
   ·rename_i k' e' t' xs
    cases hb:Nat.beq k' k with
    | false=>rw [hb] at h;cases h
    | true=>
      rw [hb] at h
      have:=Nat.eq_of_beq_eq_true hb
      subst this
      have h:(Dc.cL e t).mk (.list e' t' xs) r=some v:=h
      obtain ⟨h1,h2⟩:=Dc.ok h
      have h1:CV.list e' t' xs=.list e t v.1:=h1
      cases h1
      exact ⟨rfl,h2⟩
   ·cases h
 | oB k e l=>
   simp only [Do.mk] at h
   split at h
   ·rename_i k' e' x
    cases hb:(Nat.beq k' k && Nat.beq e' e) with
    | false=>rw [hb] at h;cases h
    | true=>
      rw [hb] at h
      simp only [Bool.and_eq_true] at hb
      have:=Nat.eq_of_beq_eq_true hb.1
      subst this
      have:=Nat.eq_of_beq_eq_true hb.2
      subst this
      obtain ⟨h1,h2⟩:=Dl.ok h
      exact ⟨by rw [h1],h2⟩
   ·cases h
abbrev Dp.ty:List Do→Type
 | []=>Unit
 | d::l=>d.ty (Dp.ty l)
def Dp.mk:(l:List Do)→Objs→Option (Dp.ty l)
 | [],[]=>some ()
 | d::l,x::xs=>d.mk x (Dp.mk l xs)
 | [],_::_=>none
 | _::_,[]=>none
abbrev Dp.to:(l:List Do)→Dp.ty l→Objs
 | [],_=>[]
 | d::l,v=>d.to v::Dp.to l (d.re v)
theorem Dp.ok:∀ {l:List Do} {xs:Objs} {v:Dp.ty l},Dp.mk l xs=some v→xs=Dp.to l v
 | [],[],_,_=>rfl
 | d::l,x::xs,_,h=>by
   obtain ⟨h1,h2⟩:=Do.ok h
   rw [h1,Dp.ok h2]
 | [],_::_,_,h=>by cases h
 | _::_,[],_,h=>by cases h
/-- an entry,by what it is handed -/
def eG {R:Type} (l:List Da) (o:List Do) (g:Ds.ty l (Dp.ty o)→(AV→Objs→Option R)→Option R):Ent R:=fun a b k=>ob (Ds.mk l a (Dp.mk o b)) fun v=>g v k
theorem qak {R α:Type} {l:List Da} {o:List Do} {f:Nat} {m:Ds.ty l (Dp.ty o)→Option α} {V:α→AV} {O:α→Objs} (hs:∀ v y,m v=some y→Spec Tryz.prog gl0 f (Ds.to l v) (Dp.to o (Ds.re l v)) (V y) (O y)) :
  EOk (R:=R) f (eG l o fun v k=>ob (m v) fun y=>k (V y) (O y)):=fun args objs k r h=>by
 obtain ⟨v,h1,h2⟩:=qdm h
 obtain ⟨e1,e2⟩:=Ds.ok h1
 rw [e1,Dp.ok e2]
 exact eok_of (hs v) h2
def X25:Aux:=⟨[],[]⟩
def T25 {R:Type} (B:Ops) (p0:Int) (k:(Int)→Option R):Option R:=cond (B.eq p0 1) (k 0) (cond (B.eq p0 2) (k 0) (cond (B.eq p0 3) (k 0) (cond (B.eq p0 4) (k 1) (cond (B.eq p0 8) (k 1) (cond (B.eq p0 11) (k 1) (cond (B.eq p0 12) (k 1) (cond (B.eq p0 5) (k 2) (cond (B.eq p0 6) (k 2) (cond (B.eq p0 7) (k 2) (cond (B.eq p0 9) (k 2) (cond (B.eq p0 10) (k 2) (k (-1)))))))))))))
abbrev K1 {R:Type} (k:AV→Objs→Option R) (y:(Int)):Option R:=k (.c (.int .i64 y)) []
theorem eq25 {R:Type} (B:Ops) (p0:Int) (k:AV→Objs→Option R) (n:Nat):afun tau B gl0 X25 gnil ow Tryz.f25 [.c (.int .i64 p0)] [] k n=T25 B p0 (K1 k):=by kernel_rfl
theorem nt25 {R R':Type} (B:Ops) (p0:Int) (k0:(Int)→Option R') (k:R'→Option R):T25 B p0 (fun y=>ob (k0 y) k)=ob (T25 B p0 k0) k:=by
 unfold T25
 repeat' first | exact rfl | apply qac | (apply qai;intro)
def F25 (p0:Int):Option (Int):=T25 Ops.std p0 some
abbrev C25:Type:=Int→Option (Int)
def e25 {R:Type} (c:C25):Ent R:=eG [.aC (.cI .i64)] [] fun v k=>ob (c v.1) (K1 k)
abbrev Sp25 (c:C25):Prop:=∀ (p0 y:Int),c p0=some y→Spec Tryz.prog gl0 25 [.c (.int .i64 p0)] [] (.c (.int .i64 y)) []
theorem ek25 {R:Type} {c:C25} (hs:Sp25 c):EOk 25 (e25 (R:=R) c):=qak fun v=>hs v.1
theorem sf25:Sp25 (F25):=fun p0 y hy=>by
 refine qae qad 1000000 (fn:=Tryz.f25) (by kernel_rfl) (by kernel_rfl) (X:=X25) (by kernel_rfl) ?_
 rw [eq25]
 exact (nt25 Ops.std p0 some (K1 k0)).trans (by show ob (F25 p0) _=_;rw [hy];rfl)
noncomputable def M25:C25:=F25
theorem sm25:Sp25 M25:=sf25
def X59:Aux:=⟨[],[]⟩
def T59 {R:Type} (B:Ops) (p0:Int) (k:(Int)→Option R):Option R:=cond (B.lt p0 1) (k (-1)) (cond (B.lt 16 p0) (k (-1)) (cond (B.le p0 3) (k 0) (cond (B.le p0 5) (k 1) (k 2))))
theorem eq59 {R:Type} (B:Ops) (p0:Int) (k:AV→Objs→Option R) (n:Nat):afun tau B gl0 X59 gnil ow Tryz.f59 [.c (.int .i64 p0)] [] k n=T59 B p0 (K1 k):=by kernel_rfl
theorem nt59 {R R':Type} (B:Ops) (p0:Int) (k0:(Int)→Option R') (k:R'→Option R):T59 B p0 (fun y=>ob (k0 y) k)=ob (T59 B p0 k0) k:=by
 unfold T59
 repeat' first | exact rfl | apply qac | (apply qai;intro)
def F59 (p0:Int):Option (Int):=T59 Ops.std p0 some
abbrev C59:Type:=Int→Option (Int)
def e59 {R:Type} (c:C59):Ent R:=eG [.aC (.cI .i64)] [] fun v k=>ob (c v.1) (K1 k)
abbrev Sp59 (c:C59):Prop:=∀ (p0 y:Int),c p0=some y→Spec Tryz.prog gl0 59 [.c (.int .i64 p0)] [] (.c (.int .i64 y)) []
theorem ek59 {R:Type} {c:C59} (hs:Sp59 c):EOk 59 (e59 (R:=R) c):=qak fun v=>hs v.1
theorem sf59:Sp59 (F59):=fun p0 y hy=>by
 refine qae qad 1000000 (fn:=Tryz.f59) (by kernel_rfl) (by kernel_rfl) (X:=X59) (by kernel_rfl) ?_
 rw [eq59]
 exact (nt59 Ops.std p0 some (K1 k0)).trans (by show ob (F59 p0) _=_;rw [hy];rfl)
noncomputable def M59:C59:=F59
theorem sm59:Sp59 M59:=sf59
def X110:Aux:=⟨[],[]⟩
def T110 {R:Type} (B:Ops) (p0:Int) (k:(Bool)→Option R):Option R:=cond (B.le 97 p0) (cond (B.le p0 122) (k true) (k (B.eq p0 95))) (k (B.eq p0 95))
abbrev K2 {R:Type} (k:AV→Objs→Option R) (y:(Bool)):Option R:=k (.c (.bool y)) []
theorem eq110 {R:Type} (B:Ops) (p0:Int) (k:AV→Objs→Option R) (n:Nat):afun tau B gl0 X110 gnil ow Tryz.f110 [.c (.int .u8 p0)] [] k n=T110 B p0 (K2 k):=by kernel_rfl
theorem nt110 {R R':Type} (B:Ops) (p0:Int) (k0:(Bool)→Option R') (k:R'→Option R):T110 B p0 (fun y=>ob (k0 y) k)=ob (T110 B p0 k0) k:=by
 unfold T110
 repeat' first | exact rfl | apply qac | (apply qai;intro)
def F110 (p0:Int):Option (Bool):=T110 Ops.std p0 some
abbrev C110:Type:=Int→Option (Bool)
def e110 {R:Type} (c:C110):Ent R:=eG [.aC (.cI .u8)] [] fun v k=>ob (c v.1) (K2 k)
abbrev Sp110 (c:C110):Prop:=∀ (p0:Int) (y:Bool),c p0=some y→Spec Tryz.prog gl0 110 [.c (.int .u8 p0)] [] (.c (.bool y)) []
theorem ek110 {R:Type} {c:C110} (hs:Sp110 c):EOk 110 (e110 (R:=R) c):=qak fun v=>hs v.1
theorem sf110:Sp110 (F110):=fun p0 y hy=>by
 refine qae qad 1000000 (fn:=Tryz.f110) (by kernel_rfl) (by kernel_rfl) (X:=X110) (by kernel_rfl) ?_
 rw [eq110]
 exact (nt110 Ops.std p0 some (K2 k0)).trans (by show ob (F110 p0) _=_;rw [hy];rfl)
noncomputable def M110:C110:=F110
theorem sm110:Sp110 M110:=sf110
def X107:Aux:=⟨[],[]⟩
def T107 {R:Type} (B:Ops) (p0:Int) (k:(Bool)→Option R):Option R:=cond (B.le 48 p0) (k (B.le p0 57)) (k false)
theorem eq107 {R:Type} (B:Ops) (p0:Int) (k:AV→Objs→Option R) (n:Nat):afun tau B gl0 X107 gnil ow Tryz.f107 [.c (.int .u8 p0)] [] k n=T107 B p0 (K2 k):=by kernel_rfl
theorem nt107 {R R':Type} (B:Ops) (p0:Int) (k0:(Bool)→Option R') (k:R'→Option R):T107 B p0 (fun y=>ob (k0 y) k)=ob (T107 B p0 k0) k:=by
 unfold T107
 repeat' first | exact rfl | apply qac | (apply qai;intro)
def F107 (p0:Int):Option (Bool):=T107 Ops.std p0 some
abbrev C107:Type:=Int→Option (Bool)
def e107 {R:Type} (c:C107):Ent R:=eG [.aC (.cI .u8)] [] fun v k=>ob (c v.1) (K2 k)
abbrev Sp107 (c:C107):Prop:=∀ (p0:Int) (y:Bool),c p0=some y→Spec Tryz.prog gl0 107 [.c (.int .u8 p0)] [] (.c (.bool y)) []
theorem ek107 {R:Type} {c:C107} (hs:Sp107 c):EOk 107 (e107 (R:=R) c):=qak fun v=>hs v.1
theorem sf107:Sp107 (F107):=fun p0 y hy=>by
 refine qae qad 1000000 (fn:=Tryz.f107) (by kernel_rfl) (by kernel_rfl) (X:=X107) (by kernel_rfl) ?_
 rw [eq107]
 exact (nt107 Ops.std p0 some (K2 k0)).trans (by show ob (F107 p0) _=_;rw [hy];rfl)
noncomputable def M107:C107:=F107
theorem sm107:Sp107 M107:=sf107
def X111:Aux:=⟨[],[]⟩
def T111 {R:Type} (B:Ops) (c110:C110) (c107:C107) (p0:Int) (k:(Bool)→Option R):Option R:=ob (c110 p0) fun y0=>cond (y0) (k true) (ob (c107 p0) fun y1=>k y1)
theorem eq111 {R:Type} (B:Ops) (c110:C110) (c107:C107) (p0:Int) (k:AV→Objs→Option R) (n:Nat):afun tau B gl0 X111 (ent 110 (e110 c110) (ent 107 (e107 c107) gnil)) ow Tryz.f111 [.c (.int .u8 p0)] [] k n=T111 B c110 c107 p0 (K2 k):=by kernel_rfl
theorem nt111 {R R':Type} (B:Ops) (c110:C110) (c107:C107) (p0:Int) (k0:(Bool)→Option R') (k:R'→Option R):T111 B c110 c107 p0 (fun y=>ob (k0 y) k)=ob (T111 B c110 c107 p0 k0) k:=by
 unfold T111
 repeat' first | exact rfl | apply qac | (apply qai;intro)
def F111 (c110:C110) (c107:C107) (p0:Int):Option (Bool):=T111 Ops.std c110 c107 p0 some
abbrev C111:Type:=Int→Option (Bool)
def e111 {R:Type} (c:C111):Ent R:=eG [.aC (.cI .u8)] [] fun v k=>ob (c v.1) (K2 k)
abbrev Sp111 (c:C111):Prop:=∀ (p0:Int) (y:Bool),c p0=some y→Spec Tryz.prog gl0 111 [.c (.int .u8 p0)] [] (.c (.bool y)) []
theorem ek111 {R:Type} {c:C111} (hs:Sp111 c):EOk 111 (e111 (R:=R) c):=qak fun v=>hs v.1
theorem sf111 {c110:C110} {c107:C107} (h110:Sp110 c110) (h107:Sp107 c107):Sp111 (F111 c110 c107):=fun p0 y hy=>by
 refine qae (qab (ek110 h110) (qab (ek107 h107) qad)) 1000000 (fn:=Tryz.f111) (by kernel_rfl) (by kernel_rfl) (X:=X111) (by kernel_rfl) ?_
 rw [eq111]
 exact (nt111 Ops.std c110 c107 p0 some (K2 k0)).trans (by show ob (F111 c110 c107 p0) _=_;rw [hy];rfl)
noncomputable def M111:C111:=F111 M110 M107
theorem sm111:Sp111 M111:=sf111 sm110 sm107
def X108:Aux:=⟨[(2,([2,3,4]++rg 6 16))],[]⟩
inductive S108 where
 | l0 (v1:Int)
def T108 {R:Type} (B:Ops) (c111:C111) (p0:LB) (again:S108→Option R) (k:(LB)→Option R):Option S108→Option R | none=>again (.l0 0) | some (.l0 v1)=>cond (B.lt v1 (↑p0.length)) (cond (B.inb v1 p0.length) (ob (c111 (Nat.cast (UInt8.toNat (p0.getD v1.toNat 0)))) fun y0=>cond (y0) (again (.l0 (IntKind.wrap .i64 (v1+1)))) (cond (B.inb v1 (List.length p0+1)) (k (List.drop 0 (List.take v1.toNat p0))) none)) none) (cond (B.inb v1 (List.length p0+1)) (k (List.drop 0 (List.take v1.toNat p0))) none)
def E108 (p0:LB):S108→List AV×Objs
 | .l0 v1=>(mk 22 [(0,.c (.str p0)),(1,.fn 111 []),(5,.c (.int .i64 v1))],[])
def I108:S108→Nat
 | .l0 _=>0
abbrev K3 {R:Type} (k:AV→Objs→Option R) (y:(LB)):Option R:=k (.c (.str y)) []
noncomputable abbrev A108 {R:Type} (B:Ops) (c111:C111) (p0:LB) (k:AV→Objs→Option R) (s:S108) (n:Nat):Option R:=aloop tau B gl0 X108 (ent 111 (e111 c111) gnil) ow [] Tryz.f108 k (I108 s) (E108 p0 s) n
theorem eq108 {R:Type} (B:Ops) (c111:C111) (p0:LB) (k:AV→Objs→Option R) (n:Nat):afun tau B gl0 X108 (ent 111 (e111 c111) gnil) ow Tryz.f108 [.c (.str p0),.fn 111 []] [] k n=T108 B c111 p0 (fun s=>A108 B c111 p0 k s n) (K3 k) none:=by kernel_rfl
theorem el108 {R:Type} (B:Ops) (c111:C111) (p0:LB) (k:AV→Objs→Option R) (n:Nat):∀ s,A108 B c111 p0 k s (n+1)=T108 B c111 p0 (fun s=>A108 B c111 p0 k s n) (K3 k) (some s):=by
 intro s
 cases s<;>kernel_rfl
theorem nt108 {R R':Type} (B:Ops) (c111:C111) (p0:LB) (again:S108→Option R) (again':S108→Option R') (k0:(LB)→Option R') (k:R'→Option R) (h:∀ s,again s=ob (again' s) k):∀ s,T108 B c111 p0 again (fun y=>ob (k0 y) k) s=ob (T108 B c111 p0 again' k0 s) k:=by
 rintro (_ | x)
 all_goals try cases x
 all_goals (unfold T108;repeat' first | exact rfl | exact h _ | apply qac | (apply qai;intro))
def R108 (c111:C111) (p0:LB):Nat→S108→Option (LB)
 | 0,_=>none
 | n+1,s=>T108 Ops.std c111 p0 (R108 c111 p0 n) some (some s)
theorem rr108 {R:Type} (c111:C111) (p0:LB) (k:AV→Objs→Option R):∀ (n:Nat) (s:S108),A108 Ops.std c111 p0 k s n=ob (R108 c111 p0 n s) (K3 k)
 | 0,s=>by cases s<;>rfl
 | n+1,s=>by rw [el108];exact nt108 Ops.std c111 p0 _ _ some (K3 k) (rr108 c111 p0 k n) (some s)
def F108 (c111:C111) (p0:LB):Option (LB):=T108 Ops.std c111 p0 (R108 c111 p0 1000000) some none
abbrev C108:Type:=LB→Option (LB)
def e108 {R:Type} (c:C108):Ent R:=eG [.aC .cS,.aF 111 []] [] fun v k=>ob (c v.1) (K3 k)
abbrev Sp108 (c:C108):Prop:=∀ (p0 y:LB),c p0=some y→Spec Tryz.prog gl0 108 [.c (.str p0),.fn 111 []] [] (.c (.str y)) []
theorem ek108 {R:Type} {c:C108} (hs:Sp108 c):EOk 108 (e108 (R:=R) c):=qak fun v=>hs v.1
theorem sf108 {c111:C111} (h111:Sp111 c111):Sp108 (F108 c111):=fun p0 y hy=>by
 refine qae (qab (ek111 h111) qad) 1000000 (fn:=Tryz.f108) (by kernel_rfl) (by kernel_rfl) (X:=X108) (by kernel_rfl) ?_
 rw [eq108]
 exact (nt108 Ops.std c111 p0 _ _ some (K3 k0) (rr108 c111 p0 k0 1000000) none).trans (by show ob (F108 c111 p0) _=_;rw [hy];rfl)
noncomputable def M108:C108:=F108 M111
theorem sm108:Sp108 M108:=sf108 sm111
def X185:Aux:=⟨[(2,([2,3,4]++rg 6 16))],[]⟩
inductive S185 where
 | l0 (v1:Int)
def T185 {R:Type} (B:Ops) (c107:C107) (p0:LB) (again:S185→Option R) (k:(LB)→Option R):Option S185→Option R | none=>again (.l0 0) | some (.l0 v1)=>cond (B.lt v1 (↑p0.length)) (cond (B.inb v1 p0.length) (ob (c107 (Nat.cast (UInt8.toNat (p0.getD v1.toNat 0)))) fun y0=>cond (y0) (again (.l0 (IntKind.wrap .i64 (v1+1)))) (cond (B.inb v1 (List.length p0+1)) (k (List.drop 0 (List.take v1.toNat p0))) none)) none) (cond (B.inb v1 (List.length p0+1)) (k (List.drop 0 (List.take v1.toNat p0))) none)
def E185 (p0:LB):S185→List AV×Objs
 | .l0 v1=>(mk 22 [(0,.c (.str p0)),(1,.fn 107 []),(5,.c (.int .i64 v1))],[])
def I185:S185→Nat
 | .l0 _=>0
noncomputable abbrev A185 {R:Type} (B:Ops) (c107:C107) (p0:LB) (k:AV→Objs→Option R) (s:S185) (n:Nat):Option R:=aloop tau B gl0 X185 (ent 107 (e107 c107) gnil) ow [] Tryz.f108 k (I185 s) (E185 p0 s) n
theorem eq185 {R:Type} (B:Ops) (c107:C107) (p0:LB) (k:AV→Objs→Option R) (n:Nat):afun tau B gl0 X185 (ent 107 (e107 c107) gnil) ow Tryz.f108 [.c (.str p0),.fn 107 []] [] k n=T185 B c107 p0 (fun s=>A185 B c107 p0 k s n) (K3 k) none:=by kernel_rfl
theorem el185 {R:Type} (B:Ops) (c107:C107) (p0:LB) (k:AV→Objs→Option R) (n:Nat):∀ s,A185 B c107 p0 k s (n+1)=T185 B c107 p0 (fun s=>A185 B c107 p0 k s n) (K3 k) (some s):=by
 intro s
 cases s<;>kernel_rfl
theorem nt185 {R R':Type} (B:Ops) (c107:C107) (p0:LB) (again:S185→Option R) (again':S185→Option R') (k0:(LB)→Option R') (k:R'→Option R) (h:∀ s,again s=ob (again' s) k):∀ s,T185 B c107 p0 again (fun y=>ob (k0 y) k) s=ob (T185 B c107 p0 again' k0 s) k:=by
 rintro (_ | x)
 all_goals try cases x
 all_goals (unfold T185;repeat' first | exact rfl | exact h _ | apply qac | (apply qai;intro))
def R185 (c107:C107) (p0:LB):Nat→S185→Option (LB)
 | 0,_=>none
 | n+1,s=>T185 Ops.std c107 p0 (R185 c107 p0 n) some (some s)
theorem rr185 {R:Type} (c107:C107) (p0:LB) (k:AV→Objs→Option R):∀ (n:Nat) (s:S185),A185 Ops.std c107 p0 k s n=ob (R185 c107 p0 n s) (K3 k)
 | 0,s=>by cases s<;>rfl
 | n+1,s=>by rw [el185];exact nt185 Ops.std c107 p0 _ _ some (K3 k) (rr185 c107 p0 k n) (some s)
def F185 (c107:C107) (p0:LB):Option (LB):=T185 Ops.std c107 p0 (R185 c107 p0 1000000) some none
abbrev C185:Type:=LB→Option (LB)
def e185 {R:Type} (c:C185):Ent R:=eG [.aC .cS,.aF 107 []] [] fun v k=>ob (c v.1) (K3 k)
abbrev Sp185 (c:C185):Prop:=∀ (p0 y:LB),c p0=some y→Spec Tryz.prog gl0 108 [.c (.str p0),.fn 107 []] [] (.c (.str y)) []
theorem ek185 {R:Type} {c:C185} (hs:Sp185 c):EOk 108 (e185 (R:=R) c):=qak fun v=>hs v.1
theorem sf185 {c107:C107} (h107:Sp107 c107):Sp185 (F185 c107):=fun p0 y hy=>by
 refine qae (qab (ek107 h107) qad) 1000000 (fn:=Tryz.f108) (by kernel_rfl) (by kernel_rfl) (X:=X185) (by kernel_rfl) ?_
 rw [eq185]
 exact (nt185 Ops.std c107 p0 _ _ some (K3 k0) (rr185 c107 p0 k0 1000000) none).trans (by show ob (F185 c107 p0) _=_;rw [hy];rfl)
noncomputable def M185:C185:=F185 M107
theorem sm185:Sp185 M185:=sf185 sm107
def X96:Aux:=⟨[],[]⟩
def T96 {R:Type} (B:Ops) (c110:C110) (c108:C108) (c185:C185) (c111:C111) (p0:LB) (k:(Bool)→Option R):Option R:=cond (!p0 == mt UInt8) (cond (B.le (↑p0.length) 8) (cond (B.inb 0 p0.length) (ob (c110 (Nat.cast (UInt8.toNat (p0.getD (Int.toNat 0) 0)))) fun y0=>cond (y0) (ob (c108 p0) fun y1=>k (y1 == p0)) (k false)) none) (k false)) (k false)
theorem eq96 {R:Type} (B:Ops) (c110:C110) (c108:C108) (c185:C185) (c111:C111) (p0:LB) (k:AV→Objs→Option R) (n:Nat):afun tau B gl0 X96 (ent 110 (e110 c110) (ent 108 (eAlt 1 111 (e108 c108) (e185 c185)) (ent 111 (e111 c111) gnil))) ow Tryz.f96 [.c (.str p0)] [] k n=T96 B c110 c108 c185 c111 p0 (K2 k):=by kernel_rfl
theorem nt96 {R R':Type} (B:Ops) (c110:C110) (c108:C108) (c185:C185) (c111:C111) (p0:LB) (k0:(Bool)→Option R') (k:R'→Option R):T96 B c110 c108 c185 c111 p0 (fun y=>ob (k0 y) k)=ob (T96 B c110 c108 c185 c111 p0 k0) k:=by
 unfold T96
 repeat' first | exact rfl | apply qac | (apply qai;intro)
def F96 (c110:C110) (c108:C108) (c185:C185) (c111:C111) (p0:LB):Option (Bool):=T96 Ops.std c110 c108 c185 c111 p0 some
abbrev C96:Type:=LB→Option (Bool)
def e96 {R:Type} (c:C96):Ent R:=eG [.aC .cS] [] fun v k=>ob (c v.1) (K2 k)
abbrev Sp96 (c:C96):Prop:=∀ (p0:LB) (y:Bool),c p0=some y→Spec Tryz.prog gl0 96 [.c (.str p0)] [] (.c (.bool y)) []
theorem ek96 {R:Type} {c:C96} (hs:Sp96 c):EOk 96 (e96 (R:=R) c):=qak fun v=>hs v.1
theorem sf96 {c110:C110} {c108:C108} {c185:C185} {c111:C111} (h110:Sp110 c110) (h108:Sp108 c108) (h185:Sp185 c185) (h111:Sp111 c111):Sp96 (F96 c110 c108 c185 c111):=fun p0 y hy=>by
 refine qae (G:=ent 110 (e110 c110) (ent 108 (eAlt 1 111 (e108 c108) (e185 c185)) (ent 111 (e111 c111) gnil))) (qab (ek110 h110) (qab (eAlt_ok (ek108 h108) (ek185 h185)) (qab (ek111 h111) qad))) 1000000 (fn:=Tryz.f96) (by kernel_rfl) (by kernel_rfl) (X:=X96) (by kernel_rfl) ?_
 rw [eq96]
 exact (nt96 Ops.std c110 c108 c185 c111 p0 some (K2 k0)).trans (by show ob (F96 c110 c108 c185 c111 p0) _=_;rw [hy];rfl)
noncomputable def M96:C96:=F96 M110 M108 M185 M111
theorem sm96:Sp96 M96:=sf96 sm110 sm108 sm185 sm111
def X60:Aux:=⟨[],[]⟩
def T60 {R:Type} (B:Ops) (c96:C96) (c59:C59) (p0 p1:Int) (p2 p3:LB) (k:(Bool)→Option R):Option R:=cond (B.eq p0 1) (cond (B.le 0 p1) (cond (B.le p1 999) (cond (p2 == mt UInt8) (k (p3 == mt UInt8)) (k false)) (k false)) (k false)) (cond (B.eq p0 2) (cond (B.eq p1 0) (ob (c96 p2) fun y0=>cond (y0) (k (p3 == mt UInt8)) (k false)) (k false)) (cond (B.eq p0 3) (cond (B.eq p1 0) (ob (c96 p2) fun y0=>cond (y0) (ob (c96 p3) fun y1=>k y1) (k false)) (k false)) (ob (c59 p0) fun y0=>cond (B.lt 0 y0) (cond (B.eq p1 0) (cond (p2 == mt UInt8) (k (p3 == mt UInt8)) (k false)) (k false)) (k false))))
theorem eq60 {R:Type} (B:Ops) (c96:C96) (c59:C59) (p0 p1:Int) (p2 p3:LB) (k:AV→Objs→Option R) (n:Nat):afun tau B gl0 X60 (ent 96 (e96 c96) (ent 59 (e59 c59) gnil)) ow Tryz.f60 [.agg [.int .i64 p0,.int .i64 p1,.str p2,.str p3]] [] k n=T60 B c96 c59 p0 p1 p2 p3 (K2 k):=by kernel_rfl
theorem nt60 {R R':Type} (B:Ops) (c96:C96) (c59:C59) (p0 p1:Int) (p2 p3:LB) (k0:(Bool)→Option R') (k:R'→Option R):T60 B c96 c59 p0 p1 p2 p3 (fun y=>ob (k0 y) k)=ob (T60 B c96 c59 p0 p1 p2 p3 k0) k:=by
 unfold T60
 repeat' first | exact rfl | apply qac | (apply qai;intro)
def F60 (c96:C96) (c59:C59) (p0 p1:Int) (p2 p3:LB):Option (Bool):=T60 Ops.std c96 c59 p0 p1 p2 p3 some
abbrev C60:Type:=Int→Int→LB→LB→Option (Bool)
def e60 {R:Type} (c:C60):Ent R:=eG [.aG [.cI .i64,.cI .i64,.cS,.cS]] [] fun v k=>ob (c v.1 v.2.1 v.2.2.1 v.2.2.2.1) (K2 k)
abbrev Sp60 (c:C60):Prop:=∀ (p0 p1:Int) (p2 p3:LB) (y:Bool),c p0 p1 p2 p3=some y→Spec Tryz.prog gl0 60 [.agg [.int .i64 p0,.int .i64 p1,.str p2,.str p3]] [] (.c (.bool y)) []
theorem ek60 {R:Type} {c:C60} (hs:Sp60 c):EOk 60 (e60 (R:=R) c):=qak fun v=>hs v.1 v.2.1 v.2.2.1 v.2.2.2.1
theorem sf60 {c96:C96} {c59:C59} (h96:Sp96 c96) (h59:Sp59 c59):Sp60 (F60 c96 c59):=fun p0 p1 p2 p3 y hy=>by
 refine qae (qab (ek96 h96) (qab (ek59 h59) qad)) 1000000 (fn:=Tryz.f60) (by kernel_rfl) (by kernel_rfl) (X:=X60) (by kernel_rfl) ?_
 rw [eq60]
 exact (nt60 Ops.std c96 c59 p0 p1 p2 p3 some (K2 k0)).trans (by show ob (F60 c96 c59 p0 p1 p2 p3) _=_;rw [hy];rfl)
noncomputable def M60:C60:=F60 M96 M59
theorem sm60:Sp60 M60:=sf60 sm96 sm59
def X26:Aux:=⟨[(3,([1,2,4,5,6]++rg 10 26))],[]⟩
inductive S26 where
 | l0 (v1 v3 v4:Int)
def T26 {R:Type} (B:Ops) (c59:C59) (c60:C60) (p0:L63) (again:S26→Option R) (k:(Bool)→Option R):Option S26→Option R | none=>again (.l0 0 (↑p0.length) 0) | some (.l0 v1 v3 v4)=>cond (B.lt v4 v3) (cond (B.inb v4 p0.length) (ob (c59 (p0.getD v4.toNat ty63.dflt).1) fun y0=>ob (c60 (p0.getD v4.toNat ty63.dflt).1 ((p0.getD v4.toNat ty63.dflt).2).1 (((p0.getD v4.toNat ty63.dflt).2).2).1 (((p0.getD v4.toNat ty63.dflt).2).2).2) fun y1=>cond (!y1) (k false) (cond (B.lt v1 y0) (k false) (again (.l0 (IntKind.wrap .i64 (v1+IntKind.wrap .i64 (1-y0))) v3 (IntKind.wrap .i64 (v4+1)))))) none) (cond (B.eq v1 1) (k (B.le (↑p0.length) 30)) (k false))
def E26 (p0:L63):S26→List AV×Objs
 | .l0 v1 v3 v4=>(mk 36 [(0,.c (.list 63 ty63 p0)),(3,.c (.int .i64 v1)),(7,.c (.list 63 ty63 p0)),(8,.c (.int .i64 v3)),(9,.c (.int .i64 v4))],[])
def I26:S26→Nat
 | .l0 _ _ _=>0
noncomputable abbrev A26 {R:Type} (B:Ops) (c59:C59) (c60:C60) (p0:L63) (k:AV→Objs→Option R) (s:S26) (n:Nat):Option R:=aloop tau B gl0 X26 (ent 59 (e59 c59) (ent 60 (e60 c60) gnil)) ow [] Tryz.f26 k (I26 s) (E26 p0 s) n
theorem eq26 {R:Type} (B:Ops) (c59:C59) (c60:C60) (p0:L63) (k:AV→Objs→Option R) (n:Nat):afun tau B gl0 X26 (ent 59 (e59 c59) (ent 60 (e60 c60) gnil)) ow Tryz.f26 [.c (.list 63 ty63 p0)] [] k n=T26 B c59 c60 p0 (fun s=>A26 B c59 c60 p0 k s n) (K2 k) none:=by kernel_rfl
theorem el26 {R:Type} (B:Ops) (c59:C59) (c60:C60) (p0:L63) (k:AV→Objs→Option R) (n:Nat):∀ s,A26 B c59 c60 p0 k s (n+1)=T26 B c59 c60 p0 (fun s=>A26 B c59 c60 p0 k s n) (K2 k) (some s):=by
 intro s
 cases s<;>kernel_rfl
theorem nt26 {R R':Type} (B:Ops) (c59:C59) (c60:C60) (p0:L63) (again:S26→Option R) (again':S26→Option R') (k0:(Bool)→Option R') (k:R'→Option R) (h:∀ s,again s=ob (again' s) k):∀ s,T26 B c59 c60 p0 again (fun y=>ob (k0 y) k) s=ob (T26 B c59 c60 p0 again' k0 s) k:=by
 rintro (_ | x)
 all_goals try cases x
 all_goals (unfold T26;repeat' first | exact rfl | exact h _ | apply qac | (apply qai;intro))
def R26 (c59:C59) (c60:C60) (p0:L63):Nat→S26→Option (Bool)
 | 0,_=>none
 | n+1,s=>T26 Ops.std c59 c60 p0 (R26 c59 c60 p0 n) some (some s)
theorem rr26 {R:Type} (c59:C59) (c60:C60) (p0:L63) (k:AV→Objs→Option R):∀ (n:Nat) (s:S26),A26 Ops.std c59 c60 p0 k s n=ob (R26 c59 c60 p0 n s) (K2 k)
 | 0,s=>by cases s<;>rfl
 | n+1,s=>by rw [el26];exact nt26 Ops.std c59 c60 p0 _ _ some (K2 k) (rr26 c59 c60 p0 k n) (some s)
def F26 (c59:C59) (c60:C60) (p0:L63):Option (Bool):=T26 Ops.std c59 c60 p0 (R26 c59 c60 p0 1000000) some none
abbrev C26:Type:=L63→Option (Bool)
def e26 {R:Type} (c:C26):Ent R:=eG [.aC (.cL 63 ty63)] [] fun v k=>ob (c v.1) (K2 k)
abbrev Sp26 (c:C26):Prop:=∀ (p0:L63) (y:Bool),c p0=some y→Spec Tryz.prog gl0 26 [.c (.list 63 ty63 p0)] [] (.c (.bool y)) []
theorem ek26 {R:Type} {c:C26} (hs:Sp26 c):EOk 26 (e26 (R:=R) c):=qak fun v=>hs v.1
theorem sf26 {c59:C59} {c60:C60} (h59:Sp59 c59) (h60:Sp60 c60):Sp26 (F26 c59 c60):=fun p0 y hy=>by
 refine qae (qab (ek59 h59) (qab (ek60 h60) qad)) 1000000 (fn:=Tryz.f26) (by kernel_rfl) (by kernel_rfl) (X:=X26) (by kernel_rfl) ?_
 rw [eq26]
 exact (nt26 Ops.std c59 c60 p0 _ _ some (K2 k0) (rr26 c59 c60 p0 k0 1000000) none).trans (by show ob (F26 c59 c60 p0) _=_;rw [hy];rfl)
noncomputable def M26:C26:=F26 M59 M60
theorem sm26:Sp26 M26:=sf26 sm59 sm60
def X9:Aux:=⟨[(3,([1,2,4,5,6]++rg 10 47))],[]⟩
inductive S9 where
 | l0 (v1 v3 v4:Int)
def T9 {R:Type} (B:Ops) (c25:C25) (c26:C26) (p0:L61) (again:S9→Option R) (k:(Bool)→Option R):Option S9→Option R | none=>again (.l0 0 (↑p0.length) 0) | some (.l0 v1 v3 v4)=>cond (B.lt v4 v3) (cond (B.inb v4 p0.length) (ob (c25 (p0.getD v4.toNat ty61.dflt).1) fun y0=>cond (B.lt y0 0) (k false) (cond (B.lt v1 y0) (k false) (cond (B.eq (p0.getD v4.toNat ty61.dflt).1 3) (ob (c26 (p0.getD v4.toNat ty61.dflt).2) fun y1=>cond (!y1) (k false) (cond (!B.eq (p0.getD v4.toNat ty61.dflt).1 3) (cond (B.lt 0 (Nat.cast (List.length (p0.getD v4.toNat ty61.dflt).2))) (k false) (again (.l0 (IntKind.wrap .i64 (v1+IntKind.wrap .i64 (1-y0))) v3 (IntKind.wrap .i64 (v4+1))))) (again (.l0 (IntKind.wrap .i64 (v1+IntKind.wrap .i64 (1-y0))) v3 (IntKind.wrap .i64 (v4+1)))))) (cond (!B.eq (p0.getD v4.toNat ty61.dflt).1 3) (cond (B.lt 0 (Nat.cast (List.length (p0.getD v4.toNat ty61.dflt).2))) (k false) (again (.l0 (IntKind.wrap .i64 (v1+IntKind.wrap .i64 (1-y0))) v3 (IntKind.wrap .i64 (v4+1))))) (again (.l0 (IntKind.wrap .i64 (v1+IntKind.wrap .i64 (1-y0))) v3 (IntKind.wrap .i64 (v4+1)))))))) none) (cond (B.eq v1 1) (k (B.le (↑p0.length) 60)) (k false))
def E9 (p0:L61):S9→List AV×Objs
 | .l0 v1 v3 v4=>(mk 57 [(0,.c (.list 61 ty61 p0)),(3,.c (.int .i64 v1)),(7,.c (.list 61 ty61 p0)),(8,.c (.int .i64 v3)),(9,.c (.int .i64 v4))],[])
def I9:S9→Nat
 | .l0 _ _ _=>0
noncomputable abbrev A9 {R:Type} (B:Ops) (c25:C25) (c26:C26) (p0:L61) (k:AV→Objs→Option R) (s:S9) (n:Nat):Option R:=aloop tau B gl0 X9 (ent 25 (e25 c25) (ent 26 (e26 c26) gnil)) ow [] Tryz.f9 k (I9 s) (E9 p0 s) n
theorem eq9 {R:Type} (B:Ops) (c25:C25) (c26:C26) (p0:L61) (k:AV→Objs→Option R) (n:Nat):afun tau B gl0 X9 (ent 25 (e25 c25) (ent 26 (e26 c26) gnil)) ow Tryz.f9 [.c (.list 61 ty61 p0)] [] k n=T9 B c25 c26 p0 (fun s=>A9 B c25 c26 p0 k s n) (K2 k) none:=by kernel_rfl
theorem el9 {R:Type} (B:Ops) (c25:C25) (c26:C26) (p0:L61) (k:AV→Objs→Option R) (n:Nat):∀ s,A9 B c25 c26 p0 k s (n+1)=T9 B c25 c26 p0 (fun s=>A9 B c25 c26 p0 k s n) (K2 k) (some s):=by
 intro s
 cases s<;>kernel_rfl
theorem nt9 {R R':Type} (B:Ops) (c25:C25) (c26:C26) (p0:L61) (again:S9→Option R) (again':S9→Option R') (k0:(Bool)→Option R') (k:R'→Option R) (h:∀ s,again s=ob (again' s) k):∀ s,T9 B c25 c26 p0 again (fun y=>ob (k0 y) k) s=ob (T9 B c25 c26 p0 again' k0 s) k:=by
 rintro (_ | x)
 all_goals try cases x
 all_goals (unfold T9;repeat' first | exact rfl | exact h _ | apply qac | (apply qai;intro))
def R9 (c25:C25) (c26:C26) (p0:L61):Nat→S9→Option (Bool)
 | 0,_=>none
 | n+1,s=>T9 Ops.std c25 c26 p0 (R9 c25 c26 p0 n) some (some s)
theorem rr9 {R:Type} (c25:C25) (c26:C26) (p0:L61) (k:AV→Objs→Option R):∀ (n:Nat) (s:S9),A9 Ops.std c25 c26 p0 k s n=ob (R9 c25 c26 p0 n s) (K2 k)
 | 0,s=>by cases s<;>rfl
 | n+1,s=>by rw [el9];exact nt9 Ops.std c25 c26 p0 _ _ some (K2 k) (rr9 c25 c26 p0 k n) (some s)
def F9 (c25:C25) (c26:C26) (p0:L61):Option (Bool):=T9 Ops.std c25 c26 p0 (R9 c25 c26 p0 1000000) some none
abbrev C9:Type:=L61→Option (Bool)
def e9 {R:Type} (c:C9):Ent R:=eG [.aC (.cL 61 ty61)] [] fun v k=>ob (c v.1) (K2 k)
abbrev Sp9 (c:C9):Prop:=∀ (p0:L61) (y:Bool),c p0=some y→Spec Tryz.prog gl0 9 [.c (.list 61 ty61 p0)] [] (.c (.bool y)) []
theorem ek9 {R:Type} {c:C9} (hs:Sp9 c):EOk 9 (e9 (R:=R) c):=qak fun v=>hs v.1
theorem sf9 {c25:C25} {c26:C26} (h25:Sp25 c25) (h26:Sp26 c26):Sp9 (F9 c25 c26):=fun p0 y hy=>by
 refine qae (qab (ek25 h25) (qab (ek26 h26) qad)) 1000000 (fn:=Tryz.f9) (by kernel_rfl) (by kernel_rfl) (X:=X9) (by kernel_rfl) ?_
 rw [eq9]
 exact (nt9 Ops.std c25 c26 p0 _ _ some (K2 k0) (rr9 c25 c26 p0 k0 1000000) none).trans (by show ob (F9 c25 c26 p0) _=_;rw [hy];rfl)
noncomputable def M9:C9:=F9 M25 M26
theorem sm9:Sp9 M9:=sf9 sm25 sm26
abbrev K4 {R:Type} (k:AV→Objs→Option R) (y:(L77)):Option R:=k (.c (.own 500)) [(500,.row 77 ty77 y)]
abbrev C38:Type:=L77→Option (L77)
def e38 {R:Type} (c:C38):Ent R:=eG [.aC (.cL 77 ty77)] [] fun v k=>ob (c v.1) (K4 k)
abbrev Sp38 (c:C38):Prop:=∀ (p0 y:L77),c p0=some y→Spec Tryz.prog gl0 38 [.c (.list 77 ty77 p0)] [] (.c (.own 500)) [(500,.row 77 ty77 y)]
theorem ek38 {R:Type} {c:C38} (hs:Sp38 c):EOk 38 (e38 (R:=R) c):=qak fun v=>hs v.1
def M38:L77→Option (L77):=cloneF (t:=ty77) 24
theorem sm38:Sp38 M38:=by
 have h:∀ (B:Ops) (xs:List (Ty.den ty77)) (k:AV→Objs→Option AO),afun tau B gl0 X0 gnil ow Tryz.f38 [.c (.list 77 ty77 xs)] [] k 1=cloneT B 77 24 ty77 xs k:=fun B xs k=>by kernel_rfl
 refine clone_sp (fun xs v o h0=>?_) fun b=>?_
 ·exact qae (G:=gnil) qad 1 (fn:=Tryz.f38) (by kernel_rfl) (by kernel_rfl) (X:=X0) (by kernel_rfl) ((h _ _ _).trans h0)
 ·cases b<;>exact qae (G:=gnil) qad 1 (fn:=Tryz.f38) (by kernel_rfl) (by kernel_rfl) (X:=X0) (by kernel_rfl) (by kernel_rfl)
def X103:Aux:=⟨[],[]⟩
def T103 {R:Type} (B:Ops) (p0:LB) (p1 p2:Int) (k:(LB)→Option R):Option R:=cond (B.lt p1 p2) (cond (B.lim (1+List.length p0) 1) (cond (B.lim (List.length (([40]:LB)++p0)+1) 1) (k (([40]:LB)++p0++([41]:LB))) none) none) (k p0)
theorem eq103 {R:Type} (B:Ops) (p0:LB) (p1 p2:Int) (k:AV→Objs→Option R) (n:Nat):afun tau B gl0 X103 gnil ow Tryz.f103 [.agg [.str p0,.int .i64 p1],.c (.int .i64 p2)] [] k n=T103 B p0 p1 p2 (K3 k):=by kernel_rfl
theorem nt103 {R R':Type} (B:Ops) (p0:LB) (p1 p2:Int) (k0:(LB)→Option R') (k:R'→Option R):T103 B p0 p1 p2 (fun y=>ob (k0 y) k)=ob (T103 B p0 p1 p2 k0) k:=by
 unfold T103
 repeat' first | exact rfl | apply qac | (apply qai;intro)
def F103 (p0:LB) (p1 p2:Int):Option (LB):=T103 Ops.std p0 p1 p2 some
abbrev C103:Type:=LB→Int→Int→Option (LB)
def e103 {R:Type} (c:C103):Ent R:=eG [.aG [.cS,.cI .i64],.aC (.cI .i64)] [] fun v k=>ob (c v.1 v.2.1 v.2.2.1) (K3 k)
abbrev Sp103 (c:C103):Prop:=∀ (p0:LB) (p1 p2:Int) (y:LB),c p0 p1 p2=some y→Spec Tryz.prog gl0 103 [.agg [.str p0,.int .i64 p1],.c (.int .i64 p2)] [] (.c (.str y)) []
theorem ek103 {R:Type} {c:C103} (hs:Sp103 c):EOk 103 (e103 (R:=R) c):=qak fun v=>hs v.1 v.2.1 v.2.2.1
theorem sf103:Sp103 (F103):=fun p0 p1 p2 y hy=>by
 refine qae qad 1000000 (fn:=Tryz.f103) (by kernel_rfl) (by kernel_rfl) (X:=X103) (by kernel_rfl) ?_
 rw [eq103]
 exact (nt103 Ops.std p0 p1 p2 some (K3 k0)).trans (by show ob (F103 p0 p1 p2) _=_;rw [hy];rfl)
noncomputable def M103:C103:=F103
theorem sm103:Sp103 M103:=sf103
def X124:Aux:=⟨[],[]⟩
def T124 {R:Type} (B:Ops) (k:(LB×LB×LB×LB×LB×LB×LB×LB×LB×LB×LB)→Option R):Option R:=k ((([42]:LB),([43]:LB),([45]:LB),([60]:LB),([60,61]:LB),([62]:LB),([62,61]:LB),([61,61]:LB),([33,61]:LB),([38,38]:LB),([124,124]:LB)))
abbrev K5 {R:Type} (k:AV→Objs→Option R) (y:(LB×LB×LB×LB×LB×LB×LB×LB×LB×LB×LB)):Option R:=k (.agg [.str y.1,.str y.2.1,.str y.2.2.1,.str y.2.2.2.1,.str y.2.2.2.2.1,.str y.2.2.2.2.2.1,.str y.2.2.2.2.2.2.1,.str y.2.2.2.2.2.2.2.1,.str y.2.2.2.2.2.2.2.2.1,.str y.2.2.2.2.2.2.2.2.2.1,.str y.2.2.2.2.2.2.2.2.2.2]) []
theorem eq124 {R:Type} (B:Ops) (k:AV→Objs→Option R) (n:Nat):afun tau B gl0 X124 gnil ow Tryz.f124 [] [] k n=T124 B (K5 k):=by kernel_rfl
theorem nt124 {R R':Type} (B:Ops) (k0:(LB×LB×LB×LB×LB×LB×LB×LB×LB×LB×LB)→Option R') (k:R'→Option R):T124 B (fun y=>ob (k0 y) k)=ob (T124 B k0) k:=by
 unfold T124
 repeat' first | exact rfl | apply qac | (apply qai;intro)
def F124:Option (LB×LB×LB×LB×LB×LB×LB×LB×LB×LB×LB):=T124 Ops.std some
abbrev C124:Type:=Option (LB×LB×LB×LB×LB×LB×LB×LB×LB×LB×LB)
def e124 {R:Type} (c:C124):Ent R:=eG [] [] fun _ k=>ob c (K5 k)
abbrev Sp124 (c:C124):Prop:=∀ (y:LB×LB×LB×LB×LB×LB×LB×LB×LB×LB×LB),c=some y→Spec Tryz.prog gl0 124 [] [] (.agg [.str y.1,.str y.2.1,.str y.2.2.1,.str y.2.2.2.1,.str y.2.2.2.2.1,.str y.2.2.2.2.2.1,.str y.2.2.2.2.2.2.1,.str y.2.2.2.2.2.2.2.1,.str y.2.2.2.2.2.2.2.2.1,.str y.2.2.2.2.2.2.2.2.2.1,.str y.2.2.2.2.2.2.2.2.2.2]) []
theorem ek124 {R:Type} {c:C124} (hs:Sp124 c):EOk 124 (e124 (R:=R) c):=qak fun _=>hs
theorem sf124:Sp124 (F124):=fun y hy=>by
 refine qae qad 1000000 (fn:=Tryz.f124) (by kernel_rfl) (by kernel_rfl) (X:=X124) (by kernel_rfl) ?_
 rw [eq124]
 exact (nt124 Ops.std some (K5 k0)).trans (by show ob (F124) _=_;rw [hy];rfl)
noncomputable def M124:C124:=F124
theorem sm124:Sp124 M124:=sf124
def X125:Aux:=⟨[],[]⟩
def T125 {R:Type} (B:Ops) (k:(Int×Int×Int×Int×Int×Int×Int×Int×Int×Int×Int)→Option R):Option R:=k (4,3,3,2,2,2,2,2,2,1,0)
abbrev K6 {R:Type} (k:AV→Objs→Option R) (y:(Int×Int×Int×Int×Int×Int×Int×Int×Int×Int×Int)):Option R:=k (.agg [.int .i64 y.1,.int .i64 y.2.1,.int .i64 y.2.2.1,.int .i64 y.2.2.2.1,.int .i64 y.2.2.2.2.1,.int .i64 y.2.2.2.2.2.1,.int .i64 y.2.2.2.2.2.2.1,.int .i64 y.2.2.2.2.2.2.2.1,.int .i64 y.2.2.2.2.2.2.2.2.1,.int .i64 y.2.2.2.2.2.2.2.2.2.1,.int .i64 y.2.2.2.2.2.2.2.2.2.2]) []
theorem eq125 {R:Type} (B:Ops) (k:AV→Objs→Option R) (n:Nat):afun tau B gl0 X125 gnil ow Tryz.f125 [] [] k n=T125 B (K6 k):=by kernel_rfl
theorem nt125 {R R':Type} (B:Ops) (k0:(Int×Int×Int×Int×Int×Int×Int×Int×Int×Int×Int)→Option R') (k:R'→Option R):T125 B (fun y=>ob (k0 y) k)=ob (T125 B k0) k:=by
 unfold T125
 repeat' first | exact rfl | apply qac | (apply qai;intro)
def F125:Option (Int×Int×Int×Int×Int×Int×Int×Int×Int×Int×Int):=T125 Ops.std some
abbrev C125:Type:=Option (Int×Int×Int×Int×Int×Int×Int×Int×Int×Int×Int)
def e125 {R:Type} (c:C125):Ent R:=eG [] [] fun _ k=>ob c (K6 k)
abbrev Sp125 (c:C125):Prop:=∀ (y:Int×Int×Int×Int×Int×Int×Int×Int×Int×Int×Int),c=some y→Spec Tryz.prog gl0 125 [] [] (.agg [.int .i64 y.1,.int .i64 y.2.1,.int .i64 y.2.2.1,.int .i64 y.2.2.2.1,.int .i64 y.2.2.2.2.1,.int .i64 y.2.2.2.2.2.1,.int .i64 y.2.2.2.2.2.2.1,.int .i64 y.2.2.2.2.2.2.2.1,.int .i64 y.2.2.2.2.2.2.2.2.1,.int .i64 y.2.2.2.2.2.2.2.2.2.1,.int .i64 y.2.2.2.2.2.2.2.2.2.2]) []
theorem ek125 {R:Type} {c:C125} (hs:Sp125 c):EOk 125 (e125 (R:=R) c):=qak fun _=>hs
theorem sf125:Sp125 (F125):=fun y hy=>by
 refine qae qad 1000000 (fn:=Tryz.f125) (by kernel_rfl) (by kernel_rfl) (X:=X125) (by kernel_rfl) ?_
 rw [eq125]
 exact (nt125 Ops.std some (K6 k0)).trans (by show ob (F125) _=_;rw [hy];rfl)
noncomputable def M125:C125:=F125
theorem sm125:Sp125 M125:=sf125
def X104:Aux:=⟨[],[(1,.lin ([1,2,5,6,0,3,4,7,8,9])),(5,.lin ([0,1,3,5,6,7,10,2,4,8,9,11,12]))]⟩
def T104 {R:Type} (B:Ops) (c124:C124) (c125:C125) (c103:C103) (p0:Int) (p1:LB) (p2:Int) (p3:LB) (p4:Int) (k:(LB×Int)→Option R):Option R:=ob (c124) fun y0=>cond (B.inb (IntKind.wrap .i64 (p0-6)) 11) (ob (c125) fun y1=>cond (B.inb (IntKind.wrap .i64 (p0-6)) 11) (cond (B.eq (List.getD (y1.1::y1.2.1::y1.2.2.1::y1.2.2.2.1::y1.2.2.2.2.1::y1.2.2.2.2.2.1::y1.2.2.2.2.2.2.1::y1.2.2.2.2.2.2.2.1::y1.2.2.2.2.2.2.2.2.1::y1.2.2.2.2.2.2.2.2.2.1::y1.2.2.2.2.2.2.2.2.2.2::mt Int) (Int.toNat (IntKind.wrap .i64 (p0-6))) 0) 2) (ob (c103 p1 p2 (IntKind.wrap .i64 (List.getD (y1.1::y1.2.1::y1.2.2.1::y1.2.2.2.1::y1.2.2.2.2.1::y1.2.2.2.2.2.1::y1.2.2.2.2.2.2.1::y1.2.2.2.2.2.2.2.1::y1.2.2.2.2.2.2.2.2.1::y1.2.2.2.2.2.2.2.2.2.1::y1.2.2.2.2.2.2.2.2.2.2::mt Int) (Int.toNat (IntKind.wrap .i64 (p0-6))) (0)+1))) fun y2=>cond (B.lim (List.length y2+List.length (List.getD (y0.1::y0.2.1::y0.2.2.1::y0.2.2.2.1::y0.2.2.2.2.1::y0.2.2.2.2.2.1::y0.2.2.2.2.2.2.1::y0.2.2.2.2.2.2.2.1::y0.2.2.2.2.2.2.2.2.1::y0.2.2.2.2.2.2.2.2.2.1::y0.2.2.2.2.2.2.2.2.2.2::mt LB) (Int.toNat (IntKind.wrap .i64 (p0-6))) (mt UInt8))) 1) (ob (c103 p3 p4 (IntKind.wrap .i64 (List.getD (y1.1::y1.2.1::y1.2.2.1::y1.2.2.2.1::y1.2.2.2.2.1::y1.2.2.2.2.2.1::y1.2.2.2.2.2.2.1::y1.2.2.2.2.2.2.2.1::y1.2.2.2.2.2.2.2.2.1::y1.2.2.2.2.2.2.2.2.2.1::y1.2.2.2.2.2.2.2.2.2.2::mt Int) (Int.toNat (IntKind.wrap .i64 (p0-6))) (0)+1))) fun y3=>cond (B.lim (List.length (y2++List.getD (y0.1::y0.2.1::y0.2.2.1::y0.2.2.2.1::y0.2.2.2.2.1::y0.2.2.2.2.2.1::y0.2.2.2.2.2.2.1::y0.2.2.2.2.2.2.2.1::y0.2.2.2.2.2.2.2.2.1::y0.2.2.2.2.2.2.2.2.2.1::y0.2.2.2.2.2.2.2.2.2.2::mt LB) (Int.toNat (IntKind.wrap .i64 (p0-6))) (mt UInt8))+List.length y3) 1) (k ((y2++List.getD (y0.1::y0.2.1::y0.2.2.1::y0.2.2.2.1::y0.2.2.2.2.1::y0.2.2.2.2.2.1::y0.2.2.2.2.2.2.1::y0.2.2.2.2.2.2.2.1::y0.2.2.2.2.2.2.2.2.1::y0.2.2.2.2.2.2.2.2.2.1::y0.2.2.2.2.2.2.2.2.2.2::mt LB) (Int.toNat (IntKind.wrap .i64 (p0-6))) (mt UInt8)++y3,List.getD (y1.1::y1.2.1::y1.2.2.1::y1.2.2.2.1::y1.2.2.2.2.1::y1.2.2.2.2.2.1::y1.2.2.2.2.2.2.1::y1.2.2.2.2.2.2.2.1::y1.2.2.2.2.2.2.2.2.1::y1.2.2.2.2.2.2.2.2.2.1::y1.2.2.2.2.2.2.2.2.2.2::mt Int) (Int.toNat (IntKind.wrap .i64 (p0-6))) 0))) none) none) (ob (c103 p1 p2 (List.getD (y1.1::y1.2.1::y1.2.2.1::y1.2.2.2.1::y1.2.2.2.2.1::y1.2.2.2.2.2.1::y1.2.2.2.2.2.2.1::y1.2.2.2.2.2.2.2.1::y1.2.2.2.2.2.2.2.2.1::y1.2.2.2.2.2.2.2.2.2.1::y1.2.2.2.2.2.2.2.2.2.2::mt Int) (Int.toNat (IntKind.wrap .i64 (p0-6))) 0)) fun y2=>cond (B.lim (List.length y2+List.length (List.getD (y0.1::y0.2.1::y0.2.2.1::y0.2.2.2.1::y0.2.2.2.2.1::y0.2.2.2.2.2.1::y0.2.2.2.2.2.2.1::y0.2.2.2.2.2.2.2.1::y0.2.2.2.2.2.2.2.2.1::y0.2.2.2.2.2.2.2.2.2.1::y0.2.2.2.2.2.2.2.2.2.2::mt LB) (Int.toNat (IntKind.wrap .i64 (p0-6))) (mt UInt8))) 1) (ob (c103 p3 p4 (IntKind.wrap .i64 (List.getD (y1.1::y1.2.1::y1.2.2.1::y1.2.2.2.1::y1.2.2.2.2.1::y1.2.2.2.2.2.1::y1.2.2.2.2.2.2.1::y1.2.2.2.2.2.2.2.1::y1.2.2.2.2.2.2.2.2.1::y1.2.2.2.2.2.2.2.2.2.1::y1.2.2.2.2.2.2.2.2.2.2::mt Int) (Int.toNat (IntKind.wrap .i64 (p0-6))) (0)+1))) fun y3=>cond (B.lim (List.length (y2++List.getD (y0.1::y0.2.1::y0.2.2.1::y0.2.2.2.1::y0.2.2.2.2.1::y0.2.2.2.2.2.1::y0.2.2.2.2.2.2.1::y0.2.2.2.2.2.2.2.1::y0.2.2.2.2.2.2.2.2.1::y0.2.2.2.2.2.2.2.2.2.1::y0.2.2.2.2.2.2.2.2.2.2::mt LB) (Int.toNat (IntKind.wrap .i64 (p0-6))) (mt UInt8))+List.length y3) 1) (k ((y2++List.getD (y0.1::y0.2.1::y0.2.2.1::y0.2.2.2.1::y0.2.2.2.2.1::y0.2.2.2.2.2.1::y0.2.2.2.2.2.2.1::y0.2.2.2.2.2.2.2.1::y0.2.2.2.2.2.2.2.2.1::y0.2.2.2.2.2.2.2.2.2.1::y0.2.2.2.2.2.2.2.2.2.2::mt LB) (Int.toNat (IntKind.wrap .i64 (p0-6))) (mt UInt8)++y3,List.getD (y1.1::y1.2.1::y1.2.2.1::y1.2.2.2.1::y1.2.2.2.2.1::y1.2.2.2.2.2.1::y1.2.2.2.2.2.2.1::y1.2.2.2.2.2.2.2.1::y1.2.2.2.2.2.2.2.2.1::y1.2.2.2.2.2.2.2.2.2.1::y1.2.2.2.2.2.2.2.2.2.2::mt Int) (Int.toNat (IntKind.wrap .i64 (p0-6))) 0))) none) none)) none) none
abbrev K7 {R:Type} (k:AV→Objs→Option R) (y:(LB×Int)):Option R:=k (.agg [.str y.1,.int .i64 y.2]) []
theorem eq104 {R:Type} (B:Ops) (c124:C124) (c125:C125) (c103:C103) (p0:Int) (p1:LB) (p2:Int) (p3:LB) (p4:Int) (k:AV→Objs→Option R) (n:Nat):afun tau B gl0 X104 (ent 124 (e124 c124) (ent 125 (e125 c125) (ent 103 (e103 c103) gnil))) ow Tryz.f104 [.c (.int .i64 p0),.agg [.str p1,.int .i64 p2],.agg [.str p3,.int .i64 p4]] [] k n=T104 B c124 c125 c103 p0 p1 p2 p3 p4 (K7 k):=by kernel_rfl
theorem nt104 {R R':Type} (B:Ops) (c124:C124) (c125:C125) (c103:C103) (p0:Int) (p1:LB) (p2:Int) (p3:LB) (p4:Int) (k0:(LB×Int)→Option R') (k:R'→Option R):T104 B c124 c125 c103 p0 p1 p2 p3 p4 (fun y=>ob (k0 y) k)=ob (T104 B c124 c125 c103 p0 p1 p2 p3 p4 k0) k:=by
 unfold T104
 repeat' first | exact rfl | apply qac | (apply qai;intro)
def F104 (c124:C124) (c125:C125) (c103:C103) (p0:Int) (p1:LB) (p2:Int) (p3:LB) (p4:Int):Option (LB×Int):=T104 Ops.std c124 c125 c103 p0 p1 p2 p3 p4 some
abbrev C104:Type:=Int→LB→Int→LB→Int→Option (LB×Int)
def e104 {R:Type} (c:C104):Ent R:=eG [.aC (.cI .i64),.aG [.cS,.cI .i64],.aG [.cS,.cI .i64]] [] fun v k=>ob (c v.1 v.2.1 v.2.2.1 v.2.2.2.1 v.2.2.2.2.1) (K7 k)
abbrev Sp104 (c:C104):Prop:=∀ (p0:Int) (p1:LB) (p2:Int) (p3:LB) (p4:Int) (y:LB×Int),c p0 p1 p2 p3 p4=some y→Spec Tryz.prog gl0 104 [.c (.int .i64 p0),.agg [.str p1,.int .i64 p2],.agg [.str p3,.int .i64 p4]] [] (.agg [.str y.1,.int .i64 y.2]) []
theorem ek104 {R:Type} {c:C104} (hs:Sp104 c):EOk 104 (e104 (R:=R) c):=qak fun v=>hs v.1 v.2.1 v.2.2.1 v.2.2.2.1 v.2.2.2.2.1
theorem sf104 {c124:C124} {c125:C125} {c103:C103} (h124:Sp124 c124) (h125:Sp125 c125) (h103:Sp103 c103):Sp104 (F104 c124 c125 c103):=fun p0 p1 p2 p3 p4 y hy=>by
 refine qae (qab (ek124 h124) (qab (ek125 h125) (qab (ek103 h103) qad))) 1000000 (fn:=Tryz.f104) (by kernel_rfl) (by kernel_rfl) (X:=X104) (by kernel_rfl) ?_
 rw [eq104]
 exact (nt104 Ops.std c124 c125 c103 p0 p1 p2 p3 p4 some (K7 k0)).trans (by show ob (F104 c124 c125 c103 p0 p1 p2 p3 p4) _=_;rw [hy];rfl)
noncomputable def M104:C104:=F104 M124 M125 M103
theorem sm104:Sp104 M104:=sf104 sm124 sm125 sm103
def X71:Aux:=⟨[],[]⟩
def T71 {R:Type} (B:Ops) (p0:Int) (k:(LB)→Option R):Option R:=cond (B.eq p0 4) (k ([33]:LB)) (cond (B.eq p0 8) (k ([88,32]:LB)) (cond (B.eq p0 11) (k ([70,32]:LB)) (k ([71,32]:LB))))
theorem eq71 {R:Type} (B:Ops) (p0:Int) (k:AV→Objs→Option R) (n:Nat):afun tau B gl0 X71 gnil ow Tryz.f71 [.c (.int .i64 p0)] [] k n=T71 B p0 (K3 k):=by kernel_rfl
theorem nt71 {R R':Type} (B:Ops) (p0:Int) (k0:(LB)→Option R') (k:R'→Option R):T71 B p0 (fun y=>ob (k0 y) k)=ob (T71 B p0 k0) k:=by
 unfold T71
 repeat' first | exact rfl | apply qac | (apply qai;intro)
def F71 (p0:Int):Option (LB):=T71 Ops.std p0 some
abbrev C71:Type:=Int→Option (LB)
def e71 {R:Type} (c:C71):Ent R:=eG [.aC (.cI .i64)] [] fun v k=>ob (c v.1) (K3 k)
abbrev Sp71 (c:C71):Prop:=∀ (p0:Int) (y:LB),c p0=some y→Spec Tryz.prog gl0 71 [.c (.int .i64 p0)] [] (.c (.str y)) []
theorem ek71 {R:Type} {c:C71} (hs:Sp71 c):EOk 71 (e71 (R:=R) c):=qak fun v=>hs v.1
theorem sf71:Sp71 (F71):=fun p0 y hy=>by
 refine qae qad 1000000 (fn:=Tryz.f71) (by kernel_rfl) (by kernel_rfl) (X:=X71) (by kernel_rfl) ?_
 rw [eq71]
 exact (nt71 Ops.std p0 some (K3 k0)).trans (by show ob (F71 p0) _=_;rw [hy];rfl)
noncomputable def M71:C71:=F71
theorem sm71:Sp71 M71:=sf71
def X72:Aux:=⟨[],[]⟩
def T72 {R:Type} (B:Ops) (p0:LB) (p1 p2:Int) (k:(LB)→Option R):Option R:=cond (B.lt p1 p2) (cond (B.lim (1+List.length p0) 1) (cond (B.lim (List.length (([40]:LB)++p0)+1) 1) (k (([40]:LB)++p0++([41]:LB))) none) none) (k p0)
theorem eq72 {R:Type} (B:Ops) (p0:LB) (p1 p2:Int) (k:AV→Objs→Option R) (n:Nat):afun tau B gl0 X72 gnil ow Tryz.f72 [.agg [.str p0,.int .i64 p1],.c (.int .i64 p2)] [] k n=T72 B p0 p1 p2 (K3 k):=by kernel_rfl
theorem nt72 {R R':Type} (B:Ops) (p0:LB) (p1 p2:Int) (k0:(LB)→Option R') (k:R'→Option R):T72 B p0 p1 p2 (fun y=>ob (k0 y) k)=ob (T72 B p0 p1 p2 k0) k:=by
 unfold T72
 repeat' first | exact rfl | apply qac | (apply qai;intro)
def F72 (p0:LB) (p1 p2:Int):Option (LB):=T72 Ops.std p0 p1 p2 some
abbrev C72:Type:=LB→Int→Int→Option (LB)
def e72 {R:Type} (c:C72):Ent R:=eG [.aG [.cS,.cI .i64],.aC (.cI .i64)] [] fun v k=>ob (c v.1 v.2.1 v.2.2.1) (K3 k)
abbrev Sp72 (c:C72):Prop:=∀ (p0:LB) (p1 p2:Int) (y:LB),c p0 p1 p2=some y→Spec Tryz.prog gl0 72 [.agg [.str p0,.int .i64 p1],.c (.int .i64 p2)] [] (.c (.str y)) []
theorem ek72 {R:Type} {c:C72} (hs:Sp72 c):EOk 72 (e72 (R:=R) c):=qak fun v=>hs v.1 v.2.1 v.2.2.1
theorem sf72:Sp72 (F72):=fun p0 p1 p2 y hy=>by
 refine qae qad 1000000 (fn:=Tryz.f72) (by kernel_rfl) (by kernel_rfl) (X:=X72) (by kernel_rfl) ?_
 rw [eq72]
 exact (nt72 Ops.std p0 p1 p2 some (K3 k0)).trans (by show ob (F72 p0 p1 p2) _=_;rw [hy];rfl)
noncomputable def M72:C72:=F72
theorem sm72:Sp72 M72:=sf72
def X73:Aux:=⟨[],[]⟩
def T73 {R:Type} (B:Ops) (p0:Int) (k:(LB×Int×Bool)→Option R):Option R:=cond (B.eq p0 7) (k ((([32,45,62,32]:LB),0,true))) (cond (B.eq p0 6) (k ((([32,124,124,32]:LB),1,false))) (cond (B.eq p0 5) (k ((([32,38,38,32]:LB),2,false))) (cond (B.eq p0 9) (k ((([32,85,32]:LB),3,true))) (k ((([32,82,32]:LB),3,true))))))
abbrev K8 {R:Type} (k:AV→Objs→Option R) (y:(LB×Int×Bool)):Option R:=k (.tup [(false,[.str y.1]),(false,[.int .i64 y.2.1]),(false,[.bool y.2.2])]) []
theorem eq73 {R:Type} (B:Ops) (p0:Int) (k:AV→Objs→Option R) (n:Nat):afun tau B gl0 X73 gnil ow Tryz.f73 [.c (.int .i64 p0)] [] k n=T73 B p0 (K8 k):=by kernel_rfl
theorem nt73 {R R':Type} (B:Ops) (p0:Int) (k0:(LB×Int×Bool)→Option R') (k:R'→Option R):T73 B p0 (fun y=>ob (k0 y) k)=ob (T73 B p0 k0) k:=by
 unfold T73
 repeat' first | exact rfl | apply qac | (apply qai;intro)
def F73 (p0:Int):Option (LB×Int×Bool):=T73 Ops.std p0 some
abbrev C73:Type:=Int→Option (LB×Int×Bool)
def e73 {R:Type} (c:C73):Ent R:=eG [.aC (.cI .i64)] [] fun v k=>ob (c v.1) (K8 k)
abbrev Sp73 (c:C73):Prop:=∀ (p0:Int) (y:LB×Int×Bool),c p0=some y→Spec Tryz.prog gl0 73 [.c (.int .i64 p0)] [] (.tup [(false,[.str y.1]),(false,[.int .i64 y.2.1]),(false,[.bool y.2.2])]) []
theorem ek73 {R:Type} {c:C73} (hs:Sp73 c):EOk 73 (e73 (R:=R) c):=qak fun v=>hs v.1
theorem sf73:Sp73 (F73):=fun p0 y hy=>by
 refine qae qad 1000000 (fn:=Tryz.f73) (by kernel_rfl) (by kernel_rfl) (X:=X73) (by kernel_rfl) ?_
 rw [eq73]
 exact (nt73 Ops.std p0 some (K8 k0)).trans (by show ob (F73 p0) _=_;rw [hy];rfl)
noncomputable def M73:C73:=F73
theorem sm73:Sp73 M73:=sf73
def X98:Aux:=⟨[],[]⟩
def T98 {R:Type} (B:Ops) (p0:LB) (p1 p2 p3:Int) (p4:LB) (k:(Bool×LB)→Option R):Option R:=k (p0 == p4,p4)
abbrev K9 {R:Type} (k:AV→Objs→Option R) (y:(Bool×LB)):Option R:=k (.c (.bool y.1)) [(1,.box 9 [.str y.2])]
theorem eq98 {R:Type} (B:Ops) (p0:LB) (p1 p2 p3:Int) (p4:LB) (k:AV→Objs→Option R) (n:Nat):afun tau B gl0 X98 gnil ow Tryz.f98 [.agg [.str p0,.int .i64 p1,.int .i64 p2,.int .i64 p3],.c (.ptr 1 0)] [(1,.box 9 [.str p4])] k n=T98 B p0 p1 p2 p3 p4 (K9 k):=by kernel_rfl
theorem nt98 {R R':Type} (B:Ops) (p0:LB) (p1 p2 p3:Int) (p4:LB) (k0:(Bool×LB)→Option R') (k:R'→Option R):T98 B p0 p1 p2 p3 p4 (fun y=>ob (k0 y) k)=ob (T98 B p0 p1 p2 p3 p4 k0) k:=by
 unfold T98
 repeat' first | exact rfl | apply qac | (apply qai;intro)
def F98 (p0:LB) (p1 p2 p3:Int) (p4:LB):Option (Bool×LB):=T98 Ops.std p0 p1 p2 p3 p4 some
abbrev C98:Type:=LB→Int→Int→Int→LB→Option (Bool×LB)
def e98 {R:Type} (c:C98):Ent R:=eG [.aG [.cS,.cI .i64,.cI .i64,.cI .i64],.aC (.cP 1)] [.oB 1 9 [.cS]] fun v k=>ob (c v.1 v.2.1 v.2.2.1 v.2.2.2.1 v.2.2.2.2.1) (K9 k)
abbrev Sp98 (c:C98):Prop:=∀ (p0:LB) (p1 p2 p3:Int) (p4:LB) (y:Bool×LB),c p0 p1 p2 p3 p4=some y→Spec Tryz.prog gl0 98 [.agg [.str p0,.int .i64 p1,.int .i64 p2,.int .i64 p3],.c (.ptr 1 0)] [(1,.box 9 [.str p4])] (.c (.bool y.1)) [(1,.box 9 [.str y.2])]
theorem ek98 {R:Type} {c:C98} (hs:Sp98 c):EOk 98 (e98 (R:=R) c):=qak fun v=>hs v.1 v.2.1 v.2.2.1 v.2.2.2.1 v.2.2.2.2.1
theorem sf98:Sp98 (F98):=fun p0 p1 p2 p3 p4 y hy=>by
 refine qae qad 1000000 (fn:=Tryz.f98) (by kernel_rfl) (by kernel_rfl) (X:=X98) (by kernel_rfl) ?_
 rw [eq98]
 exact (nt98 Ops.std p0 p1 p2 p3 p4 some (K9 k0)).trans (by show ob (F98 p0 p1 p2 p3 p4) _=_;rw [hy];rfl)
noncomputable def M98:C98:=F98
theorem sm98:Sp98 M98:=sf98
def X97:Aux:=⟨[(2,([2,3,4,5,6]++rg 9 10))],[]⟩
inductive S97 where
 | l0 (v1 v2:Int) (v3:LB)
def T97 {R:Type} (B:Ops) (c98:C98) (p0:L97) (p1:LB) (again:S97→Option R) (k:(Int×LB)→Option R):Option S97→Option R | none=>again (.l0 (↑p0.length) 0 p1) | some (.l0 v1 v2 v3)=>cond (B.lt v2 v1) (cond (B.inb v2 p0.length) (ob (c98 (p0.getD v2.toNat ty97.dflt).1 ((p0.getD v2.toNat ty97.dflt).2).1 (((p0.getD v2.toNat ty97.dflt).2).2).1 (((p0.getD v2.toNat ty97.dflt).2).2).2 v3) fun y0=>cond y0.1 (k (v2,y0.2)) (again (.l0 v1 (IntKind.wrap .i64 (v2+1)) y0.2))) none) (k (-1,v3))
def E97 (p0:L97) (p1:LB):S97→List AV×Objs
 | .l0 v1 v2 v3=>(mk 19 [(0,.c (.list 97 ty97 p0)),(1,.fn 98 [.ptr 2500 0]),(7,.c (.int .i64 v1)),(8,.c (.int .i64 v2))],[(2500,.box 9 [.str v3])])
def I97:S97→Nat
 | .l0 _ _ _=>0
abbrev K10 {R:Type} (k:AV→Objs→Option R) (y:(Int×LB)):Option R:=k (.c (.int .i64 y.1)) [(2500,.box 9 [.str y.2])]
noncomputable abbrev A97 {R:Type} (B:Ops) (c98:C98) (p0:L97) (p1:LB) (k:AV→Objs→Option R) (s:S97) (n:Nat):Option R:=aloop tau B gl0 X97 (ent 98 (e98 c98) gnil) ow [2500] Tryz.f97 k (I97 s) (E97 p0 p1 s) n
theorem eq97 {R:Type} (B:Ops) (c98:C98) (p0:L97) (p1:LB) (k:AV→Objs→Option R) (n:Nat):afun tau B gl0 X97 (ent 98 (e98 c98) gnil) ow Tryz.f97 [.c (.list 97 ty97 p0),.fn 98 [.ptr 2500 0]] [(2500,.box 9 [.str p1])] k n=T97 B c98 p0 p1 (fun s=>A97 B c98 p0 p1 k s n) (K10 k) none:=by kernel_rfl
theorem el97 {R:Type} (B:Ops) (c98:C98) (p0:L97) (p1:LB) (k:AV→Objs→Option R) (n:Nat):∀ s,A97 B c98 p0 p1 k s (n+1)=T97 B c98 p0 p1 (fun s=>A97 B c98 p0 p1 k s n) (K10 k) (some s):=by
 intro s
 cases s<;>kernel_rfl
theorem nt97 {R R':Type} (B:Ops) (c98:C98) (p0:L97) (p1:LB) (again:S97→Option R) (again':S97→Option R') (k0:(Int×LB)→Option R') (k:R'→Option R) (h:∀ s,again s=ob (again' s) k):∀ s,T97 B c98 p0 p1 again (fun y=>ob (k0 y) k) s=ob (T97 B c98 p0 p1 again' k0 s) k:=by
 rintro (_ | x)
 all_goals try cases x
 all_goals (unfold T97;repeat' first | exact rfl | exact h _ | apply qac | (apply qai;intro))
def R97 (c98:C98) (p0:L97) (p1:LB):Nat→S97→Option (Int×LB)
 | 0,_=>none
 | n+1,s=>T97 Ops.std c98 p0 p1 (R97 c98 p0 p1 n) some (some s)
theorem rr97 {R:Type} (c98:C98) (p0:L97) (p1:LB) (k:AV→Objs→Option R):∀ (n:Nat) (s:S97),A97 Ops.std c98 p0 p1 k s n=ob (R97 c98 p0 p1 n s) (K10 k)
 | 0,s=>by cases s<;>rfl
 | n+1,s=>by rw [el97];exact nt97 Ops.std c98 p0 p1 _ _ some (K10 k) (rr97 c98 p0 p1 k n) (some s)
def F97 (c98:C98) (p0:L97) (p1:LB):Option (Int×LB):=T97 Ops.std c98 p0 p1 (R97 c98 p0 p1 1000000) some none
abbrev C97:Type:=L97→LB→Option (Int×LB)
def e97 {R:Type} (c:C97):Ent R:=eG [.aC (.cL 97 ty97),.aF 98 [.cP 2500]] [.oB 2500 9 [.cS]] fun v k=>ob (c v.1 v.2.1) (K10 k)
abbrev Sp97 (c:C97):Prop:=∀ (p0:L97) (p1:LB) (y:Int×LB),c p0 p1=some y→Spec Tryz.prog gl0 97 [.c (.list 97 ty97 p0),.fn 98 [.ptr 2500 0]] [(2500,.box 9 [.str p1])] (.c (.int .i64 y.1)) [(2500,.box 9 [.str y.2])]
theorem ek97 {R:Type} {c:C97} (hs:Sp97 c):EOk 97 (e97 (R:=R) c):=qak fun v=>hs v.1 v.2.1
theorem sf97 {c98:C98} (h98:Sp98 c98):Sp97 (F97 c98):=fun p0 p1 y hy=>by
 refine qae (qab (ek98 h98) qad) 1000000 (fn:=Tryz.f97) (by kernel_rfl) (by kernel_rfl) (X:=X97) (by kernel_rfl) ?_
 rw [eq97]
 exact (nt97 Ops.std c98 p0 p1 _ _ some (K10 k0) (rr97 c98 p0 p1 k0 1000000) none).trans (by show ob (F97 c98 p0 p1) _=_;rw [hy];rfl)
noncomputable def M97:C97:=F97 M98
theorem sm97:Sp97 M97:=sf97 sm98
def X64:Aux:=⟨[],[]⟩
def T64 {R:Type} (B:Ops) (c98:C98) (c97:C97) (p0:L97) (p1:L101) (p2:L104) (p3:LB) (k:(Int)→Option R):Option R:=ob (c97 p0 p3) fun y0=>k y0.1
theorem eq64 {R:Type} (B:Ops) (c98:C98) (c97:C97) (p0:L97) (p1:L101) (p2:L104) (p3:LB) (k:AV→Objs→Option R) (n:Nat):afun tau B gl0 X64 (ent 98 (e98 c98) (ent 97 (e97 c97) gnil)) ow Tryz.f64 [.agg [.list 97 ty97 p0,.list 101 ty101 p1,.list 104 ty104 p2],.c (.str p3)] [] k n=T64 B c98 c97 p0 p1 p2 p3 (K1 k):=by kernel_rfl
theorem nt64 {R R':Type} (B:Ops) (c98:C98) (c97:C97) (p0:L97) (p1:L101) (p2:L104) (p3:LB) (k0:(Int)→Option R') (k:R'→Option R):T64 B c98 c97 p0 p1 p2 p3 (fun y=>ob (k0 y) k)=ob (T64 B c98 c97 p0 p1 p2 p3 k0) k:=by
 unfold T64
 repeat' first | exact rfl | apply qac | (apply qai;intro)
def F64 (c98:C98) (c97:C97) (p0:L97) (p1:L101) (p2:L104) (p3:LB):Option (Int):=T64 Ops.std c98 c97 p0 p1 p2 p3 some
abbrev C64:Type:=L97→L101→L104→LB→Option (Int)
def e64 {R:Type} (c:C64):Ent R:=eG [.aG [.cL 97 ty97,.cL 101 ty101,.cL 104 ty104],.aC .cS] [] fun v k=>ob (c v.1 v.2.1 v.2.2.1 v.2.2.2.1) (K1 k)
abbrev Sp64 (c:C64):Prop:=∀ (p0:L97) (p1:L101) (p2:L104) (p3:LB) (y:Int),c p0 p1 p2 p3=some y→Spec Tryz.prog gl0 64 [.agg [.list 97 ty97 p0,.list 101 ty101 p1,.list 104 ty104 p2],.c (.str p3)] [] (.c (.int .i64 y)) []
theorem ek64 {R:Type} {c:C64} (hs:Sp64 c):EOk 64 (e64 (R:=R) c):=qak fun v=>hs v.1 v.2.1 v.2.2.1 v.2.2.2.1
theorem sf64 {c98:C98} {c97:C97} (h98:Sp98 c98) (h97:Sp97 c97):Sp64 (F64 c98 c97):=fun p0 p1 p2 p3 y hy=>by
 refine qae (qab (ek98 h98) (qab (ek97 h97) qad)) 1000000 (fn:=Tryz.f64) (by kernel_rfl) (by kernel_rfl) (X:=X64) (by kernel_rfl) ?_
 rw [eq64]
 exact (nt64 Ops.std c98 c97 p0 p1 p2 p3 some (K1 k0)).trans (by show ob (F64 c98 c97 p0 p1 p2 p3) _=_;rw [hy];rfl)
noncomputable def M64:C64:=F64 M98 M97
theorem sm64:Sp64 M64:=sf64 sm98 sm97
def X100:Aux:=⟨[],[]⟩
def T100 {R:Type} (B:Ops) (p0:LB) (p1:L9) (p2:LB) (k:(Bool×LB)→Option R):Option R:=k (p0 == p2,p2)
theorem eq100 {R:Type} (B:Ops) (p0:LB) (p1:L9) (p2:LB) (k:AV→Objs→Option R) (n:Nat):afun tau B gl0 X100 gnil ow Tryz.f100 [.agg [.str p0,.list 9 ty9 p1],.c (.ptr 1 0)] [(1,.box 9 [.str p2])] k n=T100 B p0 p1 p2 (K9 k):=by kernel_rfl
theorem nt100 {R R':Type} (B:Ops) (p0:LB) (p1:L9) (p2:LB) (k0:(Bool×LB)→Option R') (k:R'→Option R):T100 B p0 p1 p2 (fun y=>ob (k0 y) k)=ob (T100 B p0 p1 p2 k0) k:=by
 unfold T100
 repeat' first | exact rfl | apply qac | (apply qai;intro)
def F100 (p0:LB) (p1:L9) (p2:LB):Option (Bool×LB):=T100 Ops.std p0 p1 p2 some
abbrev C100:Type:=LB→L9→LB→Option (Bool×LB)
def e100 {R:Type} (c:C100):Ent R:=eG [.aG [.cS,.cL 9 ty9],.aC (.cP 1)] [.oB 1 9 [.cS]] fun v k=>ob (c v.1 v.2.1 v.2.2.1) (K9 k)
abbrev Sp100 (c:C100):Prop:=∀ (p0:LB) (p1:L9) (p2:LB) (y:Bool×LB),c p0 p1 p2=some y→Spec Tryz.prog gl0 100 [.agg [.str p0,.list 9 ty9 p1],.c (.ptr 1 0)] [(1,.box 9 [.str p2])] (.c (.bool y.1)) [(1,.box 9 [.str y.2])]
theorem ek100 {R:Type} {c:C100} (hs:Sp100 c):EOk 100 (e100 (R:=R) c):=qak fun v=>hs v.1 v.2.1 v.2.2.1
theorem sf100:Sp100 (F100):=fun p0 p1 p2 y hy=>by
 refine qae qad 1000000 (fn:=Tryz.f100) (by kernel_rfl) (by kernel_rfl) (X:=X100) (by kernel_rfl) ?_
 rw [eq100]
 exact (nt100 Ops.std p0 p1 p2 some (K9 k0)).trans (by show ob (F100 p0 p1 p2) _=_;rw [hy];rfl)
noncomputable def M100:C100:=F100
theorem sm100:Sp100 M100:=sf100
def X99:Aux:=⟨[(2,([2,3,4,5,6]++rg 9 10))],[]⟩
inductive S99 where
 | l0 (v1 v2:Int) (v3:LB)
def T99 {R:Type} (B:Ops) (c100:C100) (p0:L101) (p1:LB) (again:S99→Option R) (k:(Int×LB)→Option R):Option S99→Option R | none=>again (.l0 (↑p0.length) 0 p1) | some (.l0 v1 v2 v3)=>cond (B.lt v2 v1) (cond (B.inb v2 p0.length) (ob (c100 (p0.getD v2.toNat ty101.dflt).1 (p0.getD v2.toNat ty101.dflt).2 v3) fun y0=>cond y0.1 (k (v2,y0.2)) (again (.l0 v1 (IntKind.wrap .i64 (v2+1)) y0.2))) none) (k (-1,v3))
def E99 (p0:L101) (p1:LB):S99→List AV×Objs
 | .l0 v1 v2 v3=>(mk 19 [(0,.c (.list 101 ty101 p0)),(1,.fn 100 [.ptr 2500 0]),(7,.c (.int .i64 v1)),(8,.c (.int .i64 v2))],[(2500,.box 9 [.str v3])])
def I99:S99→Nat
 | .l0 _ _ _=>0
noncomputable abbrev A99 {R:Type} (B:Ops) (c100:C100) (p0:L101) (p1:LB) (k:AV→Objs→Option R) (s:S99) (n:Nat):Option R:=aloop tau B gl0 X99 (ent 100 (e100 c100) gnil) ow [2500] Tryz.f99 k (I99 s) (E99 p0 p1 s) n
theorem eq99 {R:Type} (B:Ops) (c100:C100) (p0:L101) (p1:LB) (k:AV→Objs→Option R) (n:Nat):afun tau B gl0 X99 (ent 100 (e100 c100) gnil) ow Tryz.f99 [.c (.list 101 ty101 p0),.fn 100 [.ptr 2500 0]] [(2500,.box 9 [.str p1])] k n=T99 B c100 p0 p1 (fun s=>A99 B c100 p0 p1 k s n) (K10 k) none:=by kernel_rfl
theorem el99 {R:Type} (B:Ops) (c100:C100) (p0:L101) (p1:LB) (k:AV→Objs→Option R) (n:Nat):∀ s,A99 B c100 p0 p1 k s (n+1)=T99 B c100 p0 p1 (fun s=>A99 B c100 p0 p1 k s n) (K10 k) (some s):=by
 intro s
 cases s<;>kernel_rfl
theorem nt99 {R R':Type} (B:Ops) (c100:C100) (p0:L101) (p1:LB) (again:S99→Option R) (again':S99→Option R') (k0:(Int×LB)→Option R') (k:R'→Option R) (h:∀ s,again s=ob (again' s) k):∀ s,T99 B c100 p0 p1 again (fun y=>ob (k0 y) k) s=ob (T99 B c100 p0 p1 again' k0 s) k:=by
 rintro (_ | x)
 all_goals try cases x
 all_goals (unfold T99;repeat' first | exact rfl | exact h _ | apply qac | (apply qai;intro))
def R99 (c100:C100) (p0:L101) (p1:LB):Nat→S99→Option (Int×LB)
 | 0,_=>none
 | n+1,s=>T99 Ops.std c100 p0 p1 (R99 c100 p0 p1 n) some (some s)
theorem rr99 {R:Type} (c100:C100) (p0:L101) (p1:LB) (k:AV→Objs→Option R):∀ (n:Nat) (s:S99),A99 Ops.std c100 p0 p1 k s n=ob (R99 c100 p0 p1 n s) (K10 k)
 | 0,s=>by cases s<;>rfl
 | n+1,s=>by rw [el99];exact nt99 Ops.std c100 p0 p1 _ _ some (K10 k) (rr99 c100 p0 p1 k n) (some s)
def F99 (c100:C100) (p0:L101) (p1:LB):Option (Int×LB):=T99 Ops.std c100 p0 p1 (R99 c100 p0 p1 1000000) some none
abbrev C99:Type:=L101→LB→Option (Int×LB)
def e99 {R:Type} (c:C99):Ent R:=eG [.aC (.cL 101 ty101),.aF 100 [.cP 2500]] [.oB 2500 9 [.cS]] fun v k=>ob (c v.1 v.2.1) (K10 k)
abbrev Sp99 (c:C99):Prop:=∀ (p0:L101) (p1:LB) (y:Int×LB),c p0 p1=some y→Spec Tryz.prog gl0 99 [.c (.list 101 ty101 p0),.fn 100 [.ptr 2500 0]] [(2500,.box 9 [.str p1])] (.c (.int .i64 y.1)) [(2500,.box 9 [.str y.2])]
theorem ek99 {R:Type} {c:C99} (hs:Sp99 c):EOk 99 (e99 (R:=R) c):=qak fun v=>hs v.1 v.2.1
theorem sf99 {c100:C100} (h100:Sp100 c100):Sp99 (F99 c100):=fun p0 p1 y hy=>by
 refine qae (qab (ek100 h100) qad) 1000000 (fn:=Tryz.f99) (by kernel_rfl) (by kernel_rfl) (X:=X99) (by kernel_rfl) ?_
 rw [eq99]
 exact (nt99 Ops.std c100 p0 p1 _ _ some (K10 k0) (rr99 c100 p0 p1 k0 1000000) none).trans (by show ob (F99 c100 p0 p1) _=_;rw [hy];rfl)
noncomputable def M99:C99:=F99 M100
theorem sm99:Sp99 M99:=sf99 sm100
def X101:Aux:=⟨[(2,([2,3,4,5,6]++rg 9 10))],[]⟩
inductive S101 where
 | l0 (v2 v3:Int)
def T101 {R:Type} (B:Ops) (p0:L9) (p1:LB) (again:S101→Option R) (k:(Int)→Option R):Option S101→Option R | none=>again (.l0 (↑p0.length) 0) | some (.l0 v2 v3)=>cond (B.lt v3 v2) (cond (B.inb v3 p0.length) (cond (p1 == p0.getD v3.toNat ty9.dflt) (k v3) (again (.l0 v2 (IntKind.wrap .i64 (v3+1))))) none) (k (-1))
def E101 (p0:L9) (p1:LB):S101→List AV×Objs
 | .l0 v2 v3=>(mk 19 [(0,.c (.list 9 ty9 p0)),(1,.c (.str p1)),(7,.c (.int .i64 v2)),(8,.c (.int .i64 v3))],[])
def I101:S101→Nat
 | .l0 _ _=>0
noncomputable abbrev A101 {R:Type} (B:Ops) (p0:L9) (p1:LB) (k:AV→Objs→Option R) (s:S101) (n:Nat):Option R:=aloop tau B gl0 X101 gnil ow [] Tryz.f101 k (I101 s) (E101 p0 p1 s) n
theorem eq101 {R:Type} (B:Ops) (p0:L9) (p1:LB) (k:AV→Objs→Option R) (n:Nat):afun tau B gl0 X101 gnil ow Tryz.f101 [.c (.list 9 ty9 p0),.c (.str p1)] [] k n=T101 B p0 p1 (fun s=>A101 B p0 p1 k s n) (K1 k) none:=by kernel_rfl
theorem el101 {R:Type} (B:Ops) (p0:L9) (p1:LB) (k:AV→Objs→Option R) (n:Nat):∀ s,A101 B p0 p1 k s (n+1)=T101 B p0 p1 (fun s=>A101 B p0 p1 k s n) (K1 k) (some s):=by
 intro s
 cases s<;>kernel_rfl
theorem nt101 {R R':Type} (B:Ops) (p0:L9) (p1:LB) (again:S101→Option R) (again':S101→Option R') (k0:(Int)→Option R') (k:R'→Option R) (h:∀ s,again s=ob (again' s) k):∀ s,T101 B p0 p1 again (fun y=>ob (k0 y) k) s=ob (T101 B p0 p1 again' k0 s) k:=by
 rintro (_ | x)
 all_goals try cases x
 all_goals (unfold T101;repeat' first | exact rfl | exact h _ | apply qac | (apply qai;intro))
def R101 (p0:L9) (p1:LB):Nat→S101→Option (Int)
 | 0,_=>none
 | n+1,s=>T101 Ops.std p0 p1 (R101 p0 p1 n) some (some s)
theorem rr101 {R:Type} (p0:L9) (p1:LB) (k:AV→Objs→Option R):∀ (n:Nat) (s:S101),A101 Ops.std p0 p1 k s n=ob (R101 p0 p1 n s) (K1 k)
 | 0,s=>by cases s<;>rfl
 | n+1,s=>by rw [el101];exact nt101 Ops.std p0 p1 _ _ some (K1 k) (rr101 p0 p1 k n) (some s)
def F101 (p0:L9) (p1:LB):Option (Int):=T101 Ops.std p0 p1 (R101 p0 p1 1000000) some none
abbrev C101:Type:=L9→LB→Option (Int)
def e101 {R:Type} (c:C101):Ent R:=eG [.aC (.cL 9 ty9),.aC .cS] [] fun v k=>ob (c v.1 v.2.1) (K1 k)
abbrev Sp101 (c:C101):Prop:=∀ (p0:L9) (p1:LB) (y:Int),c p0 p1=some y→Spec Tryz.prog gl0 101 [.c (.list 9 ty9 p0),.c (.str p1)] [] (.c (.int .i64 y)) []
theorem ek101 {R:Type} {c:C101} (hs:Sp101 c):EOk 101 (e101 (R:=R) c):=qak fun v=>hs v.1 v.2.1
theorem sf101:Sp101 (F101):=fun p0 p1 y hy=>by
 refine qae qad 1000000 (fn:=Tryz.f101) (by kernel_rfl) (by kernel_rfl) (X:=X101) (by kernel_rfl) ?_
 rw [eq101]
 exact (nt101 Ops.std p0 p1 _ _ some (K1 k0) (rr101 p0 p1 k0 1000000) none).trans (by show ob (F101 p0 p1) _=_;rw [hy];rfl)
noncomputable def M101:C101:=F101
theorem sm101:Sp101 M101:=sf101
def X65:Aux:=⟨[],[]⟩
def T65 {R:Type} (B:Ops) (c100:C100) (c99:C99) (c101:C101) (p0:L97) (p1:L101) (p2:L104) (p3 p4:LB) (k:(Int×Int)→Option R):Option R:=ob (c99 p1 p3) fun y0=>cond (B.lt y0.1 0) (k (-1,-1)) (cond (B.inb y0.1 p1.length) (ob (c101 (p1.getD (Int.toNat y0.1) ty101.dflt).2 p4) fun y1=>k (y0.1,y1)) none)
abbrev K11 {R:Type} (k:AV→Objs→Option R) (y:(Int×Int)):Option R:=k (.tup [(false,[.int .i64 y.1]),(false,[.int .i64 y.2])]) []
theorem eq65 {R:Type} (B:Ops) (c100:C100) (c99:C99) (c101:C101) (p0:L97) (p1:L101) (p2:L104) (p3 p4:LB) (k:AV→Objs→Option R) (n:Nat):afun tau B gl0 X65 (ent 100 (e100 c100) (ent 99 (e99 c99) (ent 101 (e101 c101) gnil))) ow Tryz.f65 [.agg [.list 97 ty97 p0,.list 101 ty101 p1,.list 104 ty104 p2],.c (.str p3),.c (.str p4)] [] k n=T65 B c100 c99 c101 p0 p1 p2 p3 p4 (K11 k):=by kernel_rfl
theorem nt65 {R R':Type} (B:Ops) (c100:C100) (c99:C99) (c101:C101) (p0:L97) (p1:L101) (p2:L104) (p3 p4:LB) (k0:(Int×Int)→Option R') (k:R'→Option R):T65 B c100 c99 c101 p0 p1 p2 p3 p4 (fun y=>ob (k0 y) k)=ob (T65 B c100 c99 c101 p0 p1 p2 p3 p4 k0) k:=by
 unfold T65
 repeat' first | exact rfl | apply qac | (apply qai;intro)
def F65 (c100:C100) (c99:C99) (c101:C101) (p0:L97) (p1:L101) (p2:L104) (p3 p4:LB):Option (Int×Int):=T65 Ops.std c100 c99 c101 p0 p1 p2 p3 p4 some
abbrev C65:Type:=L97→L101→L104→LB→LB→Option (Int×Int)
def e65 {R:Type} (c:C65):Ent R:=eG [.aG [.cL 97 ty97,.cL 101 ty101,.cL 104 ty104],.aC .cS,.aC .cS] [] fun v k=>ob (c v.1 v.2.1 v.2.2.1 v.2.2.2.1 v.2.2.2.2.1) (K11 k)
abbrev Sp65 (c:C65):Prop:=∀ (p0:L97) (p1:L101) (p2:L104) (p3 p4:LB) (y:Int×Int),c p0 p1 p2 p3 p4=some y→Spec Tryz.prog gl0 65 [.agg [.list 97 ty97 p0,.list 101 ty101 p1,.list 104 ty104 p2],.c (.str p3),.c (.str p4)] [] (.tup [(false,[.int .i64 y.1]),(false,[.int .i64 y.2])]) []
theorem ek65 {R:Type} {c:C65} (hs:Sp65 c):EOk 65 (e65 (R:=R) c):=qak fun v=>hs v.1 v.2.1 v.2.2.1 v.2.2.2.1 v.2.2.2.2.1
theorem sf65 {c100:C100} {c99:C99} {c101:C101} (h100:Sp100 c100) (h99:Sp99 c99) (h101:Sp101 c101):Sp65 (F65 c100 c99 c101):=fun p0 p1 p2 p3 p4 y hy=>by
 refine qae (qab (ek100 h100) (qab (ek99 h99) (qab (ek101 h101) qad))) 1000000 (fn:=Tryz.f65) (by kernel_rfl) (by kernel_rfl) (X:=X65) (by kernel_rfl) ?_
 rw [eq65]
 exact (nt65 Ops.std c100 c99 c101 p0 p1 p2 p3 p4 some (K11 k0)).trans (by show ob (F65 c100 c99 c101 p0 p1 p2 p3 p4) _=_;rw [hy];rfl)
noncomputable def M65:C65:=F65 M100 M99 M101
theorem sm65:Sp65 M65:=sf65 sm100 sm99 sm101
def X31:Aux:=⟨[(2,([0,3,4,5,6,7,8]++rg 12 28))],[]⟩
inductive S31 where
 | l0 (v2 v3:Int)
def T31 {R:Type} (B:Ops) (c64:C64) (c65:C65) (c26:C26) (p0:L97) (p1:L101) (p2:L104) (p3:L63) (again:S31→Option R) (k:(Bool)→Option R):Option S31→Option R | none=>again (.l0 (↑p3.length) 0) | some (.l0 v2 v3)=>cond (B.lt v3 v2) (cond (B.inb v3 p3.length) (cond (B.eq (p3.getD v3.toNat ty63.dflt).1 2) (ob (c64 p0 p1 p2 (((p3.getD v3.toNat ty63.dflt).2).2).1) fun y0=>cond (B.lt y0 0) (k false) (again (.l0 v2 (IntKind.wrap .i64 (v3+1))))) (cond (B.eq (p3.getD v3.toNat ty63.dflt).1 3) (ob (c65 p0 p1 p2 (((p3.getD v3.toNat ty63.dflt).2).2).1 (((p3.getD v3.toNat ty63.dflt).2).2).2) fun y0=>cond (B.lt y0.2 0) (k false) (again (.l0 v2 (IntKind.wrap .i64 (v3+1))))) (again (.l0 v2 (IntKind.wrap .i64 (v3+1)))))) none) (ob (c26 p3) fun y0=>k y0)
def E31 (p0:L97) (p1:L101) (p2:L104) (p3:L63):S31→List AV×Objs
 | .l0 v2 v3=>(mk 40 [(1,.c (.list 63 ty63 p3)),(2,.c (.ptr 2 0)),(9,.c (.list 63 ty63 p3)),(10,.c (.int .i64 v2)),(11,.c (.int .i64 v3))],[(2,.box 37 [.list 97 ty97 p0,.list 101 ty101 p1,.list 104 ty104 p2])])
def I31:S31→Nat
 | .l0 _ _=>0
noncomputable abbrev A31 {R:Type} (B:Ops) (c64:C64) (c65:C65) (c26:C26) (p0:L97) (p1:L101) (p2:L104) (p3:L63) (k:AV→Objs→Option R) (s:S31) (n:Nat):Option R:=aloop tau B gl0 X31 (ent 64 (e64 c64) (ent 65 (e65 c65) (ent 26 (e26 c26) gnil))) ow [] Tryz.f31 k (I31 s) (E31 p0 p1 p2 p3 s) n
theorem eq31 {R:Type} (B:Ops) (c64:C64) (c65:C65) (c26:C26) (p0:L97) (p1:L101) (p2:L104) (p3:L63) (k:AV→Objs→Option R) (n:Nat):afun tau B gl0 X31 (ent 64 (e64 c64) (ent 65 (e65 c65) (ent 26 (e26 c26) gnil))) ow Tryz.f31 [.agg [.list 97 ty97 p0,.list 101 ty101 p1,.list 104 ty104 p2],.c (.list 63 ty63 p3)] [] k n=T31 B c64 c65 c26 p0 p1 p2 p3 (fun s=>A31 B c64 c65 c26 p0 p1 p2 p3 k s n) (K2 k) none:=by kernel_rfl
theorem el31 {R:Type} (B:Ops) (c64:C64) (c65:C65) (c26:C26) (p0:L97) (p1:L101) (p2:L104) (p3:L63) (k:AV→Objs→Option R) (n:Nat):∀ s,A31 B c64 c65 c26 p0 p1 p2 p3 k s (n+1)=T31 B c64 c65 c26 p0 p1 p2 p3 (fun s=>A31 B c64 c65 c26 p0 p1 p2 p3 k s n) (K2 k) (some s):=by
 intro s
 cases s<;>kernel_rfl
theorem nt31 {R R':Type} (B:Ops) (c64:C64) (c65:C65) (c26:C26) (p0:L97) (p1:L101) (p2:L104) (p3:L63) (again:S31→Option R) (again':S31→Option R') (k0:(Bool)→Option R') (k:R'→Option R) (h:∀ s,again s=ob (again' s) k):∀ s,T31 B c64 c65 c26 p0 p1 p2 p3 again (fun y=>ob (k0 y) k) s=ob (T31 B c64 c65 c26 p0 p1 p2 p3 again' k0 s) k:=by
 rintro (_ | x)
 all_goals try cases x
 all_goals (unfold T31;repeat' first | exact rfl | exact h _ | apply qac | (apply qai;intro))
def R31 (c64:C64) (c65:C65) (c26:C26) (p0:L97) (p1:L101) (p2:L104) (p3:L63):Nat→S31→Option (Bool)
 | 0,_=>none
 | n+1,s=>T31 Ops.std c64 c65 c26 p0 p1 p2 p3 (R31 c64 c65 c26 p0 p1 p2 p3 n) some (some s)
theorem rr31 {R:Type} (c64:C64) (c65:C65) (c26:C26) (p0:L97) (p1:L101) (p2:L104) (p3:L63) (k:AV→Objs→Option R):∀ (n:Nat) (s:S31),A31 Ops.std c64 c65 c26 p0 p1 p2 p3 k s n=ob (R31 c64 c65 c26 p0 p1 p2 p3 n s) (K2 k)
 | 0,s=>by cases s<;>rfl
 | n+1,s=>by rw [el31];exact nt31 Ops.std c64 c65 c26 p0 p1 p2 p3 _ _ some (K2 k) (rr31 c64 c65 c26 p0 p1 p2 p3 k n) (some s)
def F31 (c64:C64) (c65:C65) (c26:C26) (p0:L97) (p1:L101) (p2:L104) (p3:L63):Option (Bool):=T31 Ops.std c64 c65 c26 p0 p1 p2 p3 (R31 c64 c65 c26 p0 p1 p2 p3 1000000) some none
abbrev C31:Type:=L97→L101→L104→L63→Option (Bool)
def e31 {R:Type} (c:C31):Ent R:=eG [.aG [.cL 97 ty97,.cL 101 ty101,.cL 104 ty104],.aC (.cL 63 ty63)] [] fun v k=>ob (c v.1 v.2.1 v.2.2.1 v.2.2.2.1) (K2 k)
abbrev Sp31 (c:C31):Prop:=∀ (p0:L97) (p1:L101) (p2:L104) (p3:L63) (y:Bool),c p0 p1 p2 p3=some y→Spec Tryz.prog gl0 31 [.agg [.list 97 ty97 p0,.list 101 ty101 p1,.list 104 ty104 p2],.c (.list 63 ty63 p3)] [] (.c (.bool y)) []
theorem ek31 {R:Type} {c:C31} (hs:Sp31 c):EOk 31 (e31 (R:=R) c):=qak fun v=>hs v.1 v.2.1 v.2.2.1 v.2.2.2.1
theorem sf31 {c64:C64} {c65:C65} {c26:C26} (h64:Sp64 c64) (h65:Sp65 c65) (h26:Sp26 c26):Sp31 (F31 c64 c65 c26):=fun p0 p1 p2 p3 y hy=>by
 refine qae (qab (ek64 h64) (qab (ek65 h65) (qab (ek26 h26) qad))) 1000000 (fn:=Tryz.f31) (by kernel_rfl) (by kernel_rfl) (X:=X31) (by kernel_rfl) ?_
 rw [eq31]
 exact (nt31 Ops.std c64 c65 c26 p0 p1 p2 p3 _ _ some (K2 k0) (rr31 c64 c65 c26 p0 p1 p2 p3 k0 1000000) none).trans (by show ob (F31 c64 c65 c26 p0 p1 p2 p3) _=_;rw [hy];rfl)
noncomputable def M31:C31:=F31 M64 M65 M26
theorem sm31:Sp31 M31:=sf31 sm64 sm65 sm26
def X30:Aux:=⟨[],[]⟩
def T30 {R:Type} (B:Ops) (c31:C31) (p0:Int) (p1:L63) (p2:L97) (p3:L101) (p4:L104) (k:(Bool×L97×L101×L104)→Option R):Option R:=cond (B.eq p0 3) (ob (c31 p2 p3 p4 p1) fun y0=>k (!y0,p2,p3,p4)) (k (false,p2,p3,p4))
abbrev K12 {R:Type} (k:AV→Objs→Option R) (y:(Bool×L97×L101×L104)):Option R:=k (.c (.bool y.1)) [(1,.box 37 [.list 97 ty97 y.2.1,.list 101 ty101 y.2.2.1,.list 104 ty104 y.2.2.2])]
theorem eq30 {R:Type} (B:Ops) (c31:C31) (p0:Int) (p1:L63) (p2:L97) (p3:L101) (p4:L104) (k:AV→Objs→Option R) (n:Nat):afun tau B gl0 X30 (ent 31 (e31 c31) gnil) ow Tryz.f30 [.agg [.int .i64 p0,.list 63 ty63 p1],.c (.ptr 1 0)] [(1,.box 37 [.list 97 ty97 p2,.list 101 ty101 p3,.list 104 ty104 p4])] k n=T30 B c31 p0 p1 p2 p3 p4 (K12 k):=by kernel_rfl
theorem nt30 {R R':Type} (B:Ops) (c31:C31) (p0:Int) (p1:L63) (p2:L97) (p3:L101) (p4:L104) (k0:(Bool×L97×L101×L104)→Option R') (k:R'→Option R):T30 B c31 p0 p1 p2 p3 p4 (fun y=>ob (k0 y) k)=ob (T30 B c31 p0 p1 p2 p3 p4 k0) k:=by
 unfold T30
 repeat' first | exact rfl | apply qac | (apply qai;intro)
def F30 (c31:C31) (p0:Int) (p1:L63) (p2:L97) (p3:L101) (p4:L104):Option (Bool×L97×L101×L104):=T30 Ops.std c31 p0 p1 p2 p3 p4 some
abbrev C30:Type:=Int→L63→L97→L101→L104→Option (Bool×L97×L101×L104)
def e30 {R:Type} (c:C30):Ent R:=eG [.aG [.cI .i64,.cL 63 ty63],.aC (.cP 1)] [.oB 1 37 [.cL 97 ty97,.cL 101 ty101,.cL 104 ty104]] fun v k=>ob (c v.1 v.2.1 v.2.2.1 v.2.2.2.1 v.2.2.2.2.1) (K12 k)
abbrev Sp30 (c:C30):Prop:=∀ (p0:Int) (p1:L63) (p2:L97) (p3:L101) (p4:L104) (y:Bool×L97×L101×L104),c p0 p1 p2 p3 p4=some y→Spec Tryz.prog gl0 30 [.agg [.int .i64 p0,.list 63 ty63 p1],.c (.ptr 1 0)] [(1,.box 37 [.list 97 ty97 p2,.list 101 ty101 p3,.list 104 ty104 p4])] (.c (.bool y.1)) [(1,.box 37 [.list 97 ty97 y.2.1,.list 101 ty101 y.2.2.1,.list 104 ty104 y.2.2.2])]
theorem ek30 {R:Type} {c:C30} (hs:Sp30 c):EOk 30 (e30 (R:=R) c):=qak fun v=>hs v.1 v.2.1 v.2.2.1 v.2.2.2.1 v.2.2.2.2.1
theorem sf30 {c31:C31} (h31:Sp31 c31):Sp30 (F30 c31):=fun p0 p1 p2 p3 p4 y hy=>by
 refine qae (qab (ek31 h31) qad) 1000000 (fn:=Tryz.f30) (by kernel_rfl) (by kernel_rfl) (X:=X30) (by kernel_rfl) ?_
 rw [eq30]
 exact (nt30 Ops.std c31 p0 p1 p2 p3 p4 some (K12 k0)).trans (by show ob (F30 c31 p0 p1 p2 p3 p4) _=_;rw [hy];rfl)
noncomputable def M30:C30:=F30 M31
theorem sm30:Sp30 M30:=sf30 sm31
def X63:Aux:=⟨[(2,([2,3,4,5,6]++rg 9 10))],[]⟩
inductive S63 where
 | l0 (v1 v2:Int) (v3:L97) (v4:L101) (v5:L104)
def T63 {R:Type} (B:Ops) (c30:C30) (p0:L61) (p1:L97) (p2:L101) (p3:L104) (again:S63→Option R) (k:(Int×L97×L101×L104)→Option R):Option S63→Option R | none=>again (.l0 (↑p0.length) 0 p1 p2 p3) | some (.l0 v1 v2 v3 v4 v5)=>cond (B.lt v2 v1) (cond (B.inb v2 p0.length) (ob (c30 (p0.getD v2.toNat ty61.dflt).1 (p0.getD v2.toNat ty61.dflt).2 v3 v4 v5) fun y0=>cond y0.1 (k (v2,y0.2.1,y0.2.2.1,y0.2.2.2)) (again (.l0 v1 (IntKind.wrap .i64 (v2+1)) y0.2.1 y0.2.2.1 y0.2.2.2))) none) (k (-1,v3,v4,v5))
def E63 (p0:L61) (p1:L97) (p2:L101) (p3:L104):S63→List AV×Objs
 | .l0 v1 v2 v3 v4 v5=>(mk 19 [(0,.c (.list 61 ty61 p0)),(1,.fn 30 [.ptr 2500 0]),(7,.c (.int .i64 v1)),(8,.c (.int .i64 v2))],[(2500,.box 37 [.list 97 ty97 v3,.list 101 ty101 v4,.list 104 ty104 v5])])
def I63:S63→Nat
 | .l0 _ _ _ _ _=>0
abbrev K13 {R:Type} (k:AV→Objs→Option R) (y:(Int×L97×L101×L104)):Option R:=k (.c (.int .i64 y.1)) [(2500,.box 37 [.list 97 ty97 y.2.1,.list 101 ty101 y.2.2.1,.list 104 ty104 y.2.2.2])]
noncomputable abbrev A63 {R:Type} (B:Ops) (c30:C30) (p0:L61) (p1:L97) (p2:L101) (p3:L104) (k:AV→Objs→Option R) (s:S63) (n:Nat):Option R:=aloop tau B gl0 X63 (ent 30 (e30 c30) gnil) ow [2500] Tryz.f63 k (I63 s) (E63 p0 p1 p2 p3 s) n
theorem eq63 {R:Type} (B:Ops) (c30:C30) (p0:L61) (p1:L97) (p2:L101) (p3:L104) (k:AV→Objs→Option R) (n:Nat):afun tau B gl0 X63 (ent 30 (e30 c30) gnil) ow Tryz.f63 [.c (.list 61 ty61 p0),.fn 30 [.ptr 2500 0]] [(2500,.box 37 [.list 97 ty97 p1,.list 101 ty101 p2,.list 104 ty104 p3])] k n=T63 B c30 p0 p1 p2 p3 (fun s=>A63 B c30 p0 p1 p2 p3 k s n) (K13 k) none:=by kernel_rfl
theorem el63 {R:Type} (B:Ops) (c30:C30) (p0:L61) (p1:L97) (p2:L101) (p3:L104) (k:AV→Objs→Option R) (n:Nat):∀ s,A63 B c30 p0 p1 p2 p3 k s (n+1)=T63 B c30 p0 p1 p2 p3 (fun s=>A63 B c30 p0 p1 p2 p3 k s n) (K13 k) (some s):=by
 intro s
 cases s<;>kernel_rfl
theorem nt63 {R R':Type} (B:Ops) (c30:C30) (p0:L61) (p1:L97) (p2:L101) (p3:L104) (again:S63→Option R) (again':S63→Option R') (k0:(Int×L97×L101×L104)→Option R') (k:R'→Option R) (h:∀ s,again s=ob (again' s) k):∀ s,T63 B c30 p0 p1 p2 p3 again (fun y=>ob (k0 y) k) s=ob (T63 B c30 p0 p1 p2 p3 again' k0 s) k:=by
 rintro (_ | x)
 all_goals try cases x
 all_goals (unfold T63;repeat' first | exact rfl | exact h _ | apply qac | (apply qai;intro))
def R63 (c30:C30) (p0:L61) (p1:L97) (p2:L101) (p3:L104):Nat→S63→Option (Int×L97×L101×L104)
 | 0,_=>none
 | n+1,s=>T63 Ops.std c30 p0 p1 p2 p3 (R63 c30 p0 p1 p2 p3 n) some (some s)
theorem rr63 {R:Type} (c30:C30) (p0:L61) (p1:L97) (p2:L101) (p3:L104) (k:AV→Objs→Option R):∀ (n:Nat) (s:S63),A63 Ops.std c30 p0 p1 p2 p3 k s n=ob (R63 c30 p0 p1 p2 p3 n s) (K13 k)
 | 0,s=>by cases s<;>rfl
 | n+1,s=>by rw [el63];exact nt63 Ops.std c30 p0 p1 p2 p3 _ _ some (K13 k) (rr63 c30 p0 p1 p2 p3 k n) (some s)
def F63 (c30:C30) (p0:L61) (p1:L97) (p2:L101) (p3:L104):Option (Int×L97×L101×L104):=T63 Ops.std c30 p0 p1 p2 p3 (R63 c30 p0 p1 p2 p3 1000000) some none
abbrev C63:Type:=L61→L97→L101→L104→Option (Int×L97×L101×L104)
def e63 {R:Type} (c:C63):Ent R:=eG [.aC (.cL 61 ty61),.aF 30 [.cP 2500]] [.oB 2500 37 [.cL 97 ty97,.cL 101 ty101,.cL 104 ty104]] fun v k=>ob (c v.1 v.2.1 v.2.2.1 v.2.2.2.1) (K13 k)
abbrev Sp63 (c:C63):Prop:=∀ (p0:L61) (p1:L97) (p2:L101) (p3:L104) (y:Int×L97×L101×L104),c p0 p1 p2 p3=some y→Spec Tryz.prog gl0 63 [.c (.list 61 ty61 p0),.fn 30 [.ptr 2500 0]] [(2500,.box 37 [.list 97 ty97 p1,.list 101 ty101 p2,.list 104 ty104 p3])] (.c (.int .i64 y.1)) [(2500,.box 37 [.list 97 ty97 y.2.1,.list 101 ty101 y.2.2.1,.list 104 ty104 y.2.2.2])]
theorem ek63 {R:Type} {c:C63} (hs:Sp63 c):EOk 63 (e63 (R:=R) c):=qak fun v=>hs v.1 v.2.1 v.2.2.1 v.2.2.2.1
theorem sf63 {c30:C30} (h30:Sp30 c30):Sp63 (F63 c30):=fun p0 p1 p2 p3 y hy=>by
 refine qae (qab (ek30 h30) qad) 1000000 (fn:=Tryz.f63) (by kernel_rfl) (by kernel_rfl) (X:=X63) (by kernel_rfl) ?_
 rw [eq63]
 exact (nt63 Ops.std c30 p0 p1 p2 p3 _ _ some (K13 k0) (rr63 c30 p0 p1 p2 p3 k0 1000000) none).trans (by show ob (F63 c30 p0 p1 p2 p3) _=_;rw [hy];rfl)
noncomputable def M63:C63:=F63 M30
theorem sm63:Sp63 M63:=sf63 sm30
def X29:Aux:=⟨[],[]⟩
def T29 {R:Type} (B:Ops) (c63:C63) (c30:C30) (p0:L61) (p1:L97) (p2:L101) (p3:L104) (k:(Bool×L97×L101×L104)→Option R):Option R:=ob (c63 p0 p1 p2 p3) fun y0=>k (B.le 0 y0.1,y0.2.1,y0.2.2.1,y0.2.2.2)
abbrev K14 {R:Type} (k:AV→Objs→Option R) (y:(Bool×L97×L101×L104)):Option R:=k (.c (.bool y.1)) [(2500,.box 37 [.list 97 ty97 y.2.1,.list 101 ty101 y.2.2.1,.list 104 ty104 y.2.2.2])]
theorem eq29 {R:Type} (B:Ops) (c63:C63) (c30:C30) (p0:L61) (p1:L97) (p2:L101) (p3:L104) (k:AV→Objs→Option R) (n:Nat):afun tau B gl0 X29 (ent 63 (e63 c63) (ent 30 (e30 c30) gnil)) ow Tryz.f29 [.c (.list 61 ty61 p0),.fn 30 [.ptr 2500 0]] [(2500,.box 37 [.list 97 ty97 p1,.list 101 ty101 p2,.list 104 ty104 p3])] k n=T29 B c63 c30 p0 p1 p2 p3 (K14 k):=by kernel_rfl
theorem nt29 {R R':Type} (B:Ops) (c63:C63) (c30:C30) (p0:L61) (p1:L97) (p2:L101) (p3:L104) (k0:(Bool×L97×L101×L104)→Option R') (k:R'→Option R):T29 B c63 c30 p0 p1 p2 p3 (fun y=>ob (k0 y) k)=ob (T29 B c63 c30 p0 p1 p2 p3 k0) k:=by
 unfold T29
 repeat' first | exact rfl | apply qac | (apply qai;intro)
def F29 (c63:C63) (c30:C30) (p0:L61) (p1:L97) (p2:L101) (p3:L104):Option (Bool×L97×L101×L104):=T29 Ops.std c63 c30 p0 p1 p2 p3 some
abbrev C29:Type:=L61→L97→L101→L104→Option (Bool×L97×L101×L104)
def e29 {R:Type} (c:C29):Ent R:=eG [.aC (.cL 61 ty61),.aF 30 [.cP 2500]] [.oB 2500 37 [.cL 97 ty97,.cL 101 ty101,.cL 104 ty104]] fun v k=>ob (c v.1 v.2.1 v.2.2.1 v.2.2.2.1) (K14 k)
abbrev Sp29 (c:C29):Prop:=∀ (p0:L61) (p1:L97) (p2:L101) (p3:L104) (y:Bool×L97×L101×L104),c p0 p1 p2 p3=some y→Spec Tryz.prog gl0 29 [.c (.list 61 ty61 p0),.fn 30 [.ptr 2500 0]] [(2500,.box 37 [.list 97 ty97 p1,.list 101 ty101 p2,.list 104 ty104 p3])] (.c (.bool y.1)) [(2500,.box 37 [.list 97 ty97 y.2.1,.list 101 ty101 y.2.2.1,.list 104 ty104 y.2.2.2])]
theorem ek29 {R:Type} {c:C29} (hs:Sp29 c):EOk 29 (e29 (R:=R) c):=qak fun v=>hs v.1 v.2.1 v.2.2.1 v.2.2.2.1
theorem sf29 {c63:C63} {c30:C30} (h63:Sp63 c63) (h30:Sp30 c30):Sp29 (F29 c63 c30):=fun p0 p1 p2 p3 y hy=>by
 refine qae (qab (ek63 h63) (qab (ek30 h30) qad)) 1000000 (fn:=Tryz.f29) (by kernel_rfl) (by kernel_rfl) (X:=X29) (by kernel_rfl) ?_
 rw [eq29]
 exact (nt29 Ops.std c63 c30 p0 p1 p2 p3 some (K14 k0)).trans (by show ob (F29 c63 c30 p0 p1 p2 p3) _=_;rw [hy];rfl)
noncomputable def M29:C29:=F29 M63 M30
theorem sm29:Sp29 M29:=sf29 sm63 sm30
def X11:Aux:=⟨[],[]⟩
def T11 {R:Type} (B:Ops) (c30:C30) (c29:C29) (c9:C9) (p0:L97) (p1:L101) (p2:L104) (p3:L61) (k:(Bool)→Option R):Option R:=ob (c29 p3 p0 p1 p2) fun y0=>ob (c9 p3) fun y1=>cond (y1) (k (!y0.1)) (k false)
theorem eq11 {R:Type} (B:Ops) (c30:C30) (c29:C29) (c9:C9) (p0:L97) (p1:L101) (p2:L104) (p3:L61) (k:AV→Objs→Option R) (n:Nat):afun tau B gl0 X11 (ent 30 (e30 c30) (ent 29 (e29 c29) (ent 9 (e9 c9) gnil))) ow Tryz.f11 [.agg [.list 97 ty97 p0,.list 101 ty101 p1,.list 104 ty104 p2],.c (.list 61 ty61 p3)] [] k n=T11 B c30 c29 c9 p0 p1 p2 p3 (K2 k):=by kernel_rfl
theorem nt11 {R R':Type} (B:Ops) (c30:C30) (c29:C29) (c9:C9) (p0:L97) (p1:L101) (p2:L104) (p3:L61) (k0:(Bool)→Option R') (k:R'→Option R):T11 B c30 c29 c9 p0 p1 p2 p3 (fun y=>ob (k0 y) k)=ob (T11 B c30 c29 c9 p0 p1 p2 p3 k0) k:=by
 unfold T11
 repeat' first | exact rfl | apply qac | (apply qai;intro)
def F11 (c30:C30) (c29:C29) (c9:C9) (p0:L97) (p1:L101) (p2:L104) (p3:L61):Option (Bool):=T11 Ops.std c30 c29 c9 p0 p1 p2 p3 some
abbrev C11:Type:=L97→L101→L104→L61→Option (Bool)
def e11 {R:Type} (c:C11):Ent R:=eG [.aG [.cL 97 ty97,.cL 101 ty101,.cL 104 ty104],.aC (.cL 61 ty61)] [] fun v k=>ob (c v.1 v.2.1 v.2.2.1 v.2.2.2.1) (K2 k)
abbrev Sp11 (c:C11):Prop:=∀ (p0:L97) (p1:L101) (p2:L104) (p3:L61) (y:Bool),c p0 p1 p2 p3=some y→Spec Tryz.prog gl0 11 [.agg [.list 97 ty97 p0,.list 101 ty101 p1,.list 104 ty104 p2],.c (.list 61 ty61 p3)] [] (.c (.bool y)) []
theorem ek11 {R:Type} {c:C11} (hs:Sp11 c):EOk 11 (e11 (R:=R) c):=qak fun v=>hs v.1 v.2.1 v.2.2.1 v.2.2.2.1
theorem sf11 {c30:C30} {c29:C29} {c9:C9} (h30:Sp30 c30) (h29:Sp29 c29) (h9:Sp9 c9):Sp11 (F11 c30 c29 c9):=fun p0 p1 p2 p3 y hy=>by
 refine qae (qab (ek30 h30) (qab (ek29 h29) (qab (ek9 h9) qad))) 1000000 (fn:=Tryz.f11) (by kernel_rfl) (by kernel_rfl) (X:=X11) (by kernel_rfl) ?_
 rw [eq11]
 exact (nt11 Ops.std c30 c29 c9 p0 p1 p2 p3 some (K2 k0)).trans (by show ob (F11 c30 c29 c9 p0 p1 p2 p3) _=_;rw [hy];rfl)
noncomputable def M11:C11:=F11 M30 M29 M9
theorem sm11:Sp11 M11:=sf11 sm30 sm29 sm9
def X69:Aux:=⟨[(4,(rg 2 10++rg 14 12))],[(6,.lin [0,1,2,3,4,5,6,7,8])]⟩
inductive S69 where
 | l0 (v2 v3:Int)
def T69 {R:Type} (B:Ops) (p0 p1:L63) (again:S69→Option R) (k:(Bool)→Option R):Option S69→Option R | none=>cond (!B.eq (↑p0.length) (↑p1.length)) (k false) (again (.l0 (↑p0.length) 0)) | some (.l0 v2 v3)=>cond (B.lt v3 v2) (cond (B.inb v3 p0.length) (cond (B.inb v3 p1.length) (cond (!(B.eq (p0.getD v3.toNat ty63.dflt).1 (p1.getD v3.toNat ty63.dflt).1 && (B.eq ((p0.getD v3.toNat ty63.dflt).2).1 ((p1.getD v3.toNat ty63.dflt).2).1 && ((((p0.getD v3.toNat ty63.dflt).2).2).1 == (((p1.getD v3.toNat ty63.dflt).2).2).1 && ((((p0.getD v3.toNat ty63.dflt).2).2).2 == (((p1.getD v3.toNat ty63.dflt).2).2).2 && true))))) (k false) (again (.l0 v2 (IntKind.wrap .i64 (v3+1))))) none) none) (k true)
def E69 (p0 p1:L63):S69→List AV×Objs
 | .l0 v2 v3=>(mk 26 [(0,.c (.list 63 ty63 p0)),(1,.c (.list 63 ty63 p1)),(12,.c (.int .i64 v2)),(13,.c (.int .i64 v3))],[])
def I69:S69→Nat
 | .l0 _ _=>0
noncomputable abbrev A69 {R:Type} (B:Ops) (p0 p1:L63) (k:AV→Objs→Option R) (s:S69) (n:Nat):Option R:=aloop tau B gl0 X69 gnil ow [] Tryz.f69 k (I69 s) (E69 p0 p1 s) n
theorem eq69 {R:Type} (B:Ops) (p0 p1:L63) (k:AV→Objs→Option R) (n:Nat):afun tau B gl0 X69 gnil ow Tryz.f69 [.c (.list 63 ty63 p0),.c (.list 63 ty63 p1)] [] k n=T69 B p0 p1 (fun s=>A69 B p0 p1 k s n) (K2 k) none:=by kernel_rfl
theorem el69 {R:Type} (B:Ops) (p0 p1:L63) (k:AV→Objs→Option R) (n:Nat):∀ s,A69 B p0 p1 k s (n+1)=T69 B p0 p1 (fun s=>A69 B p0 p1 k s n) (K2 k) (some s):=by
 intro s
 cases s<;>kernel_rfl
theorem nt69 {R R':Type} (B:Ops) (p0 p1:L63) (again:S69→Option R) (again':S69→Option R') (k0:(Bool)→Option R') (k:R'→Option R) (h:∀ s,again s=ob (again' s) k):∀ s,T69 B p0 p1 again (fun y=>ob (k0 y) k) s=ob (T69 B p0 p1 again' k0 s) k:=by
 rintro (_ | x)
 all_goals try cases x
 all_goals (unfold T69;repeat' first | exact rfl | exact h _ | apply qac | (apply qai;intro))
def R69 (p0 p1:L63):Nat→S69→Option (Bool)
 | 0,_=>none
 | n+1,s=>T69 Ops.std p0 p1 (R69 p0 p1 n) some (some s)
theorem rr69 {R:Type} (p0 p1:L63) (k:AV→Objs→Option R):∀ (n:Nat) (s:S69),A69 Ops.std p0 p1 k s n=ob (R69 p0 p1 n s) (K2 k)
 | 0,s=>by cases s<;>rfl
 | n+1,s=>by rw [el69];exact nt69 Ops.std p0 p1 _ _ some (K2 k) (rr69 p0 p1 k n) (some s)
def F69 (p0 p1:L63):Option (Bool):=T69 Ops.std p0 p1 (R69 p0 p1 1000000) some none
abbrev C69:Type:=L63→L63→Option (Bool)
def e69 {R:Type} (c:C69):Ent R:=eG [.aC (.cL 63 ty63),.aC (.cL 63 ty63)] [] fun v k=>ob (c v.1 v.2.1) (K2 k)
abbrev Sp69 (c:C69):Prop:=∀ (p0 p1:L63) (y:Bool),c p0 p1=some y→Spec Tryz.prog gl0 69 [.c (.list 63 ty63 p0),.c (.list 63 ty63 p1)] [] (.c (.bool y)) []
theorem ek69 {R:Type} {c:C69} (hs:Sp69 c):EOk 69 (e69 (R:=R) c):=qak fun v=>hs v.1 v.2.1
theorem sf69:Sp69 (F69):=fun p0 p1 y hy=>by
 refine qae qad 1000000 (fn:=Tryz.f69) (by kernel_rfl) (by kernel_rfl) (X:=X69) (by kernel_rfl) ?_
 rw [eq69]
 exact (nt69 Ops.std p0 p1 _ _ some (K2 k0) (rr69 p0 p1 k0 1000000) none).trans (by show ob (F69 p0 p1) _=_;rw [hy];rfl)
noncomputable def M69:C69:=F69
theorem sm69:Sp69 M69:=sf69
def X35:Aux:=⟨[],[]⟩
def T35 {R:Type} (B:Ops) (c69:C69) (p0 p1:L63) (k:(Bool)→Option R):Option R:=ob (c69 p0 p1) fun y0=>k y0
theorem eq35 {R:Type} (B:Ops) (c69:C69) (p0 p1:L63) (k:AV→Objs→Option R) (n:Nat):afun tau B gl0 X35 (ent 69 (e69 c69) gnil) ow Tryz.f35 [.c (.list 63 ty63 p0),.c (.list 63 ty63 p1)] [] k n=T35 B c69 p0 p1 (K2 k):=by kernel_rfl
theorem nt35 {R R':Type} (B:Ops) (c69:C69) (p0 p1:L63) (k0:(Bool)→Option R') (k:R'→Option R):T35 B c69 p0 p1 (fun y=>ob (k0 y) k)=ob (T35 B c69 p0 p1 k0) k:=by
 unfold T35
 repeat' first | exact rfl | apply qac | (apply qai;intro)
def F35 (c69:C69) (p0 p1:L63):Option (Bool):=T35 Ops.std c69 p0 p1 some
abbrev C35:Type:=L63→L63→Option (Bool)
def e35 {R:Type} (c:C35):Ent R:=eG [.aC (.cL 63 ty63),.aC (.cL 63 ty63)] [] fun v k=>ob (c v.1 v.2.1) (K2 k)
abbrev Sp35 (c:C35):Prop:=∀ (p0 p1:L63) (y:Bool),c p0 p1=some y→Spec Tryz.prog gl0 35 [.c (.list 63 ty63 p0),.c (.list 63 ty63 p1)] [] (.c (.bool y)) []
theorem ek35 {R:Type} {c:C35} (hs:Sp35 c):EOk 35 (e35 (R:=R) c):=qak fun v=>hs v.1 v.2.1
theorem sf35 {c69:C69} (h69:Sp69 c69):Sp35 (F35 c69):=fun p0 p1 y hy=>by
 refine qae (qab (ek69 h69) qad) 1000000 (fn:=Tryz.f35) (by kernel_rfl) (by kernel_rfl) (X:=X35) (by kernel_rfl) ?_
 rw [eq35]
 exact (nt35 Ops.std c69 p0 p1 some (K2 k0)).trans (by show ob (F35 c69 p0 p1) _=_;rw [hy];rfl)
noncomputable def M35:C35:=F35 M69
theorem sm35:Sp35 M35:=sf35 sm69
def X34:Aux:=⟨[],[]⟩
def T34 {R:Type} (B:Ops) (c35:C35) (p0:Int) (p1:L63) (p2:Int) (p3:L63) (k:(Bool)→Option R):Option R:=cond (B.eq p0 p2) (ob (c35 p1 p3) fun y0=>k y0) (k false)
theorem eq34 {R:Type} (B:Ops) (c35:C35) (p0:Int) (p1:L63) (p2:Int) (p3:L63) (k:AV→Objs→Option R) (n:Nat):afun tau B gl0 X34 (ent 35 (e35 c35) gnil) ow Tryz.f34 [.agg [.int .i64 p0,.list 63 ty63 p1],.agg [.int .i64 p2,.list 63 ty63 p3]] [] k n=T34 B c35 p0 p1 p2 p3 (K2 k):=by kernel_rfl
theorem nt34 {R R':Type} (B:Ops) (c35:C35) (p0:Int) (p1:L63) (p2:Int) (p3:L63) (k0:(Bool)→Option R') (k:R'→Option R):T34 B c35 p0 p1 p2 p3 (fun y=>ob (k0 y) k)=ob (T34 B c35 p0 p1 p2 p3 k0) k:=by
 unfold T34
 repeat' first | exact rfl | apply qac | (apply qai;intro)
def F34 (c35:C35) (p0:Int) (p1:L63) (p2:Int) (p3:L63):Option (Bool):=T34 Ops.std c35 p0 p1 p2 p3 some
abbrev C34:Type:=Int→L63→Int→L63→Option (Bool)
def e34 {R:Type} (c:C34):Ent R:=eG [.aG [.cI .i64,.cL 63 ty63],.aG [.cI .i64,.cL 63 ty63]] [] fun v k=>ob (c v.1 v.2.1 v.2.2.1 v.2.2.2.1) (K2 k)
abbrev Sp34 (c:C34):Prop:=∀ (p0:Int) (p1:L63) (p2:Int) (p3:L63) (y:Bool),c p0 p1 p2 p3=some y→Spec Tryz.prog gl0 34 [.agg [.int .i64 p0,.list 63 ty63 p1],.agg [.int .i64 p2,.list 63 ty63 p3]] [] (.c (.bool y)) []
theorem ek34 {R:Type} {c:C34} (hs:Sp34 c):EOk 34 (e34 (R:=R) c):=qak fun v=>hs v.1 v.2.1 v.2.2.1 v.2.2.2.1
theorem sf34 {c35:C35} (h35:Sp35 c35):Sp34 (F34 c35):=fun p0 p1 p2 p3 y hy=>by
 refine qae (qab (ek35 h35) qad) 1000000 (fn:=Tryz.f34) (by kernel_rfl) (by kernel_rfl) (X:=X34) (by kernel_rfl) ?_
 rw [eq34]
 exact (nt34 Ops.std c35 p0 p1 p2 p3 some (K2 k0)).trans (by show ob (F34 c35 p0 p1 p2 p3) _=_;rw [hy];rfl)
noncomputable def M34:C34:=F34 M35
theorem sm34:Sp34 M34:=sf34 sm35
def X33:Aux:=⟨[(4,([0]++rg 3 12++rg 18 14))],[]⟩
inductive S33 where
 | l0 (v2 v3:Int)
def T33 {R:Type} (B:Ops) (c34:C34) (p0 p1:L61) (again:S33→Option R) (k:(Bool)→Option R):Option S33→Option R | none=>cond (!B.eq (↑p0.length) (↑p1.length)) (k false) (again (.l0 (↑p0.length) 0)) | some (.l0 v2 v3)=>cond (B.lt v3 v2) (cond (B.inb v3 p0.length) (cond (B.inb v3 p1.length) (ob (c34 (p0.getD v3.toNat ty61.dflt).1 (p0.getD v3.toNat ty61.dflt).2 (p1.getD v3.toNat ty61.dflt).1 (p1.getD v3.toNat ty61.dflt).2) fun y0=>cond (!y0) (k false) (again (.l0 v2 (IntKind.wrap .i64 (v3+1))))) none) none) (k true)
def E33 (p0 p1:L61):S33→List AV×Objs
 | .l0 v2 v3=>(mk 32 [(1,.c (.list 61 ty61 p1)),(2,.fn 34 []),(15,.c (.list 61 ty61 p0)),(16,.c (.int .i64 v2)),(17,.c (.int .i64 v3))],[])
def I33:S33→Nat
 | .l0 _ _=>0
noncomputable abbrev A33 {R:Type} (B:Ops) (c34:C34) (p0 p1:L61) (k:AV→Objs→Option R) (s:S33) (n:Nat):Option R:=aloop tau B gl0 X33 (ent 34 (e34 c34) gnil) ow [] Tryz.f33 k (I33 s) (E33 p0 p1 s) n
theorem eq33 {R:Type} (B:Ops) (c34:C34) (p0 p1:L61) (k:AV→Objs→Option R) (n:Nat):afun tau B gl0 X33 (ent 34 (e34 c34) gnil) ow Tryz.f33 [.c (.list 61 ty61 p0),.c (.list 61 ty61 p1),.fn 34 []] [] k n=T33 B c34 p0 p1 (fun s=>A33 B c34 p0 p1 k s n) (K2 k) none:=by kernel_rfl
theorem el33 {R:Type} (B:Ops) (c34:C34) (p0 p1:L61) (k:AV→Objs→Option R) (n:Nat):∀ s,A33 B c34 p0 p1 k s (n+1)=T33 B c34 p0 p1 (fun s=>A33 B c34 p0 p1 k s n) (K2 k) (some s):=by
 intro s
 cases s<;>kernel_rfl
theorem nt33 {R R':Type} (B:Ops) (c34:C34) (p0 p1:L61) (again:S33→Option R) (again':S33→Option R') (k0:(Bool)→Option R') (k:R'→Option R) (h:∀ s,again s=ob (again' s) k):∀ s,T33 B c34 p0 p1 again (fun y=>ob (k0 y) k) s=ob (T33 B c34 p0 p1 again' k0 s) k:=by
 rintro (_ | x)
 all_goals try cases x
 all_goals (unfold T33;repeat' first | exact rfl | exact h _ | apply qac | (apply qai;intro))
def R33 (c34:C34) (p0 p1:L61):Nat→S33→Option (Bool)
 | 0,_=>none
 | n+1,s=>T33 Ops.std c34 p0 p1 (R33 c34 p0 p1 n) some (some s)
theorem rr33 {R:Type} (c34:C34) (p0 p1:L61) (k:AV→Objs→Option R):∀ (n:Nat) (s:S33),A33 Ops.std c34 p0 p1 k s n=ob (R33 c34 p0 p1 n s) (K2 k)
 | 0,s=>by cases s<;>rfl
 | n+1,s=>by rw [el33];exact nt33 Ops.std c34 p0 p1 _ _ some (K2 k) (rr33 c34 p0 p1 k n) (some s)
def F33 (c34:C34) (p0 p1:L61):Option (Bool):=T33 Ops.std c34 p0 p1 (R33 c34 p0 p1 1000000) some none
abbrev C33:Type:=L61→L61→Option (Bool)
def e33 {R:Type} (c:C33):Ent R:=eG [.aC (.cL 61 ty61),.aC (.cL 61 ty61),.aF 34 []] [] fun v k=>ob (c v.1 v.2.1) (K2 k)
abbrev Sp33 (c:C33):Prop:=∀ (p0 p1:L61) (y:Bool),c p0 p1=some y→Spec Tryz.prog gl0 33 [.c (.list 61 ty61 p0),.c (.list 61 ty61 p1),.fn 34 []] [] (.c (.bool y)) []
theorem ek33 {R:Type} {c:C33} (hs:Sp33 c):EOk 33 (e33 (R:=R) c):=qak fun v=>hs v.1 v.2.1
theorem sf33 {c34:C34} (h34:Sp34 c34):Sp33 (F33 c34):=fun p0 p1 y hy=>by
 refine qae (qab (ek34 h34) qad) 1000000 (fn:=Tryz.f33) (by kernel_rfl) (by kernel_rfl) (X:=X33) (by kernel_rfl) ?_
 rw [eq33]
 exact (nt33 Ops.std c34 p0 p1 _ _ some (K2 k0) (rr33 c34 p0 p1 k0 1000000) none).trans (by show ob (F33 c34 p0 p1) _=_;rw [hy];rfl)
noncomputable def M33:C33:=F33 M34
theorem sm33:Sp33 M33:=sf33 sm34
def X13:Aux:=⟨[],[]⟩
def T13 {R:Type} (B:Ops) (c33:C33) (c34:C34) (p0 p1:L61) (k:(Bool)→Option R):Option R:=ob (c33 p0 p1) fun y0=>k y0
theorem eq13 {R:Type} (B:Ops) (c33:C33) (c34:C34) (p0 p1:L61) (k:AV→Objs→Option R) (n:Nat):afun tau B gl0 X13 (ent 33 (e33 c33) (ent 34 (e34 c34) gnil)) ow Tryz.f13 [.c (.list 61 ty61 p0),.c (.list 61 ty61 p1)] [] k n=T13 B c33 c34 p0 p1 (K2 k):=by kernel_rfl
theorem nt13 {R R':Type} (B:Ops) (c33:C33) (c34:C34) (p0 p1:L61) (k0:(Bool)→Option R') (k:R'→Option R):T13 B c33 c34 p0 p1 (fun y=>ob (k0 y) k)=ob (T13 B c33 c34 p0 p1 k0) k:=by
 unfold T13
 repeat' first | exact rfl | apply qac | (apply qai;intro)
def F13 (c33:C33) (c34:C34) (p0 p1:L61):Option (Bool):=T13 Ops.std c33 c34 p0 p1 some
abbrev C13:Type:=L61→L61→Option (Bool)
def e13 {R:Type} (c:C13):Ent R:=eG [.aC (.cL 61 ty61),.aC (.cL 61 ty61)] [] fun v k=>ob (c v.1 v.2.1) (K2 k)
abbrev Sp13 (c:C13):Prop:=∀ (p0 p1:L61) (y:Bool),c p0 p1=some y→Spec Tryz.prog gl0 13 [.c (.list 61 ty61 p0),.c (.list 61 ty61 p1)] [] (.c (.bool y)) []
theorem ek13 {R:Type} {c:C13} (hs:Sp13 c):EOk 13 (e13 (R:=R) c):=qak fun v=>hs v.1 v.2.1
theorem sf13 {c33:C33} {c34:C34} (h33:Sp33 c33) (h34:Sp34 c34):Sp13 (F13 c33 c34):=fun p0 p1 y hy=>by
 refine qae (qab (ek33 h33) (qab (ek34 h34) qad)) 1000000 (fn:=Tryz.f13) (by kernel_rfl) (by kernel_rfl) (X:=X13) (by kernel_rfl) ?_
 rw [eq13]
 exact (nt13 Ops.std c33 c34 p0 p1 some (K2 k0)).trans (by show ob (F13 c33 c34 p0 p1) _=_;rw [hy];rfl)
noncomputable def M13:C13:=F13 M33 M34
theorem sm13:Sp13 M13:=sf13 sm33 sm34
def X106:Aux:=⟨[(2,([2,3,4,5,6]++rg 9 10))],[]⟩
inductive S106 where
 | l0 (v2 v3:Int)
def T106 {R:Type} (B:Ops) (p0:L5) (p1:Int) (again:S106→Option R) (k:(Int)→Option R):Option S106→Option R | none=>again (.l0 (↑p0.length) 0) | some (.l0 v2 v3)=>cond (B.lt v3 v2) (cond (B.inb v3 p0.length) (cond (B.eq p1 (p0.getD v3.toNat ty5.dflt)) (k v3) (again (.l0 v2 (IntKind.wrap .i64 (v3+1))))) none) (k (-1))
def E106 (p0:L5) (p1:Int):S106→List AV×Objs
 | .l0 v2 v3=>(mk 19 [(0,.c (.list 5 ty5 p0)),(1,.c (.int .u8 p1)),(7,.c (.int .i64 v2)),(8,.c (.int .i64 v3))],[])
def I106:S106→Nat
 | .l0 _ _=>0
noncomputable abbrev A106 {R:Type} (B:Ops) (p0:L5) (p1:Int) (k:AV→Objs→Option R) (s:S106) (n:Nat):Option R:=aloop tau B gl0 X106 gnil ow [] Tryz.f106 k (I106 s) (E106 p0 p1 s) n
theorem eq106 {R:Type} (B:Ops) (p0:L5) (p1:Int) (k:AV→Objs→Option R) (n:Nat):afun tau B gl0 X106 gnil ow Tryz.f106 [.c (.list 5 ty5 p0),.c (.int .u8 p1)] [] k n=T106 B p0 p1 (fun s=>A106 B p0 p1 k s n) (K1 k) none:=by kernel_rfl
theorem el106 {R:Type} (B:Ops) (p0:L5) (p1:Int) (k:AV→Objs→Option R) (n:Nat):∀ s,A106 B p0 p1 k s (n+1)=T106 B p0 p1 (fun s=>A106 B p0 p1 k s n) (K1 k) (some s):=by
 intro s
 cases s<;>kernel_rfl
theorem nt106 {R R':Type} (B:Ops) (p0:L5) (p1:Int) (again:S106→Option R) (again':S106→Option R') (k0:(Int)→Option R') (k:R'→Option R) (h:∀ s,again s=ob (again' s) k):∀ s,T106 B p0 p1 again (fun y=>ob (k0 y) k) s=ob (T106 B p0 p1 again' k0 s) k:=by
 rintro (_ | x)
 all_goals try cases x
 all_goals (unfold T106;repeat' first | exact rfl | exact h _ | apply qac | (apply qai;intro))
def R106 (p0:L5) (p1:Int):Nat→S106→Option (Int)
 | 0,_=>none
 | n+1,s=>T106 Ops.std p0 p1 (R106 p0 p1 n) some (some s)
theorem rr106 {R:Type} (p0:L5) (p1:Int) (k:AV→Objs→Option R):∀ (n:Nat) (s:S106),A106 Ops.std p0 p1 k s n=ob (R106 p0 p1 n s) (K1 k)
 | 0,s=>by cases s<;>rfl
 | n+1,s=>by rw [el106];exact nt106 Ops.std p0 p1 _ _ some (K1 k) (rr106 p0 p1 k n) (some s)
def F106 (p0:L5) (p1:Int):Option (Int):=T106 Ops.std p0 p1 (R106 p0 p1 1000000) some none
abbrev C106:Type:=L5→Int→Option (Int)
def e106 {R:Type} (c:C106):Ent R:=eG [.aC (.cL 5 ty5),.aC (.cI .u8)] [] fun v k=>ob (c v.1 v.2.1) (K1 k)
abbrev Sp106 (c:C106):Prop:=∀ (p0:L5) (p1 y:Int),c p0 p1=some y→Spec Tryz.prog gl0 106 [.c (.list 5 ty5 p0),.c (.int .u8 p1)] [] (.c (.int .i64 y)) []
theorem ek106 {R:Type} {c:C106} (hs:Sp106 c):EOk 106 (e106 (R:=R) c):=qak fun v=>hs v.1 v.2.1
theorem sf106:Sp106 (F106):=fun p0 p1 y hy=>by
 refine qae qad 1000000 (fn:=Tryz.f106) (by kernel_rfl) (by kernel_rfl) (X:=X106) (by kernel_rfl) ?_
 rw [eq106]
 exact (nt106 Ops.std p0 p1 _ _ some (K1 k0) (rr106 p0 p1 k0 1000000) none).trans (by show ob (F106 p0 p1) _=_;rw [hy];rfl)
noncomputable def M106:C106:=F106
theorem sm106:Sp106 M106:=sf106
def X77:Aux:=⟨[],[]⟩
def T77 {R:Type} (B:Ops) (c106:C106) (p0:L5) (p1:Int) (k:(Bool)→Option R):Option R:=ob (c106 p0 p1) fun y0=>k (B.le 0 y0)
theorem eq77 {R:Type} (B:Ops) (c106:C106) (p0:L5) (p1:Int) (k:AV→Objs→Option R) (n:Nat):afun tau B gl0 X77 (ent 106 (e106 c106) gnil) ow Tryz.f77 [.c (.list 5 ty5 p0),.c (.int .u8 p1)] [] k n=T77 B c106 p0 p1 (K2 k):=by kernel_rfl
theorem nt77 {R R':Type} (B:Ops) (c106:C106) (p0:L5) (p1:Int) (k0:(Bool)→Option R') (k:R'→Option R):T77 B c106 p0 p1 (fun y=>ob (k0 y) k)=ob (T77 B c106 p0 p1 k0) k:=by
 unfold T77
 repeat' first | exact rfl | apply qac | (apply qai;intro)
def F77 (c106:C106) (p0:L5) (p1:Int):Option (Bool):=T77 Ops.std c106 p0 p1 some
abbrev C77:Type:=L5→Int→Option (Bool)
def e77 {R:Type} (c:C77):Ent R:=eG [.aC (.cL 5 ty5),.aC (.cI .u8)] [] fun v k=>ob (c v.1 v.2.1) (K2 k)
abbrev Sp77 (c:C77):Prop:=∀ (p0:L5) (p1:Int) (y:Bool),c p0 p1=some y→Spec Tryz.prog gl0 77 [.c (.list 5 ty5 p0),.c (.int .u8 p1)] [] (.c (.bool y)) []
theorem ek77 {R:Type} {c:C77} (hs:Sp77 c):EOk 77 (e77 (R:=R) c):=qak fun v=>hs v.1 v.2.1
theorem sf77 {c106:C106} (h106:Sp106 c106):Sp77 (F77 c106):=fun p0 p1 y hy=>by
 refine qae (qab (ek106 h106) qad) 1000000 (fn:=Tryz.f77) (by kernel_rfl) (by kernel_rfl) (X:=X77) (by kernel_rfl) ?_
 rw [eq77]
 exact (nt77 Ops.std c106 p0 p1 some (K2 k0)).trans (by show ob (F77 c106 p0 p1) _=_;rw [hy];rfl)
noncomputable def M77:C77:=F77 M106
theorem sm77:Sp77 M77:=sf77 sm106
def X109:Aux:=⟨[(3,([1,2,4,5]++rg 8 12))],[]⟩
inductive S109 where
 | l0 (v1 v2 v3:Int)
def T109 {R:Type} (B:Ops) (p0:LB) (again:S109→Option R) (k:(Int)→Option R):Option S109→Option R | none=>again (.l0 0 (↑p0.length) 0) | some (.l0 v1 v2 v3)=>cond (B.lt v3 v2) (cond (B.inb v3 p0.length) (again (.l0 (IntKind.wrap .i64 (IntKind.wrap .i64 (10*v1)+IntKind.wrap .i64 (IntKind.wrap IntKind.u8 (Nat.cast (UInt8.toNat (p0.getD v3.toNat 0))-48)))) v2 (IntKind.wrap .i64 (v3+1)))) none) (k v1)
def E109 (p0:LB):S109→List AV×Objs
 | .l0 v1 v2 v3=>(mk 20 [(0,.c (.str p0)),(3,.c (.int .i64 v1)),(6,.c (.int .i64 v2)),(7,.c (.int .i64 v3))],[])
def I109:S109→Nat
 | .l0 _ _ _=>0
noncomputable abbrev A109 {R:Type} (B:Ops) (p0:LB) (k:AV→Objs→Option R) (s:S109) (n:Nat):Option R:=aloop tau B gl0 X109 gnil ow [] Tryz.f109 k (I109 s) (E109 p0 s) n
theorem eq109 {R:Type} (B:Ops) (p0:LB) (k:AV→Objs→Option R) (n:Nat):afun tau B gl0 X109 gnil ow Tryz.f109 [.c (.str p0)] [] k n=T109 B p0 (fun s=>A109 B p0 k s n) (K1 k) none:=by kernel_rfl
theorem el109 {R:Type} (B:Ops) (p0:LB) (k:AV→Objs→Option R) (n:Nat):∀ s,A109 B p0 k s (n+1)=T109 B p0 (fun s=>A109 B p0 k s n) (K1 k) (some s):=by
 intro s
 cases s<;>kernel_rfl
theorem nt109 {R R':Type} (B:Ops) (p0:LB) (again:S109→Option R) (again':S109→Option R') (k0:(Int)→Option R') (k:R'→Option R) (h:∀ s,again s=ob (again' s) k):∀ s,T109 B p0 again (fun y=>ob (k0 y) k) s=ob (T109 B p0 again' k0 s) k:=by
 rintro (_ | x)
 all_goals try cases x
 all_goals (unfold T109;repeat' first | exact rfl | exact h _ | apply qac | (apply qai;intro))
def R109 (p0:LB):Nat→S109→Option (Int)
 | 0,_=>none
 | n+1,s=>T109 Ops.std p0 (R109 p0 n) some (some s)
theorem rr109 {R:Type} (p0:LB) (k:AV→Objs→Option R):∀ (n:Nat) (s:S109),A109 Ops.std p0 k s n=ob (R109 p0 n s) (K1 k)
 | 0,s=>by cases s<;>rfl
 | n+1,s=>by rw [el109];exact nt109 Ops.std p0 _ _ some (K1 k) (rr109 p0 k n) (some s)
def F109 (p0:LB):Option (Int):=T109 Ops.std p0 (R109 p0 1000000) some none
abbrev C109:Type:=LB→Option (Int)
def e109 {R:Type} (c:C109):Ent R:=eG [.aC .cS] [] fun v k=>ob (c v.1) (K1 k)
abbrev Sp109 (c:C109):Prop:=∀ (p0:LB) (y:Int),c p0=some y→Spec Tryz.prog gl0 109 [.c (.str p0)] [] (.c (.int .i64 y)) []
theorem ek109 {R:Type} {c:C109} (hs:Sp109 c):EOk 109 (e109 (R:=R) c):=qak fun v=>hs v.1
theorem sf109:Sp109 (F109):=fun p0 y hy=>by
 refine qae qad 1000000 (fn:=Tryz.f109) (by kernel_rfl) (by kernel_rfl) (X:=X109) (by kernel_rfl) ?_
 rw [eq109]
 exact (nt109 Ops.std p0 _ _ some (K1 k0) (rr109 p0 k0 1000000) none).trans (by show ob (F109 p0) _=_;rw [hy];rfl)
noncomputable def M109:C109:=F109
theorem sm109:Sp109 M109:=sf109
def X112:Aux:=⟨[],[]⟩
def T112 {R:Type} (B:Ops) (k:(L9)→Option R):Option R:=k (([60,61]:LB)::([62,61]:LB)::([61,61]:LB)::([33,61]:LB)::([38,38]:LB)::([124,124]:LB)::([45,62]:LB)::([40]:LB)::([41]:LB)::([91]:LB)::([93]:LB)::([43]:LB)::([45]:LB)::([42]:LB)::([60]:LB)::([62]:LB)::([33]:LB)::([64]:LB)::([59]:LB)::([61]:LB)::mt (Ty.den Ty.str))
abbrev K15 {R:Type} (k:AV→Objs→Option R) (y:(L9)):Option R:=k (.c (.own 500)) [(500,.row 9 ty9 y)]
theorem eq112 {R:Type} (B:Ops) (k:AV→Objs→Option R) (n:Nat):afun tau B gl0 X112 gnil ow Tryz.f112 [] [] k n=T112 B (K15 k):=by kernel_rfl
theorem nt112 {R R':Type} (B:Ops) (k0:(L9)→Option R') (k:R'→Option R):T112 B (fun y=>ob (k0 y) k)=ob (T112 B k0) k:=by
 unfold T112
 repeat' first | exact rfl | apply qac | (apply qai;intro)
def F112:Option (L9):=T112 Ops.std some
abbrev C112:Type:=Option (L9)
def e112 {R:Type} (c:C112):Ent R:=eG [] [] fun _ k=>ob c (K15 k)
abbrev Sp112 (c:C112):Prop:=∀ (y:L9),c=some y→Spec Tryz.prog gl0 112 [] [] (.c (.own 500)) [(500,.row 9 ty9 y)]
theorem ek112 {R:Type} {c:C112} (hs:Sp112 c):EOk 112 (e112 (R:=R) c):=qak fun _=>hs
theorem sf112:Sp112 (F112):=fun y hy=>by
 refine qae qad 1000000 (fn:=Tryz.f112) (by kernel_rfl) (by kernel_rfl) (X:=X112) (by kernel_rfl) ?_
 rw [eq112]
 exact (nt112 Ops.std some (K15 k0)).trans (by show ob (F112) _=_;rw [hy];rfl)
noncomputable def M112:C112:=F112
theorem sm112:Sp112 M112:=sf112
def X126:Aux:=⟨[],[]⟩
def T126 {R:Type} (B:Ops) (p0 p1:LB) (k:(Bool)→Option R):Option R:=cond (B.le (↑p1.length) (↑p0.length)) (cond (B.inb (↑p1.length) (List.length p0+1)) (k (List.drop 0 (List.take (Int.toNat (↑p1.length)) p0) == p1)) none) (k false)
theorem eq126 {R:Type} (B:Ops) (p0 p1:LB) (k:AV→Objs→Option R) (n:Nat):afun tau B gl0 X126 gnil ow Tryz.f126 [.c (.str p0),.c (.str p1)] [] k n=T126 B p0 p1 (K2 k):=by kernel_rfl
theorem nt126 {R R':Type} (B:Ops) (p0 p1:LB) (k0:(Bool)→Option R') (k:R'→Option R):T126 B p0 p1 (fun y=>ob (k0 y) k)=ob (T126 B p0 p1 k0) k:=by
 unfold T126
 repeat' first | exact rfl | apply qac | (apply qai;intro)
def F126 (p0 p1:LB):Option (Bool):=T126 Ops.std p0 p1 some
abbrev C126:Type:=LB→LB→Option (Bool)
def e126 {R:Type} (c:C126):Ent R:=eG [.aC .cS,.aC .cS] [] fun v k=>ob (c v.1 v.2.1) (K2 k)
abbrev Sp126 (c:C126):Prop:=∀ (p0 p1:LB) (y:Bool),c p0 p1=some y→Spec Tryz.prog gl0 126 [.c (.str p0),.c (.str p1)] [] (.c (.bool y)) []
theorem ek126 {R:Type} {c:C126} (hs:Sp126 c):EOk 126 (e126 (R:=R) c):=qak fun v=>hs v.1 v.2.1
theorem sf126:Sp126 (F126):=fun p0 p1 y hy=>by
 refine qae qad 1000000 (fn:=Tryz.f126) (by kernel_rfl) (by kernel_rfl) (X:=X126) (by kernel_rfl) ?_
 rw [eq126]
 exact (nt126 Ops.std p0 p1 some (K2 k0)).trans (by show ob (F126 p0 p1) _=_;rw [hy];rfl)
noncomputable def M126:C126:=F126
theorem sm126:Sp126 M126:=sf126
def X113:Aux:=⟨[],[]⟩
def T113 {R:Type} (B:Ops) (c126:C126) (p0 p1:LB) (k:(Bool)→Option R):Option R:=ob (c126 p0 p1) fun y0=>k y0
theorem eq113 {R:Type} (B:Ops) (c126:C126) (p0 p1:LB) (k:AV→Objs→Option R) (n:Nat):afun tau B gl0 X113 (ent 126 (e126 c126) gnil) ow Tryz.f113 [.c (.str p0),.c (.str p1)] [] k n=T113 B c126 p0 p1 (K2 k):=by kernel_rfl
theorem nt113 {R R':Type} (B:Ops) (c126:C126) (p0 p1:LB) (k0:(Bool)→Option R') (k:R'→Option R):T113 B c126 p0 p1 (fun y=>ob (k0 y) k)=ob (T113 B c126 p0 p1 k0) k:=by
 unfold T113
 repeat' first | exact rfl | apply qac | (apply qai;intro)
def F113 (c126:C126) (p0 p1:LB):Option (Bool):=T113 Ops.std c126 p0 p1 some
abbrev C113:Type:=LB→LB→Option (Bool)
def e113 {R:Type} (c:C113):Ent R:=eG [.aC .cS,.aC .cS] [] fun v k=>ob (c v.1 v.2.1) (K2 k)
abbrev Sp113 (c:C113):Prop:=∀ (p0 p1:LB) (y:Bool),c p0 p1=some y→Spec Tryz.prog gl0 113 [.c (.str p0),.c (.str p1)] [] (.c (.bool y)) []
theorem ek113 {R:Type} {c:C113} (hs:Sp113 c):EOk 113 (e113 (R:=R) c):=qak fun v=>hs v.1 v.2.1
theorem sf113 {c126:C126} (h126:Sp126 c126):Sp113 (F113 c126):=fun p0 p1 y hy=>by
 refine qae (qab (ek126 h126) qad) 1000000 (fn:=Tryz.f113) (by kernel_rfl) (by kernel_rfl) (X:=X113) (by kernel_rfl) ?_
 rw [eq113]
 exact (nt113 Ops.std c126 p0 p1 some (K2 k0)).trans (by show ob (F113 c126 p0 p1) _=_;rw [hy];rfl)
noncomputable def M113:C113:=F113 M126
theorem sm113:Sp113 M113:=sf113 sm126
def X78:Aux:=⟨[(15,([1]++rg 3 39++rg 45 10))],[]⟩
inductive S78 where
 | l0 (v1 v2:Int) (v7:L9)
def T78 {R:Type} (B:Ops) (c107:C107) (c108:C108) (c185:C185) (c109:C109) (c110:C110) (c111:C111) (c77:C77) (c112:C112) (c113:C113) (p0:LB) (again:S78→Option R) (k:(Int×LB×Int×Int)→Option R):Option S78→Option R | none=>cond (B.inb 0 p0.length) (ob (c107 (Nat.cast (UInt8.toNat (p0.getD (Int.toNat 0) 0)))) fun y0=>cond (y0) (ob (c185 p0) fun y1=>cond (B.le (↑y1.length) 3) (ob (c109 y1) fun y2=>k (1,y1,y2,0)) (k (0,mt UInt8,0,0))) (ob (c110 (Nat.cast (UInt8.toNat (p0.getD (Int.toNat 0) 0)))) fun y1=>cond (y1) (ob (c108 p0) fun y2=>cond (B.le (↑y2.length) 8) (k (2,y2,0,0)) (k (0,mt UInt8,0,0))) (ob (c77 (88::70::71::85::82::mt (Ty.den (Ty.int .u8))) (Nat.cast (UInt8.toNat (p0.getD (Int.toNat 0) 0)))) fun y2=>cond (y2) (cond (B.inb 1 (List.length p0+1)) (k ((3,List.drop 0 (List.take (Int.toNat 1) p0),0,0))) none) (ob (c112) fun y3=>again (.l0 (↑y3.length) 0 y3))))) none | some (.l0 v1 v2 v7)=>cond (B.lt v2 v1) (cond (B.inb v2 v7.length) (ob (c113 p0 (v7.getD v2.toNat ty9.dflt)) fun y0=>cond (y0) (k (4,v7.getD v2.toNat ty9.dflt,0,0)) (again (.l0 v1 (IntKind.wrap .i64 (v2+1)) v7))) none) (k (0,mt UInt8,0,0))
def E78 (p0:LB):S78→List AV×Objs
 | .l0 v1 v2 v7=>(mk 55 [(0,.c (.str p0)),(2,.c (.ptr 2 0)),(42,.c (.own 42)),(43,.c (.int .i64 v1)),(44,.c (.int .i64 v2))],[(2,.box 52 [.int .i64 0,.str (mt UInt8),.int .i64 0,.int .i64 0]),(42,.row 9 ty9 v7)])
def I78:S78→Nat
 | .l0 _ _ _=>0
abbrev K16 {R:Type} (k:AV→Objs→Option R) (y:(Int×LB×Int×Int)):Option R:=k (.agg [.int .i64 y.1,.str y.2.1,.int .i64 y.2.2.1,.int .i64 y.2.2.2]) []
noncomputable abbrev A78 {R:Type} (B:Ops) (c107:C107) (c108:C108) (c185:C185) (c109:C109) (c110:C110) (c111:C111) (c77:C77) (c112:C112) (c113:C113) (p0:LB) (k:AV→Objs→Option R) (s:S78) (n:Nat):Option R:=aloop tau B gl0 X78 (ent 107 (e107 c107) (ent 108 (eAlt 1 111 (e108 c108) (e185 c185)) (ent 109 (e109 c109) (ent 110 (e110 c110) (ent 111 (e111 c111) (ent 77 (e77 c77) (ent 112 (e112 c112) (ent 113 (e113 c113) gnil)))))))) ow [] Tryz.f78 k (I78 s) (E78 p0 s) n
theorem eq78 {R:Type} (B:Ops) (c107:C107) (c108:C108) (c185:C185) (c109:C109) (c110:C110) (c111:C111) (c77:C77) (c112:C112) (c113:C113) (p0:LB) (k:AV→Objs→Option R) (n:Nat):afun tau B gl0 X78 (ent 107 (e107 c107) (ent 108 (eAlt 1 111 (e108 c108) (e185 c185)) (ent 109 (e109 c109) (ent 110 (e110 c110) (ent 111 (e111 c111) (ent 77 (e77 c77) (ent 112 (e112 c112) (ent 113 (e113 c113) gnil)))))))) ow Tryz.f78 [.c (.str p0)] [] k n=T78 B c107 c108 c185 c109 c110 c111 c77 c112 c113 p0 (fun s=>A78 B c107 c108 c185 c109 c110 c111 c77 c112 c113 p0 k s n) (K16 k) none:=by kernel_rfl
theorem el78 {R:Type} (B:Ops) (c107:C107) (c108:C108) (c185:C185) (c109:C109) (c110:C110) (c111:C111) (c77:C77) (c112:C112) (c113:C113) (p0:LB) (k:AV→Objs→Option R) (n:Nat):∀ s,A78 B c107 c108 c185 c109 c110 c111 c77 c112 c113 p0 k s (n+1)=T78 B c107 c108 c185 c109 c110 c111 c77 c112 c113 p0 (fun s=>A78 B c107 c108 c185 c109 c110 c111 c77 c112 c113 p0 k s n) (K16 k) (some s):=by
 intro s
 cases s<;>kernel_rfl
theorem nt78 {R R':Type} (B:Ops) (c107:C107) (c108:C108) (c185:C185) (c109:C109) (c110:C110) (c111:C111) (c77:C77) (c112:C112) (c113:C113) (p0:LB) (again:S78→Option R) (again':S78→Option R') (k0:(Int×LB×Int×Int)→Option R') (k:R'→Option R) (h:∀ s,again s=ob (again' s) k):∀ s,T78 B c107 c108 c185 c109 c110 c111 c77 c112 c113 p0 again (fun y=>ob (k0 y) k) s=ob (T78 B c107 c108 c185 c109 c110 c111 c77 c112 c113 p0 again' k0 s) k:=by
 rintro (_ | x)
 all_goals try cases x
 all_goals (unfold T78;repeat' first | exact rfl | exact h _ | apply qac | (apply qai;intro))
def R78 (c107:C107) (c108:C108) (c185:C185) (c109:C109) (c110:C110) (c111:C111) (c77:C77) (c112:C112) (c113:C113) (p0:LB):Nat→S78→Option (Int×LB×Int×Int)
 | 0,_=>none
 | n+1,s=>T78 Ops.std c107 c108 c185 c109 c110 c111 c77 c112 c113 p0 (R78 c107 c108 c185 c109 c110 c111 c77 c112 c113 p0 n) some (some s)
theorem rr78 {R:Type} (c107:C107) (c108:C108) (c185:C185) (c109:C109) (c110:C110) (c111:C111) (c77:C77) (c112:C112) (c113:C113) (p0:LB) (k:AV→Objs→Option R):∀ (n:Nat) (s:S78),A78 Ops.std c107 c108 c185 c109 c110 c111 c77 c112 c113 p0 k s n=ob (R78 c107 c108 c185 c109 c110 c111 c77 c112 c113 p0 n s) (K16 k)
 | 0,s=>by cases s<;>rfl
 | n+1,s=>by rw [el78];exact nt78 Ops.std c107 c108 c185 c109 c110 c111 c77 c112 c113 p0 _ _ some (K16 k) (rr78 c107 c108 c185 c109 c110 c111 c77 c112 c113 p0 k n) (some s)
def F78 (c107:C107) (c108:C108) (c185:C185) (c109:C109) (c110:C110) (c111:C111) (c77:C77) (c112:C112) (c113:C113) (p0:LB):Option (Int×LB×Int×Int):=T78 Ops.std c107 c108 c185 c109 c110 c111 c77 c112 c113 p0 (R78 c107 c108 c185 c109 c110 c111 c77 c112 c113 p0 1000000) some none
abbrev C78:Type:=LB→Option (Int×LB×Int×Int)
def e78 {R:Type} (c:C78):Ent R:=eG [.aC .cS] [] fun v k=>ob (c v.1) (K16 k)
abbrev Sp78 (c:C78):Prop:=∀ (p0:LB) (y:Int×LB×Int×Int),c p0=some y→Spec Tryz.prog gl0 78 [.c (.str p0)] [] (.agg [.int .i64 y.1,.str y.2.1,.int .i64 y.2.2.1,.int .i64 y.2.2.2]) []
theorem ek78 {R:Type} {c:C78} (hs:Sp78 c):EOk 78 (e78 (R:=R) c):=qak fun v=>hs v.1
theorem sf78 {c107:C107} {c108:C108} {c185:C185} {c109:C109} {c110:C110} {c111:C111} {c77:C77} {c112:C112} {c113:C113} (h107:Sp107 c107) (h108:Sp108 c108) (h185:Sp185 c185) (h109:Sp109 c109) (h110:Sp110 c110) (h111:Sp111 c111) (h77:Sp77 c77) (h112:Sp112 c112) (h113:Sp113 c113):Sp78 (F78 c107 c108 c185 c109 c110 c111 c77 c112 c113):=fun p0 y hy=>by
 refine qae (G:=ent 107 (e107 c107) (ent 108 (eAlt 1 111 (e108 c108) (e185 c185)) (ent 109 (e109 c109) (ent 110 (e110 c110) (ent 111 (e111 c111) (ent 77 (e77 c77) (ent 112 (e112 c112) (ent 113 (e113 c113) gnil)))))))) (qab (ek107 h107) (qab (eAlt_ok (ek108 h108) (ek185 h185)) (qab (ek109 h109) (qab (ek110 h110) (qab (ek111 h111) (qab (ek77 h77) (qab (ek112 h112) (qab (ek113 h113) qad)))))))) 1000000 (fn:=Tryz.f78) (by kernel_rfl) (by kernel_rfl) (X:=X78) (by kernel_rfl) ?_
 rw [eq78]
 exact (nt78 Ops.std c107 c108 c185 c109 c110 c111 c77 c112 c113 p0 _ _ some (K16 k0) (rr78 c107 c108 c185 c109 c110 c111 c77 c112 c113 p0 k0 1000000) none).trans (by show ob (F78 c107 c108 c185 c109 c110 c111 c77 c112 c113 p0) _=_;rw [hy];rfl)
noncomputable def M78:C78:=F78 M107 M108 M185 M109 M110 M111 M77 M112 M113
theorem sm78:Sp78 M78:=sf78 sm107 sm108 sm185 sm109 sm110 sm111 sm77 sm112 sm113
def X43:Aux:=⟨[(5,([1,2,3,4]++rg 7 41))],[]⟩
inductive S43 where
 | l0 (v1:Int) (v2:L52)
def T43 {R:Type} (B:Ops) (c77:C77) (c78:C78) (p0:LB) (again:S43→Option R) (k:(Int×Int×L52)→Option R):Option S43→Option R | none=>cond (B.lt 60000 (↑p0.length)) (k ((14,0,mt (Ty.den ty52)))) (again (.l0 0 (mt (Ty.den ty52)))) | some (.l0 v1 v2)=>cond (B.lt v1 (↑p0.length)) (cond (B.inb v1 p0.length) (ob (c77 (32::9::10::mt (Ty.den (Ty.int .u8))) (Nat.cast (UInt8.toNat (p0.getD v1.toNat 0)))) fun y0=>cond (y0) (again (.l0 (IntKind.wrap .i64 (v1+1)) v2)) (cond (B.inb v1 (List.length p0+1)) (ob (c78 (List.drop v1.toNat (List.take p0.length p0))) fun y1=>cond (B.eq y1.1 0) (k ((2,v1,mt (Ty.den ty52)))) (cond (B.lim (List.length v2+List.length ((y1.1,y1.2.1,y1.2.2.1,v1)::mt (Ty.den ty52))) 40) (again (.l0 (IntKind.wrap .i64 (v1+Nat.cast (List.length y1.2.1))) (v2++(y1.1,y1.2.1,y1.2.2.1,v1)::mt (Ty.den ty52)))) none)) none)) none) (cond (B.lim (List.length v2+List.length ((5,mt UInt8,0,Nat.cast p0.length)::mt (Ty.den ty52))) 40) (k ((0,0,v2++(5,mt UInt8,0,Nat.cast p0.length)::mt (Ty.den ty52)))) none)
def E43 (p0:LB):S43→List AV×Objs
 | .l0 v1 v2=>(mk 48 [(0,.c (.str p0)),(5,.c (.own 5)),(6,.c (.int .i64 v1))],[(5,.row 52 ty52 v2)])
def I43:S43→Nat
 | .l0 _ _=>0
abbrev K17 {R:Type} (k:AV→Objs→Option R) (y:(Int×Int×L52)):Option R:=k (.tup [(false,[.own 501000]),(false,[.int .i64 y.1]),(false,[.int .i64 y.2.1])]) [(501000,.row 52 ty52 y.2.2)]
noncomputable abbrev A43 {R:Type} (B:Ops) (c77:C77) (c78:C78) (p0:LB) (k:AV→Objs→Option R) (s:S43) (n:Nat):Option R:=aloop tau B gl0 X43 (ent 77 (e77 c77) (ent 78 (e78 c78) gnil)) ow [] Tryz.f43 k (I43 s) (E43 p0 s) n
theorem eq43 {R:Type} (B:Ops) (c77:C77) (c78:C78) (p0:LB) (k:AV→Objs→Option R) (n:Nat):afun tau B gl0 X43 (ent 77 (e77 c77) (ent 78 (e78 c78) gnil)) ow Tryz.f43 [.c (.str p0)] [] k n=T43 B c77 c78 p0 (fun s=>A43 B c77 c78 p0 k s n) (K17 k) none:=by kernel_rfl
theorem el43 {R:Type} (B:Ops) (c77:C77) (c78:C78) (p0:LB) (k:AV→Objs→Option R) (n:Nat):∀ s,A43 B c77 c78 p0 k s (n+1)=T43 B c77 c78 p0 (fun s=>A43 B c77 c78 p0 k s n) (K17 k) (some s):=by
 intro s
 cases s<;>kernel_rfl
theorem nt43 {R R':Type} (B:Ops) (c77:C77) (c78:C78) (p0:LB) (again:S43→Option R) (again':S43→Option R') (k0:(Int×Int×L52)→Option R') (k:R'→Option R) (h:∀ s,again s=ob (again' s) k):∀ s,T43 B c77 c78 p0 again (fun y=>ob (k0 y) k) s=ob (T43 B c77 c78 p0 again' k0 s) k:=by
 rintro (_ | x)
 all_goals try cases x
 all_goals (unfold T43;repeat' first | exact rfl | exact h _ | apply qac | (apply qai;intro))
def R43 (c77:C77) (c78:C78) (p0:LB):Nat→S43→Option (Int×Int×L52)
 | 0,_=>none
 | n+1,s=>T43 Ops.std c77 c78 p0 (R43 c77 c78 p0 n) some (some s)
theorem rr43 {R:Type} (c77:C77) (c78:C78) (p0:LB) (k:AV→Objs→Option R):∀ (n:Nat) (s:S43),A43 Ops.std c77 c78 p0 k s n=ob (R43 c77 c78 p0 n s) (K17 k)
 | 0,s=>by cases s<;>rfl
 | n+1,s=>by rw [el43];exact nt43 Ops.std c77 c78 p0 _ _ some (K17 k) (rr43 c77 c78 p0 k n) (some s)
def F43 (c77:C77) (c78:C78) (p0:LB):Option (Int×Int×L52):=T43 Ops.std c77 c78 p0 (R43 c77 c78 p0 1000000) some none
abbrev C43:Type:=LB→Option (Int×Int×L52)
def e43 {R:Type} (c:C43):Ent R:=eG [.aC .cS] [] fun v k=>ob (c v.1) (K17 k)
abbrev Sp43 (c:C43):Prop:=∀ (p0:LB) (y:Int×Int×L52),c p0=some y→Spec Tryz.prog gl0 43 [.c (.str p0)] [] (.tup [(false,[.own 501000]),(false,[.int .i64 y.1]),(false,[.int .i64 y.2.1])]) [(501000,.row 52 ty52 y.2.2)]
theorem ek43 {R:Type} {c:C43} (hs:Sp43 c):EOk 43 (e43 (R:=R) c):=qak fun v=>hs v.1
theorem sf43 {c77:C77} {c78:C78} (h77:Sp77 c77) (h78:Sp78 c78):Sp43 (F43 c77 c78):=fun p0 y hy=>by
 refine qae (qab (ek77 h77) (qab (ek78 h78) qad)) 1000000 (fn:=Tryz.f43) (by kernel_rfl) (by kernel_rfl) (X:=X43) (by kernel_rfl) ?_
 rw [eq43]
 exact (nt43 Ops.std c77 c78 p0 _ _ some (K17 k0) (rr43 c77 c78 p0 k0 1000000) none).trans (by show ob (F43 c77 c78 p0) _=_;rw [hy];rfl)
noncomputable def M43:C43:=F43 M77 M78
theorem sm43:Sp43 M43:=sf43 sm77 sm78
def X114:Aux:=⟨[],[(1,.lin (rg 0 12))]⟩
def T114 {R:Type} (B:Ops) (p0:L52) (p1 p2:Int) (p3:L61) (k:(LB×L52×Int×Int×L61)→Option R):Option R:=cond (B.inb p1 p0.length) (cond (!B.eq (p0.getD p1.toNat ty52.dflt).1 1) (k ((((p0.getD p1.toNat ty52.dflt).2).1,p0,p1,p2,p3))) (k (mt UInt8,p0,p1,p2,p3))) none
abbrev K18 {R:Type} (k:AV→Objs→Option R) (y:(LB×L52×Int×Int×L61)):Option R:=k (.c (.str y.1)) [(0,.box 87 [.list 52 ty52 y.2.1,.int .i64 y.2.2.1,.own 1002,.int .i64 y.2.2.2.1]),(1002,.row 61 ty61 y.2.2.2.2)]
theorem eq114 {R:Type} (B:Ops) (p0:L52) (p1 p2:Int) (p3:L61) (k:AV→Objs→Option R) (n:Nat):afun tau B gl0 X114 gnil ow Tryz.f114 [.c (.ptr 0 0)] [(0,.box 87 [.list 52 ty52 p0,.int .i64 p1,.own 1002,.int .i64 p2]),(1002,.row 61 ty61 p3)] k n=T114 B p0 p1 p2 p3 (K18 k):=by kernel_rfl
theorem nt114 {R R':Type} (B:Ops) (p0:L52) (p1 p2:Int) (p3:L61) (k0:(LB×L52×Int×Int×L61)→Option R') (k:R'→Option R):T114 B p0 p1 p2 p3 (fun y=>ob (k0 y) k)=ob (T114 B p0 p1 p2 p3 k0) k:=by
 unfold T114
 repeat' first | exact rfl | apply qac | (apply qai;intro)
def F114 (p0:L52) (p1 p2:Int) (p3:L61):Option (LB×L52×Int×Int×L61):=T114 Ops.std p0 p1 p2 p3 some
abbrev C114:Type:=L52→Int→Int→L61→Option (LB×L52×Int×Int×L61)
def e114 {R:Type} (c:C114):Ent R:=eG [.aC (.cP 0)] [.oB 0 87 [.cL 52 ty52,.cI .i64,.cO 1002,.cI .i64],.oR 1002 61 ty61] fun v k=>ob (c v.1 v.2.1 v.2.2.1 v.2.2.2.1) (K18 k)
abbrev Sp114 (c:C114):Prop:=∀ (p0:L52) (p1 p2:Int) (p3:L61) (y:LB×L52×Int×Int×L61),c p0 p1 p2 p3=some y→Spec Tryz.prog gl0 114 [.c (.ptr 0 0)] [(0,.box 87 [.list 52 ty52 p0,.int .i64 p1,.own 1002,.int .i64 p2]),(1002,.row 61 ty61 p3)] (.c (.str y.1)) [(0,.box 87 [.list 52 ty52 y.2.1,.int .i64 y.2.2.1,.own 1002,.int .i64 y.2.2.2.1]),(1002,.row 61 ty61 y.2.2.2.2)]
theorem ek114 {R:Type} {c:C114} (hs:Sp114 c):EOk 114 (e114 (R:=R) c):=qak fun v=>hs v.1 v.2.1 v.2.2.1 v.2.2.2.1
theorem sf114:Sp114 (F114):=fun p0 p1 p2 p3 y hy=>by
 refine qae qad 1000000 (fn:=Tryz.f114) (by kernel_rfl) (by kernel_rfl) (X:=X114) (by kernel_rfl) ?_
 rw [eq114]
 exact (nt114 Ops.std p0 p1 p2 p3 some (K18 k0)).trans (by show ob (F114 p0 p1 p2 p3) _=_;rw [hy];rfl)
noncomputable def M114:C114:=F114
theorem sm114:Sp114 M114:=sf114
end Go.Proofs.YtkmpkebaloejhaaGreatDoor.Av
