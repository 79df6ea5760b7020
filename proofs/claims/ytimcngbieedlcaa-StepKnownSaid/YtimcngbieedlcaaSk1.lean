/- Twins of functions,printed by gen.py. Conditions: none. -/
import Derived.Test.YtimcngbieedlcaaCl1
import Derived.KernelRfl
set_option linter.unusedSimpArgs false
set_option linter.unusedVariables false
set_option maxRecDepth 100000
set_option maxHeartbeats 8000000
namespace Go.Proofs.Ytimcngbieedlcaa.Av
open Go
abbrev LB:=List UInt8
abbrev rg:=List.range'
abbrev L3:=List ty3.den
abbrev L9:=List ty9.den
abbrev L25:=List ty25.den
abbrev L36:=List ty36.den
abbrev L43:=List ty43.den
abbrev L62:=List ty62.den
abbrev L66:=List ty66.den
abbrev L73:=List ty73.den
abbrev L95:=List ty95.den
abbrev L111:=List ty111.den
abbrev L131:=List ty131.den
abbrev oE {R:Type} (l:List AV) (o:Objs) (x:Option R):Option R:=oNil l <| oNilO o <| x
theorem oE_some {R:Type} {l:List AV} {o:Objs} {x:Option R} {r:R} (h:oE l o x=some r):l=[]∧o=[]∧x=some r:=by
 obtain ⟨rfl,q1⟩:=oNil_some h
 obtain ⟨rfl,q2⟩:=oNilO_some q1
 exact ⟨rfl,rfl,q2⟩
abbrev oL {R:Type} (l:List AV) (n:Nat) (t:Ty) (f:List t.den→List AV→Option R):Option R:=oCons l fun a l=>oC a fun x=>cList n t x fun p=>f p l
theorem oL_some {R:Type} {l:List AV} {n:Nat} {t:Ty} {f:List t.den→List AV→Option R} {r:R} (h:oL l n t f=some r):∃ p l',l=.c (.list n t p)::l'∧f p l'=some r:=by
 obtain ⟨a,l',rfl,q1⟩:=qbz h
 obtain ⟨x,rfl,q2⟩:=oC_some q1
 obtain ⟨p,rfl,q3⟩:=cList_some q2
 exact ⟨p,l',rfl,q3⟩
abbrev oI {R:Type} (l:List AV) (n:IntKind) (f:Int→List AV→Option R):Option R:=oCons l fun a l=>oC a fun x=>cInt n x fun p=>f p l
theorem oI_some {R:Type} {l:List AV} {n:IntKind} {f:Int→List AV→Option R} {r:R} (h:oI l n f=some r):∃ p l',l=.c (.int n p)::l'∧f p l'=some r:=by
 obtain ⟨a,l',rfl,q1⟩:=qbz h
 obtain ⟨x,rfl,q2⟩:=oC_some q1
 obtain ⟨p,rfl,q3⟩:=cInt_some q2
 exact ⟨p,l',rfl,q3⟩
abbrev oS {R:Type} (l:List AV) (f:LB→List AV→Option R):Option R:=oCons l fun a l=>oC a fun x=>cStr x fun p=>f p l
theorem oS_some {R:Type} {l:List AV} {f:LB→List AV→Option R} {r:R} (h:oS l f=some r):∃ p l',l=.c (.str p)::l'∧f p l'=some r:=by
 obtain ⟨a,l',rfl,q1⟩:=qbz h
 obtain ⟨x,rfl,q2⟩:=oC_some q1
 obtain ⟨p,rfl,q3⟩:=cStr_some q2
 exact ⟨p,l',rfl,q3⟩
inductive Dc where
 | cI (k:IntKind)
 | cB
 | cS
 | cL (e:Nat) (t:Ty)
 | cO (i:Nat)
 | cP (i:Nat)
 | cN
abbrev Dc.ty (d:Dc) (A:Type):Type:=match d with
 | .cI _=>Int×A
 | .cB=>Bool×A
 | .cS=>LB×A
 | .cL _ t=>List t.den×A
 | _=>A
def Dc.mk (d:Dc) {A:Type} (x:CV) (r:Option A):Option (d.ty A):=match d with
 | .cI k=>match x with
   | .int k' n=>if k'=k then ob r fun a=>some (n,a) else none
   | _=>none
 | .cB=>match x with
   | .bool n=>ob r fun a=>some (n,a)
   | _=>none
 | .cS=>match x with
   | .str n=>ob r fun a=>some (n,a)
   | _=>none
 | .cL e t=>match x with
   | .list e' t' xs=>match Ty.same t' t with
     | some ⟨h⟩=>bif Nat.beq e' e then ob r fun a=>some (h ▸ xs,a) else none
     | none=>none
   | _=>none
 | .cO i=>match x with
   | .own j=>bif Nat.beq j i then r else none
   | _=>none
 | .cP i=>match x with
   | .ptr j 0=>bif Nat.beq j i then r else none
   | _=>none
 | .cN=>match x with
   | .nil=>r
   | _=>none
abbrev Dc.to (d:Dc) {A:Type} (v:d.ty A):CV:=match d,v with
 | .cI k,v=>.int k v.1
 | .cB,v=>.bool v.1
 | .cS,v=>.str v.1
 | .cL e t,v=>.list e t v.1
 | .cO i,_=>.own i
 | .cP i,_=>.ptr i 0
 | .cN,_=>.nil
abbrev Dc.re (d:Dc) {A:Type} (v:d.ty A):A:=match d,v with
 | .cI _,v=>v.2
 | .cB,v=>v.2
 | .cS,v=>v.2
 | .cL _ _,v=>v.2
 | .cO _,v=>v
 | .cP _,v=>v
 | .cN,v=>v
theorem Dc.ok {d:Dc} {A:Type} {x:CV} {r:Option A} {v:d.ty A} (h:d.mk x r=some v):x=d.to v∧r=some (d.re v):=by
 cases d with
 | cI k=>
   simp only [Dc.mk] at h
   split at h
   ·split at h
    ·rename_i hk;subst hk;obtain ⟨a,h1,h2⟩:=qby h;cases h2;exact ⟨rfl,h1⟩
    ·cases h
   ·cases h
 | cB=>
   simp only [Dc.mk] at h
   split at h
   ·obtain ⟨a,h1,h2⟩:=qby h;cases h2;exact ⟨rfl,h1⟩
   ·cases h
 | cS=>
   simp only [Dc.mk] at h
   split at h
   ·obtain ⟨a,h1,h2⟩:=qby h;cases h2;exact ⟨rfl,h1⟩
   ·cases h
 | cL e t=>
   simp only [Dc.mk] at h
   split at h
   ·split at h
    ·rename_i e' t' xs _ hs heq
     subst hs
     cases hb:Nat.beq e' e with
     | false=>rw [hb] at h;cases h
     | true=>
       rw [hb] at h
       have:=Nat.eq_of_beq_eq_true hb
       subst this
       obtain ⟨a,h1,h2⟩:=qby h;cases h2;exact ⟨rfl,h1⟩
    ·cases h
   ·cases h
 | cO i=>
   simp only [Dc.mk] at h
   split at h
   ·rename_i j
    cases hb:Nat.beq j i with
    | false=>rw [hb] at h;cases h
    | true=>rw [hb] at h;have:=Nat.eq_of_beq_eq_true hb;subst this;exact ⟨rfl,h⟩
   ·cases h
 | cP i=>
   simp only [Dc.mk] at h
   split at h
   ·rename_i j
    cases hb:Nat.beq j i with
    | false=>rw [hb] at h;cases h
    | true=>rw [hb] at h;have:=Nat.eq_of_beq_eq_true hb;subst this;exact ⟨rfl,h⟩
   ·cases h
 | cN=>
   simp only [Dc.mk] at h
   split at h
   ·exact ⟨rfl,h⟩
   ·cases h
abbrev Dl.ty:List Dc→Type→Type
 | [],A=>A
 | d::l,A=>d.ty (Dl.ty l A)
def Dl.mk:(l:List Dc)→{A:Type}→List CV→Option A→Option (Dl.ty l A)
 | [],_,[],r=>r
 | d::l,_,x::xs,r=>d.mk x (Dl.mk l xs r)
 | [],_,_::_,_=>none
 | _::_,_,[],_=>none
abbrev Dl.to:(l:List Dc)→{A:Type}→Dl.ty l A→List CV
 | [],_,_=>[]
 | d::l,_,v=>d.to v::Dl.to l (d.re v)
abbrev Dl.re:(l:List Dc)→{A:Type}→Dl.ty l A→A
 | [],_,v=>v
 | d::l,_,v=>Dl.re l (d.re v)
theorem Dl.ok:∀ {l:List Dc} {A:Type} {xs:List CV} {r:Option A} {v:Dl.ty l A},Dl.mk l xs r=some v→xs=Dl.to l v∧r=some (Dl.re l v)
 | [],_,[],_,_,h=>⟨rfl,h⟩
 | d::l,_,x::xs,_,_,h=>by
   obtain ⟨h1,h2⟩:=Dc.ok h
   obtain ⟨h3,h4⟩:=Dl.ok h2
   exact ⟨by rw [h1,h3],h4⟩
 | [],_,_::_,_,_,h=>by cases h
 | _::_,_,[],_,_,h=>by cases h
inductive Da where
 | aC (d:Dc)
 | aG (l:List Dc)
 | aF (n:Nat) (l:List Dc)
 | aM (n:Nat) (l:List Dc)
abbrev Da.ty (d:Da) (A:Type):Type:=match d with
 | .aC d=>d.ty A
 | .aG l=>Dl.ty l A
 | .aF _ l=>Dl.ty l A
 | .aM _ l=>Dl.ty l A
def Da.mk (d:Da) {A:Type} (x:AV) (r:Option A):Option (d.ty A):=match d with
 | .aC d=>match x with
   | .c x=>d.mk x r
   | _=>none
 | .aG l=>match x with
   | .agg x=>Dl.mk l x r
   | _=>none
 | .aF n l=>match x with
   | .fn k x=>bif Nat.beq k n then Dl.mk l x r else none
   | _=>none
 | .aM n l=>match x with
   | .bm k x=>bif Nat.beq k n then Dl.mk l x r else none
   | _=>none
abbrev Da.to (d:Da) {A:Type} (v:d.ty A):AV:=match d,v with
 | .aC d,v=>.c (d.to v)
 | .aG l,v=>.agg (Dl.to l v)
 | .aF n l,v=>.fn n (Dl.to l v)
 | .aM n l,v=>.bm n (Dl.to l v)
abbrev Da.re (d:Da) {A:Type} (v:d.ty A):A:=match d,v with
 | .aC d,v=>d.re v
 | .aG l,v=>Dl.re l v
 | .aF _ l,v=>Dl.re l v
 | .aM _ l,v=>Dl.re l v
theorem Da.ok {d:Da} {A:Type} {x:AV} {r:Option A} {v:d.ty A} (h:d.mk x r=some v):x=d.to v∧r=some (d.re v):=by
 cases d with
 | aC d=>
   simp only [Da.mk] at h
   split at h
   ·obtain ⟨h1,h2⟩:=Dc.ok h;exact ⟨by rw [h1],h2⟩
   ·cases h
 | aG l=>
   simp only [Da.mk] at h
   split at h
   ·obtain ⟨h1,h2⟩:=Dl.ok h;exact ⟨by rw [h1],h2⟩
   ·cases h
 | aF n l=>
   simp only [Da.mk] at h
   split at h
   ·rename_i k x
    cases hb:Nat.beq k n with
    | false=>rw [hb] at h;cases h
    | true=>rw [hb] at h;have:=Nat.eq_of_beq_eq_true hb;subst this;obtain ⟨h1,h2⟩:=Dl.ok h;exact ⟨by rw [h1],h2⟩
   ·cases h
 | aM n l=>
   simp only [Da.mk] at h
   split at h
   ·rename_i k x
    cases hb:Nat.beq k n with
    | false=>rw [hb] at h;cases h
    | true=>rw [hb] at h;have:=Nat.eq_of_beq_eq_true hb;subst this;obtain ⟨h1,h2⟩:=Dl.ok h;exact ⟨by rw [h1],h2⟩
   ·cases h
abbrev Ds.ty:List Da→Type→Type
 | [],A=>A
 | d::l,A=>d.ty (Ds.ty l A)
def Ds.mk:(l:List Da)→{A:Type}→List AV→Option A→Option (Ds.ty l A)
 | [],_,[],r=>r
 | d::l,_,x::xs,r=>d.mk x (Ds.mk l xs r)
 | [],_,_::_,_=>none
 | _::_,_,[],_=>none
abbrev Ds.to:(l:List Da)→{A:Type}→Ds.ty l A→List AV
 | [],_,_=>[]
 | d::l,_,v=>d.to v::Ds.to l (d.re v)
abbrev Ds.re:(l:List Da)→{A:Type}→Ds.ty l A→A
 | [],_,v=>v
 | d::l,_,v=>Ds.re l (d.re v)
theorem Ds.ok:∀ {l:List Da} {A:Type} {xs:List AV} {r:Option A} {v:Ds.ty l A},Ds.mk l xs r=some v→xs=Ds.to l v∧r=some (Ds.re l v)
 | [],_,[],_,_,h=>⟨rfl,h⟩
 | d::l,_,x::xs,_,_,h=>by
   obtain ⟨h1,h2⟩:=Da.ok h
   obtain ⟨h3,h4⟩:=Ds.ok h2
   exact ⟨by rw [h1,h3],h4⟩
 | [],_,_::_,_,_,h=>by cases h
 | _::_,_,[],_,_,h=>by cases h
inductive Do where
 | oR (k e:Nat) (t:Ty)
 | oB (k e:Nat) (l:List Dc)
abbrev Do.ty (d:Do) (A:Type):Type:=match d with
 | .oR _ _ t=>List t.den×A
 | .oB _ _ l=>Dl.ty l A
def Do.mk (d:Do) {A:Type} (x:Nat×Obj) (r:Option A):Option (d.ty A):=match d with
 | .oR k e t=>match x with
   | (k',.row e' t' xs)=>bif Nat.beq k' k then (Dc.cL e t).mk (.list e' t' xs) r else none
   | _=>none
 | .oB k e l=>match x with
   | (k',.box e' x)=>bif Nat.beq k' k && Nat.beq e' e then Dl.mk l x r else none
   | _=>none
abbrev Do.to (d:Do) {A:Type} (v:d.ty A):Nat×Obj:=match d,v with
 | .oR k e t,v=>(k,.row e t v.1)
 | .oB k e l,v=>(k,.box e (Dl.to l v))
abbrev Do.re (d:Do) {A:Type} (v:d.ty A):A:=match d,v with
 | .oR _ _ _,v=>v.2
 | .oB _ _ l,v=>Dl.re l v
theorem Do.ok {d:Do} {A:Type} {x:Nat×Obj} {r:Option A} {v:d.ty A} (h:d.mk x r=some v):x=d.to v∧r=some (d.re v):=by
 cases d with
 | oR k e t=>
   simp only [Do.mk] at h
   split at h
   ·rename_i k' e' t' xs
    cases hb:Nat.beq k' k with
    | false=>rw [hb] at h;cases h
    | true=>
      rw [hb] at h
      have:=Nat.eq_of_beq_eq_true hb
      subst this
      have h:(Dc.cL e t).mk (.list e' t' xs) r=some v:=h
      obtain ⟨h1,h2⟩:=Dc.ok h
      have h1:CV.list e' t' xs=.list e t v.1:=h1
      cases h1
      exact ⟨rfl,h2⟩
   ·cases h
 | oB k e l=>
   simp only [Do.mk] at h
   split at h
   ·rename_i k' e' x
    cases hb:(Nat.beq k' k && Nat.beq e' e) with
    | false=>rw [hb] at h;cases h
    | true=>
      rw [hb] at h
      simp only [Bool.and_eq_true] at hb
      have:=Nat.eq_of_beq_eq_true hb.1
      subst this
      have:=Nat.eq_of_beq_eq_true hb.2
      subst this
      obtain ⟨h1,h2⟩:=Dl.ok h
      exact ⟨by rw [h1],h2⟩
   ·cases h
abbrev Dp.ty:List Do→Type
 | []=>Unit
 | d::l=>d.ty (Dp.ty l)
def Dp.mk:(l:List Do)→Objs→Option (Dp.ty l)
 | [],[]=>some ()
 | d::l,x::xs=>d.mk x (Dp.mk l xs)
 | [],_::_=>none
 | _::_,[]=>none
abbrev Dp.to:(l:List Do)→Dp.ty l→Objs
 | [],_=>[]
 | d::l,v=>d.to v::Dp.to l (d.re v)
theorem Dp.ok:∀ {l:List Do} {xs:Objs} {v:Dp.ty l},Dp.mk l xs=some v→xs=Dp.to l v
 | [],[],_,_=>rfl
 | d::l,x::xs,_,h=>by
   obtain ⟨h1,h2⟩:=Do.ok h
   rw [h1,Dp.ok h2]
 | [],_::_,_,h=>by cases h
 | _::_,[],_,h=>by cases h
/-- an entry,by what it is handed -/
def eG {R:Type} (l:List Da) (o:List Do) (g:Ds.ty l (Dp.ty o)→(AV→Objs→Option R)→Option R):Ent R:=fun a b k=>ob (Ds.mk l a (Dp.mk o b)) fun v=>g v k
theorem qag {R α:Type} {l:List Da} {o:List Do} {f:Nat} {m:Ds.ty l (Dp.ty o)→Option α} {V:α→AV} {O:α→Objs} (hs:∀ v y,m v=some y→Spec Try.prog gl0 f (Ds.to l v) (Dp.to o (Ds.re l v)) (V y) (O y)) :
  EOk (R:=R) f (eG l o fun v k=>ob (m v) fun y=>k (V y) (O y)):=fun args objs k r h=>by
 obtain ⟨v,h1,h2⟩:=qby h
 obtain ⟨e1,e2⟩:=Ds.ok h1
 rw [e1,Dp.ok e2]
 exact eok_of (hs v) h2
def X20:Aux:=⟨[(4,([2,3,4]++rg 8 26))],[]⟩
inductive S20 where
 | l0 (v2 v3:Int) (v4:L9)
def T20 {R:Type} (B:Ops) (p0:LB) (p1:Int) (again:S20→Option R) (k:(L9)→Option R):Option S20→Option R | none=>again (.l0 0 0 (mt (Ty.den Ty.str))) | some (.l0 v2 v3 v4)=>cond (B.lt v3 (↑p0.length)) (cond (B.inb v3 p0.length) (cond (B.eq (Nat.cast (UInt8.toNat (p0.getD v3.toNat 0))) p1) (cond (B.inb v3 (List.length p0+1)) (cond (bif B.le 0 v2 then B.le v2 v3 else false) (cond (B.lim (List.length v4+List.length (List.drop v2.toNat (List.take v3.toNat p0)::mt (Ty.den Ty.str))) 16) (again (.l0 (IntKind.wrap .i64 (v3+1)) (IntKind.wrap .i64 (v3+1)) (v4++List.drop v2.toNat (List.take v3.toNat p0)::mt (Ty.den Ty.str)))) none) none) none) (again (.l0 v2 (IntKind.wrap .i64 (v3+1)) v4))) none) (cond (B.inb v2 (List.length p0+1)) (cond (B.lim (List.length v4+List.length (List.drop v2.toNat (List.take p0.length p0)::mt (Ty.den Ty.str))) 16) (k (v4++List.drop v2.toNat (List.take p0.length p0)::mt (Ty.den Ty.str))) none) none)
def E20 (p0:LB) (p1:Int):S20→List AV×Objs
 | .l0 v2 v3 v4=>(mk 34 [(0,.c (.str p0)),(1,.c (.int .u8 p1)),(5,.c (.own 5)),(6,.c (.int .i64 v2)),(7,.c (.int .i64 v3))],[(5,.row 9 ty9 v4)])
def I20:S20→Nat
 | .l0 _ _ _=>0
abbrev K1 {R:Type} (k:AV→Objs→Option R) (y:(L9)):Option R:=k (.c (.own 500)) [(500,.row 9 ty9 y)]
theorem eq20 {R:Type} (B:Ops) (p0:LB) (p1:Int) (k:AV→Objs→Option R) (n:Nat):afun tau B gl0 X20 gnil ow Try.f20 [.c (.str p0),.c (.int .u8 p1)] [] k n=T20 B p0 p1 (fun s=>aloop tau B gl0 X20 gnil ow [] Try.f20 k (I20 s) (E20 p0 p1 s) n) (K1 k) none:=by kernel_rfl
theorem el20 {R:Type} (B:Ops) (p0:LB) (p1:Int) (k:AV→Objs→Option R) (n:Nat):∀ s,aloop tau B gl0 X20 gnil ow [] Try.f20 k (I20 s) (E20 p0 p1 s) (n+1)=T20 B p0 p1 (fun s=>aloop tau B gl0 X20 gnil ow [] Try.f20 k (I20 s) (E20 p0 p1 s) n) (K1 k) (some s):=by
 intro s
 cases s<;>kernel_rfl
theorem nt20 {R R':Type} (B:Ops) (p0:LB) (p1:Int) (again:S20→Option R) (again':S20→Option R') (k0:(L9)→Option R') (k:R'→Option R) (h:∀ s,again s=ob (again' s) k):∀ s,T20 B p0 p1 again (fun y=>ob (k0 y) k) s=ob (T20 B p0 p1 again' k0 s) k:=by
 rintro (_ | x)
 all_goals try cases x
 all_goals (unfold T20;repeat' first | exact rfl | exact h _ | apply qab | (apply qae;intro))
def R20 (p0:LB) (p1:Int):Nat→S20→Option (L9)
 | 0,_=>none
 | n+1,s=>T20 Ops.std p0 p1 (R20 p0 p1 n) some (some s)
theorem rr20 {R:Type} (p0:LB) (p1:Int) (k:AV→Objs→Option R):∀ (n:Nat) (s:S20),aloop tau Ops.std gl0 X20 gnil ow [] Try.f20 k (I20 s) (E20 p0 p1 s) n=ob (R20 p0 p1 n s) (K1 k)
 | 0,s=>by cases s<;>rfl
 | n+1,s=>by rw [el20];exact nt20 Ops.std p0 p1 _ _ some (K1 k) (rr20 p0 p1 k n) (some s)
def F20 (p0:LB) (p1:Int):Option (L9):=T20 Ops.std p0 p1 (R20 p0 p1 1000000) some none
abbrev C20:Type:=LB→Int→Option (L9)
def e20 {R:Type} (c:C20):Ent R:=eG [.aC .cS,.aC (.cI .u8)] [] fun v k=>ob (c v.1 v.2.1) (K1 k)
abbrev Sp20 (c:C20):Prop:=∀ (p0:LB) (p1:Int) (y:L9),c p0 p1=some y→Spec Try.prog gl0 20 [.c (.str p0),.c (.int .u8 p1)] [] (.c (.own 500)) [(500,.row 9 ty9 y)]
theorem ek20 {R:Type} {c:C20} (hs:Sp20 c):EOk 20 (e20 (R:=R) c):=qag fun v=>hs v.1 v.2.1
theorem sf20:Sp20 (F20):=fun p0 p1 y hy=>by
 refine qad qac 1000000 (fn:=Try.f20) (by kernel_rfl) (by kernel_rfl) (X:=X20) (by kernel_rfl) ?_
 rw [eq20]
 exact (nt20 Ops.std p0 p1 _ _ some (K1 k0) (rr20 p0 p1 k0 1000000) none).trans (by show ob (F20 p0 p1) _=_;rw [hy];rfl)
noncomputable def M20:C20:=F20
theorem sm20:Sp20 M20:=sf20
def X21:Aux:=⟨[(4,([0,1,2]++rg 6 21))],[]⟩
inductive S21 where
 | l0 (v0:Int) (v1 v2:L9)
def T21 {R:Type} (B:Ops) (c20:C20) (p0:LB) (again:S21→Option R) (k:(L9)→Option R):Option S21→Option R | none=>ob (c20 p0 32) fun y0=>again (.l0 0 (mt (Ty.den Ty.str)) y0) | some (.l0 v0 v1 v2)=>cond (B.lt v0 (↑v2.length)) (cond (B.inb v0 v2.length) (cond (!v2.getD v0.toNat ty9.dflt == mt UInt8) (cond (B.inb v0 v2.length) (cond (B.lim (List.length v1+List.length (v2.getD v0.toNat ty9.dflt::mt (Ty.den Ty.str))) 16) (again (.l0 (IntKind.wrap .i64 (v0+1)) (v1++v2.getD v0.toNat ty9.dflt::mt (Ty.den Ty.str)) v2)) none) none) (again (.l0 (IntKind.wrap .i64 (v0+1)) v1 v2))) none) (k v1)
def E21 (p0:LB):S21→List AV×Objs
 | .l0 v0 v1 v2=>(mk 27 [(3,.c (.own 3)),(4,.c (.own 4)),(5,.c (.int .i64 v0))],[(3,.row 9 ty9 v1),(4,.row 9 ty9 v2)])
def I21:S21→Nat
 | .l0 _ _ _=>0
theorem eq21 {R:Type} (B:Ops) (c20:C20) (p0:LB) (k:AV→Objs→Option R) (n:Nat):afun tau B gl0 X21 (ent 20 (e20 c20) gnil) ow Try.f21 [.c (.str p0)] [] k n=T21 B c20 p0 (fun s=>aloop tau B gl0 X21 (ent 20 (e20 c20) gnil) ow [] Try.f21 k (I21 s) (E21 p0 s) n) (K1 k) none:=by kernel_rfl
theorem el21 {R:Type} (B:Ops) (c20:C20) (p0:LB) (k:AV→Objs→Option R) (n:Nat):∀ s,aloop tau B gl0 X21 (ent 20 (e20 c20) gnil) ow [] Try.f21 k (I21 s) (E21 p0 s) (n+1)=T21 B c20 p0 (fun s=>aloop tau B gl0 X21 (ent 20 (e20 c20) gnil) ow [] Try.f21 k (I21 s) (E21 p0 s) n) (K1 k) (some s):=by
 intro s
 cases s<;>kernel_rfl
theorem nt21 {R R':Type} (B:Ops) (c20:C20) (p0:LB) (again:S21→Option R) (again':S21→Option R') (k0:(L9)→Option R') (k:R'→Option R) (h:∀ s,again s=ob (again' s) k):∀ s,T21 B c20 p0 again (fun y=>ob (k0 y) k) s=ob (T21 B c20 p0 again' k0 s) k:=by
 rintro (_ | x)
 all_goals try cases x
 all_goals (unfold T21;repeat' first | exact rfl | exact h _ | apply qab | (apply qae;intro))
def R21 (c20:C20) (p0:LB):Nat→S21→Option (L9)
 | 0,_=>none
 | n+1,s=>T21 Ops.std c20 p0 (R21 c20 p0 n) some (some s)
theorem rr21 {R:Type} (c20:C20) (p0:LB) (k:AV→Objs→Option R):∀ (n:Nat) (s:S21),aloop tau Ops.std gl0 X21 (ent 20 (e20 c20) gnil) ow [] Try.f21 k (I21 s) (E21 p0 s) n=ob (R21 c20 p0 n s) (K1 k)
 | 0,s=>by cases s<;>rfl
 | n+1,s=>by rw [el21];exact nt21 Ops.std c20 p0 _ _ some (K1 k) (rr21 c20 p0 k n) (some s)
def F21 (c20:C20) (p0:LB):Option (L9):=T21 Ops.std c20 p0 (R21 c20 p0 1000000) some none
abbrev C21:Type:=LB→Option (L9)
def e21 {R:Type} (c:C21):Ent R:=eG [.aC .cS] [] fun v k=>ob (c v.1) (K1 k)
abbrev Sp21 (c:C21):Prop:=∀ (p0:LB) (y:L9),c p0=some y→Spec Try.prog gl0 21 [.c (.str p0)] [] (.c (.own 500)) [(500,.row 9 ty9 y)]
theorem ek21 {R:Type} {c:C21} (hs:Sp21 c):EOk 21 (e21 (R:=R) c):=qag fun v=>hs v.1
theorem sf21 {c20:C20} (h20:Sp20 c20):Sp21 (F21 c20):=fun p0 y hy=>by
 refine qad (qaa (ek20 h20) qac) 1000000 (fn:=Try.f21) (by kernel_rfl) (by kernel_rfl) (X:=X21) (by kernel_rfl) ?_
 rw [eq21]
 exact (nt21 Ops.std c20 p0 _ _ some (K1 k0) (rr21 c20 p0 k0 1000000) none).trans (by show ob (F21 c20 p0) _=_;rw [hy];rfl)
noncomputable def M21:C21:=F21 M20
theorem sm21:Sp21 M21:=sf21 sm20
def X54:Aux:=⟨[],[]⟩
def T54 {R:Type} (B:Ops) (p0:Int) (k:(Bool)→Option R):Option R:=cond (B.le 48 p0) (k (B.le p0 57)) (k false)
abbrev K2 {R:Type} (k:AV→Objs→Option R) (y:(Bool)):Option R:=k (.c (.bool y)) []
theorem eq54 {R:Type} (B:Ops) (p0:Int) (k:AV→Objs→Option R) (n:Nat):afun tau B gl0 X54 gnil ow Try.f54 [.c (.int .u8 p0)] [] k n=T54 B p0 (K2 k):=by kernel_rfl
theorem nt54 {R R':Type} (B:Ops) (p0:Int) (k0:(Bool)→Option R') (k:R'→Option R):T54 B p0 (fun y=>ob (k0 y) k)=ob (T54 B p0 k0) k:=by
 unfold T54
 repeat' first | exact rfl | apply qab | (apply qae;intro)
def F54 (p0:Int):Option (Bool):=T54 Ops.std p0 some
abbrev C54:Type:=Int→Option (Bool)
def e54 {R:Type} (c:C54):Ent R:=eG [.aC (.cI .u8)] [] fun v k=>ob (c v.1) (K2 k)
abbrev Sp54 (c:C54):Prop:=∀ (p0:Int) (y:Bool),c p0=some y→Spec Try.prog gl0 54 [.c (.int .u8 p0)] [] (.c (.bool y)) []
theorem ek54 {R:Type} {c:C54} (hs:Sp54 c):EOk 54 (e54 (R:=R) c):=qag fun v=>hs v.1
theorem sf54:Sp54 (F54):=fun p0 y hy=>by
 refine qad qac 1000000 (fn:=Try.f54) (by kernel_rfl) (by kernel_rfl) (X:=X54) (by kernel_rfl) ?_
 rw [eq54]
 exact (nt54 Ops.std p0 some (K2 k0)).trans (by show ob (F54 p0) _=_;rw [hy];rfl)
noncomputable def M54:C54:=F54
theorem sm54:Sp54 M54:=sf54
abbrev K3 {R:Type} (k:AV→Objs→Option R) (y:(Int×Bool)):Option R:=k (.tup [(false,[.int .i64 y.1]),(false,[.bool y.2])]) []
abbrev C34:Type:=LB→Bool→Option (Int×Bool)
def e34 {R:Type} (c:C34):Ent R:=eG [.aC .cS,.aC .cB] [] fun v k=>ob (c v.1 v.2.1) (K3 k)
abbrev Sp34 (c:C34):Prop:=∀ (p0:LB) (p1:Bool) (y:Int×Bool),c p0 p1=some y→Spec Try.prog gl0 34 [.c (.str p0),.c (.bool p1)] [] (.tup [(false,[.int .i64 y.1]),(false,[.bool y.2])]) []
theorem ek34 {R:Type} {c:C34} (hs:Sp34 c):EOk 34 (e34 (R:=R) c):=qag fun v=>hs v.1 v.2.1
def X34:Aux:=⟨[(6,([1,2,3,4,5,6,7]++rg 10 45))],[]⟩
inductive S34 where
 | l0 (v1 v2:Int)
def T34 {R:Type} (B:Ops) (c34:C34) (c54:C54) (p0:LB) (p1:Bool) (again:S34→Option R) (k:(Int×Bool)→Option R):Option S34→Option R | none=>cond (p1) (cond (B.lt 1 (↑p0.length)) (cond (B.inb 0 p0.length) (cond (B.eq (Nat.cast (UInt8.toNat (p0.getD (Int.toNat 0) 0))) 45) (cond (B.inb 1 (List.length p0+1)) (ob (c34 (List.drop (Int.toNat 1) (List.take p0.length p0)) false) fun y0=>k ((IntKind.wrap .i64 (0-y0.1),y0.2))) none) (again (.l0 0 0))) none) (again (.l0 0 0))) (again (.l0 0 0)) | some (.l0 v1 v2)=>cond (B.lt v2 (↑p0.length)) (cond (B.inb v2 p0.length) (ob (c54 (Nat.cast (UInt8.toNat (p0.getD v2.toNat 0)))) fun y0=>cond (!y0) (k (0,false)) (cond (B.inb v2 p0.length) (cond (B.lt 2 v2) (k (0,false)) (again (.l0 (IntKind.wrap .i64 (IntKind.wrap .i64 (10*v1)+IntKind.wrap .i64 (IntKind.wrap IntKind.u8 (Nat.cast (UInt8.toNat (p0.getD v2.toNat 0))-48)))) (IntKind.wrap .i64 (v2+1))))) none)) none) (k ((v1,B.lt 0 (↑p0.length))))
def E34 (p0:LB) (p1:Bool):S34→List AV×Objs
 | .l0 v1 v2=>(mk 55 [(0,.c (.str p0)),(8,.c (.int .i64 v1)),(9,.c (.int .i64 v2))],[])
def I34:S34→Nat
 | .l0 _ _=>0
theorem eq34 {R:Type} (B:Ops) (c34:C34) (c54:C54) (p0:LB) (p1:Bool) (k:AV→Objs→Option R) (n:Nat):afun tau B gl0 X34 (ent 34 (e34 c34) (ent 54 (e54 c54) gnil)) ow Try.f34 [.c (.str p0),.c (.bool p1)] [] k n=T34 B c34 c54 p0 p1 (fun s=>aloop tau B gl0 X34 (ent 34 (e34 c34) (ent 54 (e54 c54) gnil)) ow [] Try.f34 k (I34 s) (E34 p0 p1 s) n) (K3 k) none:=by kernel_rfl
theorem el34 {R:Type} (B:Ops) (c34:C34) (c54:C54) (p0:LB) (p1:Bool) (k:AV→Objs→Option R) (n:Nat):∀ s,aloop tau B gl0 X34 (ent 34 (e34 c34) (ent 54 (e54 c54) gnil)) ow [] Try.f34 k (I34 s) (E34 p0 p1 s) (n+1)=T34 B c34 c54 p0 p1 (fun s=>aloop tau B gl0 X34 (ent 34 (e34 c34) (ent 54 (e54 c54) gnil)) ow [] Try.f34 k (I34 s) (E34 p0 p1 s) n) (K3 k) (some s):=by
 intro s
 cases s<;>kernel_rfl
theorem nt34 {R R':Type} (B:Ops) (c34:C34) (c54:C54) (p0:LB) (p1:Bool) (again:S34→Option R) (again':S34→Option R') (k0:(Int×Bool)→Option R') (k:R'→Option R) (h:∀ s,again s=ob (again' s) k):∀ s,T34 B c34 c54 p0 p1 again (fun y=>ob (k0 y) k) s=ob (T34 B c34 c54 p0 p1 again' k0 s) k:=by
 rintro (_ | x)
 all_goals try cases x
 all_goals (unfold T34;repeat' first | exact rfl | exact h _ | apply qab | (apply qae;intro))
def R34 (c34:C34) (c54:C54) (p0:LB) (p1:Bool):Nat→S34→Option (Int×Bool)
 | 0,_=>none
 | n+1,s=>T34 Ops.std c34 c54 p0 p1 (R34 c34 c54 p0 p1 n) some (some s)
theorem rr34 {R:Type} (c34:C34) (c54:C54) (p0:LB) (p1:Bool) (k:AV→Objs→Option R):∀ (n:Nat) (s:S34),aloop tau Ops.std gl0 X34 (ent 34 (e34 c34) (ent 54 (e54 c54) gnil)) ow [] Try.f34 k (I34 s) (E34 p0 p1 s) n=ob (R34 c34 c54 p0 p1 n s) (K3 k)
 | 0,s=>by cases s<;>rfl
 | n+1,s=>by rw [el34];exact nt34 Ops.std c34 c54 p0 p1 _ _ some (K3 k) (rr34 c34 c54 p0 p1 k n) (some s)
def F34 (c34:C34) (c54:C54) (p0:LB) (p1:Bool):Option (Int×Bool):=T34 Ops.std c34 c54 p0 p1 (R34 c34 c54 p0 p1 1000000) some none
theorem sf34 {c34:C34} {c54:C54} (h34:Sp34 c34) (h54:Sp54 c54):Sp34 (F34 c34 c54):=fun p0 p1 y hy=>by
 refine qad (qaa (ek34 h34) (qaa (ek54 h54) qac)) 1000000 (fn:=Try.f34) (by kernel_rfl) (by kernel_rfl) (X:=X34) (by kernel_rfl) ?_
 rw [eq34]
 exact (nt34 Ops.std c34 c54 p0 p1 _ _ some (K3 k0) (rr34 c34 c54 p0 p1 k0 1000000) none).trans (by show ob (F34 c34 c54 p0 p1) _=_;rw [hy];rfl)
noncomputable def Rec34:Nat→(LB→Bool→Option (Int×Bool))
 | 0=>fun _ _=>none
 | d+1=>F34 (Rec34 d) M54
theorem rec34:∀ d,Sp34 (Rec34 d)
 | 0=>fun p0 p1 y (h:(none:Option (Int×Bool))=some y)=>by cases h
 | d+1=>sf34 (rec34 d) sm54
noncomputable def M34:C34:=(Rec34 1000000)
theorem sm34:Sp34 M34:=(rec34 1000000)
def X22:Aux:=⟨[],[]⟩
def T22 {R:Type} (B:Ops) (c34:C34) (p0:L9) (k:(LB×Int×Int×Int×Bool)→Option R):Option R:=cond (!B.eq (↑p0.length) 4) (k (mt UInt8,0,0,0,false)) (cond (B.inb 1 p0.length) (ob (c34 (p0.getD (Int.toNat 1) ty9.dflt) true) fun y0=>cond (B.inb 2 p0.length) (ob (c34 (p0.getD (Int.toNat 2) ty9.dflt) true) fun y1=>cond (B.inb 3 p0.length) (ob (c34 (p0.getD (Int.toNat 3) ty9.dflt) true) fun y2=>cond (B.inb 0 p0.length) (cond y0.2 (cond y1.2 (k ((p0.getD (Int.toNat 0) ty9.dflt,y0.1,y1.1,y2.1,y2.2))) (k ((p0.getD (Int.toNat 0) ty9.dflt,y0.1,y1.1,y2.1,false)))) (k ((p0.getD (Int.toNat 0) ty9.dflt,y0.1,y1.1,y2.1,false)))) none) none) none) none)
abbrev K4 {R:Type} (k:AV→Objs→Option R) (y:(LB×Int×Int×Int×Bool)):Option R:=k (.tup [(true,[.str y.1,.int .i64 y.2.1,.int .i64 y.2.2.1,.int .i64 y.2.2.2.1]),(false,[.bool y.2.2.2.2])]) []
theorem eq22 {R:Type} (B:Ops) (c34:C34) (p0:L9) (k:AV→Objs→Option R) (n:Nat):afun tau B gl0 X22 (ent 34 (e34 c34) gnil) ow Try.f22 [.c (.list 9 ty9 p0)] [] k n=T22 B c34 p0 (K4 k):=by kernel_rfl
theorem nt22 {R R':Type} (B:Ops) (c34:C34) (p0:L9) (k0:(LB×Int×Int×Int×Bool)→Option R') (k:R'→Option R):T22 B c34 p0 (fun y=>ob (k0 y) k)=ob (T22 B c34 p0 k0) k:=by
 unfold T22
 repeat' first | exact rfl | apply qab | (apply qae;intro)
def F22 (c34:C34) (p0:L9):Option (LB×Int×Int×Int×Bool):=T22 Ops.std c34 p0 some
abbrev C22:Type:=L9→Option (LB×Int×Int×Int×Bool)
def e22 {R:Type} (c:C22):Ent R:=eG [.aC (.cL 9 ty9)] [] fun v k=>ob (c v.1) (K4 k)
abbrev Sp22 (c:C22):Prop:=∀ (p0:L9) (y:LB×Int×Int×Int×Bool),c p0=some y→Spec Try.prog gl0 22 [.c (.list 9 ty9 p0)] [] (.tup [(true,[.str y.1,.int .i64 y.2.1,.int .i64 y.2.2.1,.int .i64 y.2.2.2.1]),(false,[.bool y.2.2.2.2])]) []
theorem ek22 {R:Type} {c:C22} (hs:Sp22 c):EOk 22 (e22 (R:=R) c):=qag fun v=>hs v.1
theorem sf22 {c34:C34} (h34:Sp34 c34):Sp22 (F22 c34):=fun p0 y hy=>by
 refine qad (qaa (ek34 h34) qac) 1000000 (fn:=Try.f22) (by kernel_rfl) (by kernel_rfl) (X:=X22) (by kernel_rfl) ?_
 rw [eq22]
 exact (nt22 Ops.std c34 p0 some (K4 k0)).trans (by show ob (F22 c34 p0) _=_;rw [hy];rfl)
noncomputable def M22:C22:=F22 M34
theorem sm22:Sp22 M22:=sf22 sm34
def X24:Aux:=⟨[(1,(rg 2 28)),(3,(rg 2 28)),(5,(rg 2 28))],[]⟩
inductive S24 where
 | l0 (v0:LB) (v1:Int)
 | l1 (v0:LB) (v1:Int)
 | l2 (v0:LB) (v1:Int)
def T24 {R:Type} (B:Ops) (p0:LB) (p1:Int) (again:S24→Option R) (k:(LB)→Option R):Option S24→Option R | none=>again (.l0 p0 p1) | some (.l0 v0 v1)=>cond (B.lt 0 v1) (again (.l1 v0 v1)) (k v0) | some (.l1 v0 v1)=>cond (B.lt 0 (↑v0.length)) (cond (B.inb 0 v0.length) (cond (B.eq (Nat.cast (UInt8.toNat (v0.getD (Int.toNat 0) 0))) 32) (cond (B.inb 1 (List.length v0+1)) (again (.l1 (List.drop (Int.toNat 1) (List.take v0.length v0)) v1)) none) (again (.l2 v0 v1))) none) (again (.l2 v0 v1)) | some (.l2 v0 v1)=>cond (B.lt 0 (↑v0.length)) (cond (B.inb 0 v0.length) (cond (!B.eq (Nat.cast (UInt8.toNat (v0.getD (Int.toNat 0) 0))) 32) (cond (B.inb 1 (List.length v0+1)) (again (.l2 (List.drop (Int.toNat 1) (List.take v0.length v0)) v1)) none) (again (.l0 v0 (IntKind.wrap .i64 (v1-1))))) none) (again (.l0 v0 (IntKind.wrap .i64 (v1-1))))
def E24 (p0:LB) (p1:Int):S24→List AV×Objs
 | .l0 v0 v1=>(mk 30 [(0,.c (.str v0)),(1,.c (.int .i64 v1))],[])
 | .l1 v0 v1=>(mk 30 [(0,.c (.str v0)),(1,.c (.int .i64 v1))],[])
 | .l2 v0 v1=>(mk 30 [(0,.c (.str v0)),(1,.c (.int .i64 v1))],[])
def I24:S24→Nat
 | .l0 _ _=>0
 | .l1 _ _=>1
 | .l2 _ _=>2
abbrev K5 {R:Type} (k:AV→Objs→Option R) (y:(LB)):Option R:=k (.c (.str y)) []
theorem eq24 {R:Type} (B:Ops) (p0:LB) (p1:Int) (k:AV→Objs→Option R) (n:Nat):afun tau B gl0 X24 gnil ow Try.f24 [.c (.str p0),.c (.int .i64 p1)] [] k n=T24 B p0 p1 (fun s=>aloop tau B gl0 X24 gnil ow [] Try.f24 k (I24 s) (E24 p0 p1 s) n) (K5 k) none:=by kernel_rfl
theorem el24 {R:Type} (B:Ops) (p0:LB) (p1:Int) (k:AV→Objs→Option R) (n:Nat):∀ s,aloop tau B gl0 X24 gnil ow [] Try.f24 k (I24 s) (E24 p0 p1 s) (n+1)=T24 B p0 p1 (fun s=>aloop tau B gl0 X24 gnil ow [] Try.f24 k (I24 s) (E24 p0 p1 s) n) (K5 k) (some s):=by
 intro s
 cases s<;>kernel_rfl
theorem nt24 {R R':Type} (B:Ops) (p0:LB) (p1:Int) (again:S24→Option R) (again':S24→Option R') (k0:(LB)→Option R') (k:R'→Option R) (h:∀ s,again s=ob (again' s) k):∀ s,T24 B p0 p1 again (fun y=>ob (k0 y) k) s=ob (T24 B p0 p1 again' k0 s) k:=by
 rintro (_ | x)
 all_goals try cases x
 all_goals (unfold T24;repeat' first | exact rfl | exact h _ | apply qab | (apply qae;intro))
def R24 (p0:LB) (p1:Int):Nat→S24→Option (LB)
 | 0,_=>none
 | n+1,s=>T24 Ops.std p0 p1 (R24 p0 p1 n) some (some s)
theorem rr24 {R:Type} (p0:LB) (p1:Int) (k:AV→Objs→Option R):∀ (n:Nat) (s:S24),aloop tau Ops.std gl0 X24 gnil ow [] Try.f24 k (I24 s) (E24 p0 p1 s) n=ob (R24 p0 p1 n s) (K5 k)
 | 0,s=>by cases s<;>rfl
 | n+1,s=>by rw [el24];exact nt24 Ops.std p0 p1 _ _ some (K5 k) (rr24 p0 p1 k n) (some s)
def F24 (p0:LB) (p1:Int):Option (LB):=T24 Ops.std p0 p1 (R24 p0 p1 1000000) some none
abbrev C24:Type:=LB→Int→Option (LB)
def e24 {R:Type} (c:C24):Ent R:=eG [.aC .cS,.aC (.cI .i64)] [] fun v k=>ob (c v.1 v.2.1) (K5 k)
abbrev Sp24 (c:C24):Prop:=∀ (p0:LB) (p1:Int) (y:LB),c p0 p1=some y→Spec Try.prog gl0 24 [.c (.str p0),.c (.int .i64 p1)] [] (.c (.str y)) []
theorem ek24 {R:Type} {c:C24} (hs:Sp24 c):EOk 24 (e24 (R:=R) c):=qag fun v=>hs v.1 v.2.1
theorem sf24:Sp24 (F24):=fun p0 p1 y hy=>by
 refine qad qac 1000000 (fn:=Try.f24) (by kernel_rfl) (by kernel_rfl) (X:=X24) (by kernel_rfl) ?_
 rw [eq24]
 exact (nt24 Ops.std p0 p1 _ _ some (K5 k0) (rr24 p0 p1 k0 1000000) none).trans (by show ob (F24 p0 p1) _=_;rw [hy];rfl)
noncomputable def M24:C24:=F24
theorem sm24:Sp24 M24:=sf24
def X63:Aux:=⟨[],[]⟩
def T63 {R:Type} (B:Ops) (p0:Int) (k:(Bool)→Option R):Option R:=cond (B.le 97 p0) (cond (B.le p0 122) (k true) (k (B.eq p0 95))) (k (B.eq p0 95))
theorem eq63 {R:Type} (B:Ops) (p0:Int) (k:AV→Objs→Option R) (n:Nat):afun tau B gl0 X63 gnil ow Try.f63 [.c (.int .u8 p0)] [] k n=T63 B p0 (K2 k):=by kernel_rfl
theorem nt63 {R R':Type} (B:Ops) (p0:Int) (k0:(Bool)→Option R') (k:R'→Option R):T63 B p0 (fun y=>ob (k0 y) k)=ob (T63 B p0 k0) k:=by
 unfold T63
 repeat' first | exact rfl | apply qab | (apply qae;intro)
def F63 (p0:Int):Option (Bool):=T63 Ops.std p0 some
abbrev C63:Type:=Int→Option (Bool)
def e63 {R:Type} (c:C63):Ent R:=eG [.aC (.cI .u8)] [] fun v k=>ob (c v.1) (K2 k)
abbrev Sp63 (c:C63):Prop:=∀ (p0:Int) (y:Bool),c p0=some y→Spec Try.prog gl0 63 [.c (.int .u8 p0)] [] (.c (.bool y)) []
theorem ek63 {R:Type} {c:C63} (hs:Sp63 c):EOk 63 (e63 (R:=R) c):=qag fun v=>hs v.1
theorem sf63:Sp63 (F63):=fun p0 y hy=>by
 refine qad qac 1000000 (fn:=Try.f63) (by kernel_rfl) (by kernel_rfl) (X:=X63) (by kernel_rfl) ?_
 rw [eq63]
 exact (nt63 Ops.std p0 some (K2 k0)).trans (by show ob (F63 p0) _=_;rw [hy];rfl)
noncomputable def M63:C63:=F63
theorem sm63:Sp63 M63:=sf63
def X39:Aux:=⟨[(2,([1,2]++rg 4 30))],[]⟩
inductive S39 where
 | l0 (v1:Int)
def T39 {R:Type} (B:Ops) (c63:C63) (c54:C54) (p0:LB) (again:S39→Option R) (k:(Bool)→Option R):Option S39→Option R | none=>again (.l0 0) | some (.l0 v1)=>cond (B.lt v1 (↑p0.length)) (cond (B.inb v1 p0.length) (ob (c63 (Nat.cast (UInt8.toNat (p0.getD v1.toNat 0)))) fun y0=>cond (!y0) (cond (B.eq v1 0) (k false) (cond (B.inb v1 p0.length) (ob (c54 (Nat.cast (UInt8.toNat (p0.getD v1.toNat 0)))) fun y1=>cond (!y1) (k false) (again (.l0 (IntKind.wrap .i64 (v1+1))))) none)) (again (.l0 (IntKind.wrap .i64 (v1+1))))) none) (cond (B.le 1 (↑p0.length)) (k (B.le (↑p0.length) 8)) (k false))
def E39 (p0:LB):S39→List AV×Objs
 | .l0 v1=>(mk 34 [(0,.c (.str p0)),(3,.c (.int .i64 v1))],[])
def I39:S39→Nat
 | .l0 _=>0
theorem eq39 {R:Type} (B:Ops) (c63:C63) (c54:C54) (p0:LB) (k:AV→Objs→Option R) (n:Nat):afun tau B gl0 X39 (ent 63 (e63 c63) (ent 54 (e54 c54) gnil)) ow Try.f39 [.c (.str p0)] [] k n=T39 B c63 c54 p0 (fun s=>aloop tau B gl0 X39 (ent 63 (e63 c63) (ent 54 (e54 c54) gnil)) ow [] Try.f39 k (I39 s) (E39 p0 s) n) (K2 k) none:=by kernel_rfl
theorem el39 {R:Type} (B:Ops) (c63:C63) (c54:C54) (p0:LB) (k:AV→Objs→Option R) (n:Nat):∀ s,aloop tau B gl0 X39 (ent 63 (e63 c63) (ent 54 (e54 c54) gnil)) ow [] Try.f39 k (I39 s) (E39 p0 s) (n+1)=T39 B c63 c54 p0 (fun s=>aloop tau B gl0 X39 (ent 63 (e63 c63) (ent 54 (e54 c54) gnil)) ow [] Try.f39 k (I39 s) (E39 p0 s) n) (K2 k) (some s):=by
 intro s
 cases s<;>kernel_rfl
theorem nt39 {R R':Type} (B:Ops) (c63:C63) (c54:C54) (p0:LB) (again:S39→Option R) (again':S39→Option R') (k0:(Bool)→Option R') (k:R'→Option R) (h:∀ s,again s=ob (again' s) k):∀ s,T39 B c63 c54 p0 again (fun y=>ob (k0 y) k) s=ob (T39 B c63 c54 p0 again' k0 s) k:=by
 rintro (_ | x)
 all_goals try cases x
 all_goals (unfold T39;repeat' first | exact rfl | exact h _ | apply qab | (apply qae;intro))
def R39 (c63:C63) (c54:C54) (p0:LB):Nat→S39→Option (Bool)
 | 0,_=>none
 | n+1,s=>T39 Ops.std c63 c54 p0 (R39 c63 c54 p0 n) some (some s)
theorem rr39 {R:Type} (c63:C63) (c54:C54) (p0:LB) (k:AV→Objs→Option R):∀ (n:Nat) (s:S39),aloop tau Ops.std gl0 X39 (ent 63 (e63 c63) (ent 54 (e54 c54) gnil)) ow [] Try.f39 k (I39 s) (E39 p0 s) n=ob (R39 c63 c54 p0 n s) (K2 k)
 | 0,s=>by cases s<;>rfl
 | n+1,s=>by rw [el39];exact nt39 Ops.std c63 c54 p0 _ _ some (K2 k) (rr39 c63 c54 p0 k n) (some s)
def F39 (c63:C63) (c54:C54) (p0:LB):Option (Bool):=T39 Ops.std c63 c54 p0 (R39 c63 c54 p0 10000000000000000000) some none
abbrev C39:Type:=LB→Option (Bool)
def e39 {R:Type} (c:C39):Ent R:=eG [.aC .cS] [] fun v k=>ob (c v.1) (K2 k)
abbrev Sp39 (c:C39):Prop:=∀ (p0:LB) (y:Bool),c p0=some y→Spec Try.prog gl0 39 [.c (.str p0)] [] (.c (.bool y)) []
theorem ek39 {R:Type} {c:C39} (hs:Sp39 c):EOk 39 (e39 (R:=R) c):=qag fun v=>hs v.1
theorem sf39 {c63:C63} {c54:C54} (h63:Sp63 c63) (h54:Sp54 c54):Sp39 (F39 c63 c54):=fun p0 y hy=>by
 refine qad (qaa (ek63 h63) (qaa (ek54 h54) qac)) 10000000000000000000 (fn:=Try.f39) (by kernel_rfl) (by kernel_rfl) (X:=X39) (by kernel_rfl) ?_
 rw [eq39]
 exact (nt39 Ops.std c63 c54 p0 _ _ some (K2 k0) (rr39 c63 c54 p0 k0 10000000000000000000) none).trans (by show ob (F39 c63 c54 p0) _=_;rw [hy];rfl)
noncomputable def M39:C39:=F39 M63 M54
theorem sm39:Sp39 M39:=sf39 sm63 sm54
def X35:Aux:=⟨[],[]⟩
def T35 {R:Type} (B:Ops) (c39:C39) (p0:LB) (k:(LB×Bool)→Option R):Option R:=cond (p0 == mt UInt8) (k (mt UInt8,true)) (cond (B.inb (IntKind.wrap .i64 (Nat.cast p0.length-1)) (List.length p0+1)) (cond (B.inb (IntKind.wrap .i64 (Nat.cast p0.length-1)) (List.length p0+1)) (ob (c39 (List.drop 0 (List.take (Int.toNat (IntKind.wrap .i64 (Nat.cast p0.length-1))) p0))) fun y0=>cond (y0) (cond (List.drop (Int.toNat (IntKind.wrap .i64 (Nat.cast p0.length-1))) (List.take p0.length p0) == ([33]:LB)) (k ((List.drop 0 (List.take (Int.toNat (IntKind.wrap .i64 (Nat.cast p0.length-1))) p0),true))) (k ((List.drop 0 (List.take (Int.toNat (IntKind.wrap .i64 (Nat.cast p0.length-1))) p0),List.drop (Int.toNat (IntKind.wrap .i64 (Nat.cast p0.length-1))) (List.take p0.length p0) == ([63]:LB))))) (k ((List.drop 0 (List.take (Int.toNat (IntKind.wrap .i64 (Nat.cast p0.length-1))) p0),false)))) none) none)
abbrev K6 {R:Type} (k:AV→Objs→Option R) (y:(LB×Bool)):Option R:=k (.tup [(false,[.str y.1]),(false,[.bool y.2])]) []
theorem eq35 {R:Type} (B:Ops) (c39:C39) (p0:LB) (k:AV→Objs→Option R) (n:Nat):afun tau B gl0 X35 (ent 39 (e39 c39) gnil) ow Try.f35 [.c (.str p0)] [] k n=T35 B c39 p0 (K6 k):=by kernel_rfl
theorem nt35 {R R':Type} (B:Ops) (c39:C39) (p0:LB) (k0:(LB×Bool)→Option R') (k:R'→Option R):T35 B c39 p0 (fun y=>ob (k0 y) k)=ob (T35 B c39 p0 k0) k:=by
 unfold T35
 repeat' first | exact rfl | apply qab | (apply qae;intro)
def F35 (c39:C39) (p0:LB):Option (LB×Bool):=T35 Ops.std c39 p0 some
abbrev C35:Type:=LB→Option (LB×Bool)
def e35 {R:Type} (c:C35):Ent R:=eG [.aC .cS] [] fun v k=>ob (c v.1) (K6 k)
abbrev Sp35 (c:C35):Prop:=∀ (p0:LB) (y:LB×Bool),c p0=some y→Spec Try.prog gl0 35 [.c (.str p0)] [] (.tup [(false,[.str y.1]),(false,[.bool y.2])]) []
theorem ek35 {R:Type} {c:C35} (hs:Sp35 c):EOk 35 (e35 (R:=R) c):=qag fun v=>hs v.1
theorem sf35 {c39:C39} (h39:Sp39 c39):Sp35 (F35 c39):=fun p0 y hy=>by
 refine qad (qaa (ek39 h39) qac) 1000000 (fn:=Try.f35) (by kernel_rfl) (by kernel_rfl) (X:=X35) (by kernel_rfl) ?_
 rw [eq35]
 exact (nt35 Ops.std c39 p0 some (K6 k0)).trans (by show ob (F35 c39 p0) _=_;rw [hy];rfl)
noncomputable def M35:C35:=F35 M39
theorem sm35:Sp35 M35:=sf35 sm39
def X78:Aux:=⟨[(3,([1,2]++rg 5 37)),(9,([1,2,3,4]++rg 7 35))],[(5,.lin (rg 0 11)),(11,.lin [0,1,2,3,4,5,6,7])]⟩
inductive S78 where
 | l0 (v1:Int)
 | l1 (v2:Int)
def T78 {R:Type} (B:Ops) (p0:LB) (again:S78→Option R) (k:(LB)→Option R):Option S78→Option R | none=>again (.l0 0) | some (.l0 v1)=>cond (B.lt v1 7) (cond (B.lt 1 (↑p0.length)) (cond (B.inb 2 (List.length p0+1)) (cond (B.inb v1 9) (cond (List.drop 0 (List.take (Int.toNat 2) p0) == List.getD (([60,61]:LB)::([62,61]:LB)::([61,61]:LB)::([33,61]:LB)::([38,38]:LB)::([124,124]:LB)::([45,62]:LB)::(mt UInt8)::(mt UInt8)::mt LB) v1.toNat (mt UInt8)) (cond (B.inb v1 9) (k (List.getD (([60,61]:LB)::([62,61]:LB)::([61,61]:LB)::([33,61]:LB)::([38,38]:LB)::([124,124]:LB)::([45,62]:LB)::(mt UInt8)::(mt UInt8)::mt LB) v1.toNat (mt UInt8))) none) (again (.l0 (IntKind.wrap .i64 (v1+1))))) none) none) (again (.l0 (IntKind.wrap .i64 (v1+1))))) (again (.l1 0)) | some (.l1 v2)=>cond (B.lt v2 (Nat.cast 13)) (cond (B.inb 1 (List.length p0+1)) (cond (B.inb (IntKind.wrap .i64 (v2+1)) (13+1)) (cond (bif B.le 0 v2 then B.le v2 (IntKind.wrap .i64 (v2+1)) else false) (cond (List.drop 0 (List.take (Int.toNat 1) p0) == List.drop v2.toNat (List.take (Int.toNat (IntKind.wrap .i64 (v2+1))) ([40,41,91,93,43,45,42,60,62,33,64,59,61]:LB))) (cond (B.inb 1 (List.length p0+1)) (k (List.drop 0 (List.take (Int.toNat 1) p0))) none) (again (.l1 (IntKind.wrap .i64 (v2+1))))) none) none) none) (k (mt UInt8))
def E78 (p0:LB):S78→List AV×Objs
 | .l0 v1=>(mk 42 [(0,.c (.str p0)),(3,.c (.ptr 3 0)),(4,.c (.int .i64 v1))],[(3,.box 135 [.str ([60,61]:LB),.str ([62,61]:LB),.str ([61,61]:LB),.str ([33,61]:LB),.str ([38,38]:LB),.str ([124,124]:LB),.str ([45,62]:LB),.str (mt UInt8),.str (mt UInt8)])])
 | .l1 v2=>(mk 42 [(0,.c (.str p0)),(5,.c (.str ([40,41,91,93,43,45,42,60,62,33,64,59,61]:LB))),(6,.c (.int .i64 v2))],[])
def I78:S78→Nat
 | .l0 _=>0
 | .l1 _=>1
theorem eq78 {R:Type} (B:Ops) (p0:LB) (k:AV→Objs→Option R) (n:Nat):afun tau B gl0 X78 gnil ow Try.f78 [.c (.str p0)] [] k n=T78 B p0 (fun s=>aloop tau B gl0 X78 gnil ow [] Try.f78 k (I78 s) (E78 p0 s) n) (K5 k) none:=by kernel_rfl
theorem el78 {R:Type} (B:Ops) (p0:LB) (k:AV→Objs→Option R) (n:Nat):∀ s,aloop tau B gl0 X78 gnil ow [] Try.f78 k (I78 s) (E78 p0 s) (n+1)=T78 B p0 (fun s=>aloop tau B gl0 X78 gnil ow [] Try.f78 k (I78 s) (E78 p0 s) n) (K5 k) (some s):=by
 intro s
 cases s<;>kernel_rfl
theorem nt78 {R R':Type} (B:Ops) (p0:LB) (again:S78→Option R) (again':S78→Option R') (k0:(LB)→Option R') (k:R'→Option R) (h:∀ s,again s=ob (again' s) k):∀ s,T78 B p0 again (fun y=>ob (k0 y) k) s=ob (T78 B p0 again' k0 s) k:=by
 rintro (_ | x)
 all_goals try cases x
 all_goals (unfold T78;repeat' first | exact rfl | exact h _ | apply qab | (apply qae;intro))
def R78 (p0:LB):Nat→S78→Option (LB)
 | 0,_=>none
 | n+1,s=>T78 Ops.std p0 (R78 p0 n) some (some s)
theorem rr78 {R:Type} (p0:LB) (k:AV→Objs→Option R):∀ (n:Nat) (s:S78),aloop tau Ops.std gl0 X78 gnil ow [] Try.f78 k (I78 s) (E78 p0 s) n=ob (R78 p0 n s) (K5 k)
 | 0,s=>by cases s<;>rfl
 | n+1,s=>by rw [el78];exact nt78 Ops.std p0 _ _ some (K5 k) (rr78 p0 k n) (some s)
def F78 (p0:LB):Option (LB):=T78 Ops.std p0 (R78 p0 1000000) some none
abbrev C78:Type:=LB→Option (LB)
def e78 {R:Type} (c:C78):Ent R:=eG [.aC .cS] [] fun v k=>ob (c v.1) (K5 k)
abbrev Sp78 (c:C78):Prop:=∀ (p0 y:LB),c p0=some y→Spec Try.prog gl0 78 [.c (.str p0)] [] (.c (.str y)) []
theorem ek78 {R:Type} {c:C78} (hs:Sp78 c):EOk 78 (e78 (R:=R) c):=qag fun v=>hs v.1
theorem sf78:Sp78 (F78):=fun p0 y hy=>by
 refine qad qac 1000000 (fn:=Try.f78) (by kernel_rfl) (by kernel_rfl) (X:=X78) (by kernel_rfl) ?_
 rw [eq78]
 exact (nt78 Ops.std p0 _ _ some (K5 k0) (rr78 p0 k0 1000000) none).trans (by show ob (F78 p0) _=_;rw [hy];rfl)
noncomputable def M78:C78:=F78
theorem sm78:Sp78 M78:=sf78
def X91:Aux:=⟨[],[(1,.lin (rg 0 28))]⟩
def T91 {R:Type} (B:Ops) (p0:LB) (p1:L111) (p2 p3:Int) (p4:L95) (k:(Bool×L111×Int×Int×L95)→Option R):Option R:=cond (B.inb p2 p1.length) (cond (B.eq ((p1.getD p2.toNat ty111.dflt).1) 4) (cond (B.inb p2 p1.length) (k ((((p1.getD p2.toNat ty111.dflt).2).1 == p0,p1,p2,p3,p4))) none) (k (false,p1,p2,p3,p4))) none
abbrev K7 {R:Type} (k:AV→Objs→Option R) (y:(Bool×L111×Int×Int×L95)):Option R:=k (.c (.bool y.1)) [(0,.box 124 [.list 111 ty111 y.2.1,.int .i64 y.2.2.1,.own 1002,.int .i64 y.2.2.2.1]),(1002,.row 95 ty95 y.2.2.2.2)]
theorem eq91 {R:Type} (B:Ops) (p0:LB) (p1:L111) (p2 p3:Int) (p4:L95) (k:AV→Objs→Option R) (n:Nat):afun tau B gl0 X91 gnil ow Try.f91 [.c (.ptr 0 0),.c (.str p0)] [(0,.box 124 [.list 111 ty111 p1,.int .i64 p2,.own 1002,.int .i64 p3]),(1002,.row 95 ty95 p4)] k n=T91 B p0 p1 p2 p3 p4 (K7 k):=by kernel_rfl
theorem nt91 {R R':Type} (B:Ops) (p0:LB) (p1:L111) (p2 p3:Int) (p4:L95) (k0:(Bool×L111×Int×Int×L95)→Option R') (k:R'→Option R):T91 B p0 p1 p2 p3 p4 (fun y=>ob (k0 y) k)=ob (T91 B p0 p1 p2 p3 p4 k0) k:=by
 unfold T91
 repeat' first | exact rfl | apply qab | (apply qae;intro)
def F91 (p0:LB) (p1:L111) (p2 p3:Int) (p4:L95):Option (Bool×L111×Int×Int×L95):=T91 Ops.std p0 p1 p2 p3 p4 some
abbrev C91:Type:=LB→L111→Int→Int→L95→Option (Bool×L111×Int×Int×L95)
def e91 {R:Type} (c:C91):Ent R:=eG [.aC (.cP 0),.aC .cS] [.oB 0 124 [.cL 111 ty111,.cI .i64,.cO 1002,.cI .i64],.oR 1002 95 ty95] fun v k=>ob (c v.1 v.2.1 v.2.2.1 v.2.2.2.1 v.2.2.2.2.1) (K7 k)
abbrev Sp91 (c:C91):Prop:=∀ (p0:LB) (p1:L111) (p2 p3:Int) (p4:L95) (y:Bool×L111×Int×Int×L95),c p0 p1 p2 p3 p4=some y→Spec Try.prog gl0 91 [.c (.ptr 0 0),.c (.str p0)] [(0,.box 124 [.list 111 ty111 p1,.int .i64 p2,.own 1002,.int .i64 p3]),(1002,.row 95 ty95 p4)] (.c (.bool y.1)) [(0,.box 124 [.list 111 ty111 y.2.1,.int .i64 y.2.2.1,.own 1002,.int .i64 y.2.2.2.1]),(1002,.row 95 ty95 y.2.2.2.2)]
theorem ek91 {R:Type} {c:C91} (hs:Sp91 c):EOk 91 (e91 (R:=R) c):=qag fun v=>hs v.1 v.2.1 v.2.2.1 v.2.2.2.1 v.2.2.2.2.1
theorem sf91:Sp91 (F91):=fun p0 p1 p2 p3 p4 y hy=>by
 refine qad qac 1000000 (fn:=Try.f91) (by kernel_rfl) (by kernel_rfl) (X:=X91) (by kernel_rfl) ?_
 rw [eq91]
 exact (nt91 Ops.std p0 p1 p2 p3 p4 some (K7 k0)).trans (by show ob (F91 p0 p1 p2 p3 p4) _=_;rw [hy];rfl)
noncomputable def M91:C91:=F91
theorem sm91:Sp91 M91:=sf91
def X92:Aux:=⟨[],[]⟩
def T92 {R:Type} (B:Ops) (p0:L111) (p1 p2:Int) (p3:L95) (k:(L111×Int×Int×L95)→Option R):Option R:=cond (B.lt p2 0) (k (p0,p1,p1,p3)) (k (p0,p1,p2,p3))
abbrev K8 {R:Type} (k:AV→Objs→Option R) (y:(L111×Int×Int×L95)):Option R:=k (.tup []) [(0,.box 124 [.list 111 ty111 y.1,.int .i64 y.2.1,.own 1002,.int .i64 y.2.2.1]),(1002,.row 95 ty95 y.2.2.2)]
theorem eq92 {R:Type} (B:Ops) (p0:L111) (p1 p2:Int) (p3:L95) (k:AV→Objs→Option R) (n:Nat):afun tau B gl0 X92 gnil ow Try.f92 [.c (.ptr 0 0)] [(0,.box 124 [.list 111 ty111 p0,.int .i64 p1,.own 1002,.int .i64 p2]),(1002,.row 95 ty95 p3)] k n=T92 B p0 p1 p2 p3 (K8 k):=by kernel_rfl
theorem nt92 {R R':Type} (B:Ops) (p0:L111) (p1 p2:Int) (p3:L95) (k0:(L111×Int×Int×L95)→Option R') (k:R'→Option R):T92 B p0 p1 p2 p3 (fun y=>ob (k0 y) k)=ob (T92 B p0 p1 p2 p3 k0) k:=by
 unfold T92
 repeat' first | exact rfl | apply qab | (apply qae;intro)
def F92 (p0:L111) (p1 p2:Int) (p3:L95):Option (L111×Int×Int×L95):=T92 Ops.std p0 p1 p2 p3 some
abbrev C92:Type:=L111→Int→Int→L95→Option (L111×Int×Int×L95)
def e92 {R:Type} (c:C92):Ent R:=eG [.aC (.cP 0)] [.oB 0 124 [.cL 111 ty111,.cI .i64,.cO 1002,.cI .i64],.oR 1002 95 ty95] fun v k=>ob (c v.1 v.2.1 v.2.2.1 v.2.2.2.1) (K8 k)
abbrev Sp92 (c:C92):Prop:=∀ (p0:L111) (p1 p2:Int) (p3:L95) (y:L111×Int×Int×L95),c p0 p1 p2 p3=some y→Spec Try.prog gl0 92 [.c (.ptr 0 0)] [(0,.box 124 [.list 111 ty111 p0,.int .i64 p1,.own 1002,.int .i64 p2]),(1002,.row 95 ty95 p3)] (.tup []) [(0,.box 124 [.list 111 ty111 y.1,.int .i64 y.2.1,.own 1002,.int .i64 y.2.2.1]),(1002,.row 95 ty95 y.2.2.2)]
theorem ek92 {R:Type} {c:C92} (hs:Sp92 c):EOk 92 (e92 (R:=R) c):=qag fun v=>hs v.1 v.2.1 v.2.2.1 v.2.2.2.1
theorem sf92:Sp92 (F92):=fun p0 p1 p2 p3 y hy=>by
 refine qad qac 1000000 (fn:=Try.f92) (by kernel_rfl) (by kernel_rfl) (X:=X92) (by kernel_rfl) ?_
 rw [eq92]
 exact (nt92 Ops.std p0 p1 p2 p3 some (K8 k0)).trans (by show ob (F92 p0 p1 p2 p3) _=_;rw [hy];rfl)
noncomputable def M92:C92:=F92
theorem sm92:Sp92 M92:=sf92
def X82:Aux:=⟨[],[]⟩
def T82 {R:Type} (B:Ops) (p0:Int) (k:(Int)→Option R):Option R:=cond (B.eq p0 16) (k 1) (cond (B.eq p0 15) (k 2) (cond (B.eq p0 9) (k 3) (cond (B.eq p0 10) (k 3) (cond (B.eq p0 11) (k 3) (cond (B.eq p0 12) (k 3) (cond (B.eq p0 13) (k 3) (cond (B.eq p0 14) (k 3) (cond (B.eq p0 7) (k 4) (cond (B.eq p0 8) (k 4) (cond (B.eq p0 6) (k 5) (cond (B.eq p0 4) (k 6) (cond (B.eq p0 5) (k 6) (k 7)))))))))))))
abbrev K9 {R:Type} (k:AV→Objs→Option R) (y:(Int)):Option R:=k (.c (.int .i64 y)) []
theorem eq82 {R:Type} (B:Ops) (p0:Int) (k:AV→Objs→Option R) (n:Nat):afun tau B gl0 X82 gnil ow Try.f82 [.c (.int .i64 p0)] [] k n=T82 B p0 (K9 k):=by kernel_rfl
theorem nt82 {R R':Type} (B:Ops) (p0:Int) (k0:(Int)→Option R') (k:R'→Option R):T82 B p0 (fun y=>ob (k0 y) k)=ob (T82 B p0 k0) k:=by
 unfold T82
 repeat' first | exact rfl | apply qab | (apply qae;intro)
def F82 (p0:Int):Option (Int):=T82 Ops.std p0 some
abbrev C82:Type:=Int→Option (Int)
def e82 {R:Type} (c:C82):Ent R:=eG [.aC (.cI .i64)] [] fun v k=>ob (c v.1) (K9 k)
abbrev Sp82 (c:C82):Prop:=∀ (p0 y:Int),c p0=some y→Spec Try.prog gl0 82 [.c (.int .i64 p0)] [] (.c (.int .i64 y)) []
theorem ek82 {R:Type} {c:C82} (hs:Sp82 c):EOk 82 (e82 (R:=R) c):=qag fun v=>hs v.1
theorem sf82:Sp82 (F82):=fun p0 y hy=>by
 refine qad qac 1000000 (fn:=Try.f82) (by kernel_rfl) (by kernel_rfl) (X:=X82) (by kernel_rfl) ?_
 rw [eq82]
 exact (nt82 Ops.std p0 some (K9 k0)).trans (by show ob (F82 p0) _=_;rw [hy];rfl)
noncomputable def M82:C82:=F82
theorem sm82:Sp82 M82:=sf82
def X87:Aux:=⟨[(5,([0,3,4]++rg 7 21))],[(7,.lin ([0,1,2,3,4,5,6,7,9,8,10,11]))]⟩
inductive S87 where
 | l0 (v1:Int)
def T87 {R:Type} (B:Ops) (c82:C82) (p0:Int) (p1:LB) (p2 p3 p4:Int) (again:S87→Option R) (k:(Int)→Option R):Option S87→Option R | none=>cond (!B.eq p0 4) (k 0) (again (.l0 6)) | some (.l0 v1)=>cond (B.le v1 16) (cond (B.inb v1 17) (cond (List.getD ((mt UInt8)::(mt UInt8)::(mt UInt8)::(mt UInt8)::(mt UInt8)::(mt UInt8)::([42]:LB)::([43]:LB)::([45]:LB)::([60]:LB)::([60,61]:LB)::([62]:LB)::([62,61]:LB)::([61,61]:LB)::([33,61]:LB)::([38,38]:LB)::([124,124]:LB)::mt LB) v1.toNat (mt UInt8) == p1) (ob (c82 v1) fun y0=>cond (B.eq y0 p4) (k v1) (again (.l0 (IntKind.wrap .i64 (v1+1))))) (again (.l0 (IntKind.wrap .i64 (v1+1))))) none) (k 0)
def E87 (p0:Int) (p1:LB) (p2 p3 p4:Int):S87→List AV×Objs
 | .l0 v1=>(mk 28 [(1,.c (.int .i64 p4)),(2,.c (.ptr 2 0)),(5,.c (.ptr 5 0)),(6,.c (.int .i64 v1))],[(2,.box 111 [.int .i64 p0,.str p1,.int .i64 p2,.int .i64 p3]),(5,.box 129 [.str (mt UInt8),.str (mt UInt8),.str (mt UInt8),.str (mt UInt8),.str (mt UInt8),.str (mt UInt8),.str ([42]:LB),.str ([43]:LB),.str ([45]:LB),.str ([60]:LB),.str ([60,61]:LB),.str ([62]:LB),.str ([62,61]:LB),.str ([61,61]:LB),.str ([33,61]:LB),.str ([38,38]:LB),.str ([124,124]:LB)])])
def I87:S87→Nat
 | .l0 _=>0
theorem eq87 {R:Type} (B:Ops) (c82:C82) (p0:Int) (p1:LB) (p2 p3 p4:Int) (k:AV→Objs→Option R) (n:Nat):afun tau B gl0 X87 (ent 82 (e82 c82) gnil) ow Try.f87 [.agg [.int .i64 p0,.str p1,.int .i64 p2,.int .i64 p3],.c (.int .i64 p4)] [] k n=T87 B c82 p0 p1 p2 p3 p4 (fun s=>aloop tau B gl0 X87 (ent 82 (e82 c82) gnil) ow [] Try.f87 k (I87 s) (E87 p0 p1 p2 p3 p4 s) n) (K9 k) none:=by kernel_rfl
theorem el87 {R:Type} (B:Ops) (c82:C82) (p0:Int) (p1:LB) (p2 p3 p4:Int) (k:AV→Objs→Option R) (n:Nat):∀ s,aloop tau B gl0 X87 (ent 82 (e82 c82) gnil) ow [] Try.f87 k (I87 s) (E87 p0 p1 p2 p3 p4 s) (n+1)=T87 B c82 p0 p1 p2 p3 p4 (fun s=>aloop tau B gl0 X87 (ent 82 (e82 c82) gnil) ow [] Try.f87 k (I87 s) (E87 p0 p1 p2 p3 p4 s) n) (K9 k) (some s):=by
 intro s
 cases s<;>kernel_rfl
theorem nt87 {R R':Type} (B:Ops) (c82:C82) (p0:Int) (p1:LB) (p2 p3 p4:Int) (again:S87→Option R) (again':S87→Option R') (k0:(Int)→Option R') (k:R'→Option R) (h:∀ s,again s=ob (again' s) k):∀ s,T87 B c82 p0 p1 p2 p3 p4 again (fun y=>ob (k0 y) k) s=ob (T87 B c82 p0 p1 p2 p3 p4 again' k0 s) k:=by
 rintro (_ | x)
 all_goals try cases x
 all_goals (unfold T87;repeat' first | exact rfl | exact h _ | apply qab | (apply qae;intro))
def R87 (c82:C82) (p0:Int) (p1:LB) (p2 p3 p4:Int):Nat→S87→Option (Int)
 | 0,_=>none
 | n+1,s=>T87 Ops.std c82 p0 p1 p2 p3 p4 (R87 c82 p0 p1 p2 p3 p4 n) some (some s)
theorem rr87 {R:Type} (c82:C82) (p0:Int) (p1:LB) (p2 p3 p4:Int) (k:AV→Objs→Option R):∀ (n:Nat) (s:S87),aloop tau Ops.std gl0 X87 (ent 82 (e82 c82) gnil) ow [] Try.f87 k (I87 s) (E87 p0 p1 p2 p3 p4 s) n=ob (R87 c82 p0 p1 p2 p3 p4 n s) (K9 k)
 | 0,s=>by cases s<;>rfl
 | n+1,s=>by rw [el87];exact nt87 Ops.std c82 p0 p1 p2 p3 p4 _ _ some (K9 k) (rr87 c82 p0 p1 p2 p3 p4 k n) (some s)
def F87 (c82:C82) (p0:Int) (p1:LB) (p2 p3 p4:Int):Option (Int):=T87 Ops.std c82 p0 p1 p2 p3 p4 (R87 c82 p0 p1 p2 p3 p4 1000000) some none
abbrev C87:Type:=Int→LB→Int→Int→Int→Option (Int)
def e87 {R:Type} (c:C87):Ent R:=eG [.aG [.cI .i64,.cS,.cI .i64,.cI .i64],.aC (.cI .i64)] [] fun v k=>ob (c v.1 v.2.1 v.2.2.1 v.2.2.2.1 v.2.2.2.2.1) (K9 k)
abbrev Sp87 (c:C87):Prop:=∀ (p0:Int) (p1:LB) (p2 p3 p4 y:Int),c p0 p1 p2 p3 p4=some y→Spec Try.prog gl0 87 [.agg [.int .i64 p0,.str p1,.int .i64 p2,.int .i64 p3],.c (.int .i64 p4)] [] (.c (.int .i64 y)) []
theorem ek87 {R:Type} {c:C87} (hs:Sp87 c):EOk 87 (e87 (R:=R) c):=qag fun v=>hs v.1 v.2.1 v.2.2.1 v.2.2.2.1 v.2.2.2.2.1
theorem sf87 {c82:C82} (h82:Sp82 c82):Sp87 (F87 c82):=fun p0 p1 p2 p3 p4 y hy=>by
 refine qad (qaa (ek82 h82) qac) 1000000 (fn:=Try.f87) (by kernel_rfl) (by kernel_rfl) (X:=X87) (by kernel_rfl) ?_
 rw [eq87]
 exact (nt87 Ops.std c82 p0 p1 p2 p3 p4 _ _ some (K9 k0) (rr87 c82 p0 p1 p2 p3 p4 k0 1000000) none).trans (by show ob (F87 c82 p0 p1 p2 p3 p4) _=_;rw [hy];rfl)
noncomputable def M87:C87:=F87 M82
theorem sm87:Sp87 M87:=sf87 sm82
abbrev C79:Type:=Int→L111→Int→Int→L95→Option (L111×Int×Int×L95)
def e79 {R:Type} (c:C79):Ent R:=eG [.aC (.cP 0),.aC (.cI .i64)] [.oB 0 124 [.cL 111 ty111,.cI .i64,.cO 1002,.cI .i64],.oR 1002 95 ty95] fun v k=>ob (c v.1 v.2.1 v.2.2.1 v.2.2.2.1 v.2.2.2.2.1) (K8 k)
abbrev Sp79 (c:C79):Prop:=∀ (p0:Int) (p1:L111) (p2 p3:Int) (p4:L95) (y:L111×Int×Int×L95),c p0 p1 p2 p3 p4=some y→Spec Try.prog gl0 79 [.c (.ptr 0 0),.c (.int .i64 p0)] [(0,.box 124 [.list 111 ty111 p1,.int .i64 p2,.own 1002,.int .i64 p3]),(1002,.row 95 ty95 p4)] (.tup []) [(0,.box 124 [.list 111 ty111 y.1,.int .i64 y.2.1,.own 1002,.int .i64 y.2.2.1]),(1002,.row 95 ty95 y.2.2.2)]
theorem ek79 {R:Type} {c:C79} (hs:Sp79 c):EOk 79 (e79 (R:=R) c):=qag fun v=>hs v.1 v.2.1 v.2.2.1 v.2.2.2.1 v.2.2.2.2.1
abbrev C86:Type:=L111→Int→Int→L95→Option (L111×Int×Int×L95)
def e86 {R:Type} (c:C86):Ent R:=eG [.aC (.cP 0)] [.oB 0 124 [.cL 111 ty111,.cI .i64,.cO 1002,.cI .i64],.oR 1002 95 ty95] fun v k=>ob (c v.1 v.2.1 v.2.2.1 v.2.2.2.1) (K8 k)
abbrev Sp86 (c:C86):Prop:=∀ (p0:L111) (p1 p2:Int) (p3:L95) (y:L111×Int×Int×L95),c p0 p1 p2 p3=some y→Spec Try.prog gl0 86 [.c (.ptr 0 0)] [(0,.box 124 [.list 111 ty111 p0,.int .i64 p1,.own 1002,.int .i64 p2]),(1002,.row 95 ty95 p3)] (.tup []) [(0,.box 124 [.list 111 ty111 y.1,.int .i64 y.2.1,.own 1002,.int .i64 y.2.2.1]),(1002,.row 95 ty95 y.2.2.2)]
theorem ek86 {R:Type} {c:C86} (hs:Sp86 c):EOk 86 (e86 (R:=R) c):=qag fun v=>hs v.1 v.2.1 v.2.2.1 v.2.2.2.1
def X79:Aux:=⟨[(3,(rg 2 54))],[(4,.lin (rg 0 13))]⟩
inductive S79 where
 | l0 (v1:L111) (v2 v3:Int) (v4:L95)
def T79 {R:Type} (B:Ops) (c86:C86) (c79:C79) (c87:C87) (p0:Int) (p1:L111) (p2 p3:Int) (p4:L95) (again:S79→Option R) (k:(L111×Int×Int×L95)→Option R):Option S79→Option R | none=>cond (B.lt 5 p0) (ob (c86 p1 p2 p3 p4) fun y0=>k (y0.1,y0.2.1,y0.2.2.1,y0.2.2.2)) (ob (c79 (IntKind.wrap .i64 (p0+1)) p1 p2 p3 p4) fun y0=>again (.l0 y0.1 y0.2.1 y0.2.2.1 y0.2.2.2)) | some (.l0 v1 v2 v3 v4)=>cond (B.lt v3 0) (cond (B.inb v2 v1.length) (ob (c87 ((v1.getD v2.toNat ty111.dflt).1) (((v1.getD v2.toNat ty111.dflt).2).1) ((((v1.getD v2.toNat ty111.dflt).2).2).1) ((((v1.getD v2.toNat ty111.dflt).2).2).2) p0) fun y0=>cond (B.eq y0 0) (k (v1,v2,v3,v4)) (ob (c79 (IntKind.wrap .i64 (p0+1)) v1 (IntKind.wrap .i64 (v2+1)) v3 v4) fun y1=>cond (B.lim (List.length (y1.2.2.2)+List.length ((y0,0,mt UInt8,mt UInt8)::mt (Ty.den ty95))) 48) (cond (B.eq p0 3) (k ((y1.1,y1.2.1,y1.2.2.1,y1.2.2.2++(y0,0,mt UInt8,mt UInt8)::mt (Ty.den ty95)))) (again (.l0 y1.1 y1.2.1 y1.2.2.1 (y1.2.2.2++(y0,0,mt UInt8,mt UInt8)::mt (Ty.den ty95))))) none)) none) (k (v1,v2,v3,v4))
def E79 (p0:Int) (p1:L111) (p2 p3:Int) (p4:L95):S79→List AV×Objs
 | .l0 v1 v2 v3 v4=>(mk 56 [(0,.c (.ptr 0 0)),(1,.c (.int .i64 p0))],[(0,.box 124 [.list 111 ty111 v1,.int .i64 v2,.own 1002,.int .i64 v3]),(1002,.row 95 ty95 v4)])
def I79:S79→Nat
 | .l0 _ _ _ _=>0
theorem eq79 {R:Type} (B:Ops) (c86:C86) (c79:C79) (c87:C87) (p0:Int) (p1:L111) (p2 p3:Int) (p4:L95) (k:AV→Objs→Option R) (n:Nat):afun tau B gl0 X79 (ent 86 (e86 c86) (ent 79 (e79 c79) (ent 87 (e87 c87) gnil))) ow Try.f79 [.c (.ptr 0 0),.c (.int .i64 p0)] [(0,.box 124 [.list 111 ty111 p1,.int .i64 p2,.own 1002,.int .i64 p3]),(1002,.row 95 ty95 p4)] k n=T79 B c86 c79 c87 p0 p1 p2 p3 p4 (fun s=>aloop tau B gl0 X79 (ent 86 (e86 c86) (ent 79 (e79 c79) (ent 87 (e87 c87) gnil))) ow [0] Try.f79 k (I79 s) (E79 p0 p1 p2 p3 p4 s) n) (K8 k) none:=by kernel_rfl
theorem el79 {R:Type} (B:Ops) (c86:C86) (c79:C79) (c87:C87) (p0:Int) (p1:L111) (p2 p3:Int) (p4:L95) (k:AV→Objs→Option R) (n:Nat):∀ s,aloop tau B gl0 X79 (ent 86 (e86 c86) (ent 79 (e79 c79) (ent 87 (e87 c87) gnil))) ow [0] Try.f79 k (I79 s) (E79 p0 p1 p2 p3 p4 s) (n+1)=T79 B c86 c79 c87 p0 p1 p2 p3 p4 (fun s=>aloop tau B gl0 X79 (ent 86 (e86 c86) (ent 79 (e79 c79) (ent 87 (e87 c87) gnil))) ow [0] Try.f79 k (I79 s) (E79 p0 p1 p2 p3 p4 s) n) (K8 k) (some s):=by
 intro s
 cases s<;>kernel_rfl
theorem nt79 {R R':Type} (B:Ops) (c86:C86) (c79:C79) (c87:C87) (p0:Int) (p1:L111) (p2 p3:Int) (p4:L95) (again:S79→Option R) (again':S79→Option R') (k0:(L111×Int×Int×L95)→Option R') (k:R'→Option R) (h:∀ s,again s=ob (again' s) k):∀ s,T79 B c86 c79 c87 p0 p1 p2 p3 p4 again (fun y=>ob (k0 y) k) s=ob (T79 B c86 c79 c87 p0 p1 p2 p3 p4 again' k0 s) k:=by
 rintro (_ | x)
 all_goals try cases x
 all_goals (unfold T79;repeat' first | exact rfl | exact h _ | apply qab | (apply qae;intro))
def R79 (c86:C86) (c79:C79) (c87:C87) (p0:Int) (p1:L111) (p2 p3:Int) (p4:L95):Nat→S79→Option (L111×Int×Int×L95)
 | 0,_=>none
 | n+1,s=>T79 Ops.std c86 c79 c87 p0 p1 p2 p3 p4 (R79 c86 c79 c87 p0 p1 p2 p3 p4 n) some (some s)
theorem rr79 {R:Type} (c86:C86) (c79:C79) (c87:C87) (p0:Int) (p1:L111) (p2 p3:Int) (p4:L95) (k:AV→Objs→Option R):∀ (n:Nat) (s:S79),aloop tau Ops.std gl0 X79 (ent 86 (e86 c86) (ent 79 (e79 c79) (ent 87 (e87 c87) gnil))) ow [0] Try.f79 k (I79 s) (E79 p0 p1 p2 p3 p4 s) n=ob (R79 c86 c79 c87 p0 p1 p2 p3 p4 n s) (K8 k)
 | 0,s=>by cases s<;>rfl
 | n+1,s=>by rw [el79];exact nt79 Ops.std c86 c79 c87 p0 p1 p2 p3 p4 _ _ some (K8 k) (rr79 c86 c79 c87 p0 p1 p2 p3 p4 k n) (some s)
def F79 (c86:C86) (c79:C79) (c87:C87) (p0:Int) (p1:L111) (p2 p3:Int) (p4:L95):Option (L111×Int×Int×L95):=T79 Ops.std c86 c79 c87 p0 p1 p2 p3 p4 (R79 c86 c79 c87 p0 p1 p2 p3 p4 1000000) some none
theorem sf79 {c86:C86} {c79:C79} {c87:C87} (h86:Sp86 c86) (h79:Sp79 c79) (h87:Sp87 c87):Sp79 (F79 c86 c79 c87):=fun p0 p1 p2 p3 p4 y hy=>by
 refine qad (qaa (ek86 h86) (qaa (ek79 h79) (qaa (ek87 h87) qac))) 1000000 (fn:=Try.f79) (by kernel_rfl) (by kernel_rfl) (X:=X79) (by kernel_rfl) ?_
 rw [eq79]
 exact (nt79 Ops.std c86 c79 c87 p0 p1 p2 p3 p4 _ _ some (K8 k0) (rr79 c86 c79 c87 p0 p1 p2 p3 p4 k0 1000000) none).trans (by show ob (F79 c86 c79 c87 p0 p1 p2 p3 p4) _=_;rw [hy];rfl)
def X86:Aux:=⟨[(1000006,([1]++rg 3 167))],[(10,.lin (rg 0 12)),(14,.lin (rg 0 13)),(20,.lin (rg 0 12)),(23,.lin (rg 0 13)),(25,.lin (rg 0 11))]⟩
inductive S86 where
 | l1006 (v0:Int) (v1:L111) (v2 v3:Int) (v4:L95)
def T86 {R:Type} (B:Ops) (c91:C91) (c86:C86) (c92:C92) (c79:C79) (p0:L111) (p1 p2:Int) (p3:L95) (again:S86→Option R) (k:(L111×Int×Int×L95)→Option R):Option S86→Option R | none=>cond (B.le 0 p2) (k (p0,p1,p2,p3)) (ob (c91 ([33]:LB) p0 p1 p2 p3) fun y0=>cond y0.1 (again (.l1006 4 y0.2.1 y0.2.2.1 y0.2.2.2.1 y0.2.2.2.2)) (ob (c91 ([45]:LB) y0.2.1 y0.2.2.1 y0.2.2.2.1 y0.2.2.2.2) fun y1=>cond y1.1 (again (.l1006 5 y1.2.1 y1.2.2.1 y1.2.2.2.1 y1.2.2.2.2)) (again (.l1006 0 y1.2.1 y1.2.2.1 y1.2.2.2.1 y1.2.2.2.2)))) | some (.l1006 v0 v1 v2 v3 v4)=>cond (!B.eq v0 0) (ob (c86 v1 (IntKind.wrap .i64 (v2+1)) v3 v4) fun y0=>cond (B.lim (List.length (y0.2.2.2)+List.length ((v0,0,mt UInt8,mt UInt8)::mt (Ty.den ty95))) 48) (k ((y0.1,y0.2.1,y0.2.2.1,y0.2.2.2++(v0,0,mt UInt8,mt UInt8)::mt (Ty.den ty95)))) none) (cond (B.inb v2 v1.length) (cond (B.eq ((v1.getD v2.toNat ty111.dflt).1) 1) (cond (B.lim (List.length v4+List.length ((1,(((v1.getD v2.toNat ty111.dflt).2).2).1,mt UInt8,mt UInt8)::mt (Ty.den ty95))) 48) (k ((v1,IntKind.wrap .i64 (v2+1),v3,v4++(1,(((v1.getD v2.toNat ty111.dflt).2).2).1,mt UInt8,mt UInt8)::mt (Ty.den ty95)))) none) (cond (B.eq ((v1.getD v2.toNat ty111.dflt).1) 2) (ob (c91 ([64]:LB) v1 (IntKind.wrap .i64 (v2+1)) v3 v4) fun y0=>cond y0.1 (cond (B.inb (IntKind.wrap .i64 (y0.2.2.1+1)) (List.length y0.2.1)) (cond (!B.eq ((List.getD y0.2.1 (Int.toNat (IntKind.wrap .i64 (y0.2.2.1+1))) ty111.dflt).1) 2) (ob (c92 y0.2.1 (IntKind.wrap .i64 (y0.2.2.1+1)) y0.2.2.2.1 y0.2.2.2.2) fun y1=>k (y1.1,y1.2.1,y1.2.2.1,y1.2.2.2)) (cond (B.inb (IntKind.wrap .i64 (y0.2.2.1+1)) (List.length y0.2.1)) (cond (B.lim (List.length (y0.2.2.2.2)+List.length ((3,0,((v1.getD v2.toNat ty111.dflt).2).1,((List.getD y0.2.1 (Int.toNat (IntKind.wrap .i64 (y0.2.2.1+1))) ty111.dflt).2).1)::mt (Ty.den ty95))) 48) (k ((y0.2.1,IntKind.wrap .i64 (IntKind.wrap .i64 (y0.2.2.1+1)+1),y0.2.2.2.1,y0.2.2.2.2++(3,0,((v1.getD v2.toNat ty111.dflt).2).1,((List.getD y0.2.1 (Int.toNat (IntKind.wrap .i64 (y0.2.2.1+1))) ty111.dflt).2).1)::mt (Ty.den ty95)))) none) none)) none) (cond (B.lim (List.length (y0.2.2.2.2)+List.length ((2,0,((v1.getD v2.toNat ty111.dflt).2).1,mt UInt8)::mt (Ty.den ty95))) 48) (k ((y0.2.1,y0.2.2.1,y0.2.2.2.1,y0.2.2.2.2++(2,0,((v1.getD v2.toNat ty111.dflt).2).1,mt UInt8)::mt (Ty.den ty95)))) none)) (ob (c91 ([40]:LB) v1 v2 v3 v4) fun y0=>cond y0.1 (ob (c79 1 y0.2.1 (IntKind.wrap .i64 (y0.2.2.1+1)) y0.2.2.2.1 y0.2.2.2.2) fun y1=>cond (B.le 0 y1.2.2.1) (k (y1.1,y1.2.1,y1.2.2.1,y1.2.2.2)) (ob (c91 ([41]:LB) y1.1 y1.2.1 y1.2.2.1 y1.2.2.2) fun y2=>cond (!y2.1) (ob (c92 y2.2.1 y2.2.2.1 y2.2.2.2.1 y2.2.2.2.2) fun y3=>k (y3.1,y3.2.1,y3.2.2.1,y3.2.2.2)) (k ((y2.2.1,IntKind.wrap .i64 (y2.2.2.1+1),y2.2.2.2.1,y2.2.2.2.2))))) (ob (c92 y0.2.1 y0.2.2.1 y0.2.2.2.1 y0.2.2.2.2) fun y1=>k (y1.1,y1.2.1,y1.2.2.1,y1.2.2.2))))) none)
def E86 (p0:L111) (p1 p2:Int) (p3:L95):S86→List AV×Objs
 | .l1006 v0 v1 v2 v3 v4=>(mk 170 [(0,.c (.ptr 0 0)),(2,.c (.int .i64 v0))],[(0,.box 124 [.list 111 ty111 v1,.int .i64 v2,.own 1002,.int .i64 v3]),(1002,.row 95 ty95 v4)])
def I86:S86→Nat
 | .l1006 _ _ _ _ _=>1006
theorem eq86 {R:Type} (B:Ops) (c91:C91) (c86:C86) (c92:C92) (c79:C79) (p0:L111) (p1 p2:Int) (p3:L95) (k:AV→Objs→Option R) (n:Nat):afun tau B gl0 X86 (ent 91 (e91 c91) (ent 86 (e86 c86) (ent 92 (e92 c92) (ent 79 (e79 c79) gnil)))) ow Try.f86 [.c (.ptr 0 0)] [(0,.box 124 [.list 111 ty111 p0,.int .i64 p1,.own 1002,.int .i64 p2]),(1002,.row 95 ty95 p3)] k n=T86 B c91 c86 c92 c79 p0 p1 p2 p3 (fun s=>aloop tau B gl0 X86 (ent 91 (e91 c91) (ent 86 (e86 c86) (ent 92 (e92 c92) (ent 79 (e79 c79) gnil)))) ow [0] Try.f86 k (I86 s) (E86 p0 p1 p2 p3 s) n) (K8 k) none:=by kernel_rfl
theorem el86 {R:Type} (B:Ops) (c91:C91) (c86:C86) (c92:C92) (c79:C79) (p0:L111) (p1 p2:Int) (p3:L95) (k:AV→Objs→Option R) (n:Nat):∀ s,aloop tau B gl0 X86 (ent 91 (e91 c91) (ent 86 (e86 c86) (ent 92 (e92 c92) (ent 79 (e79 c79) gnil)))) ow [0] Try.f86 k (I86 s) (E86 p0 p1 p2 p3 s) (n+1)=T86 B c91 c86 c92 c79 p0 p1 p2 p3 (fun s=>aloop tau B gl0 X86 (ent 91 (e91 c91) (ent 86 (e86 c86) (ent 92 (e92 c92) (ent 79 (e79 c79) gnil)))) ow [0] Try.f86 k (I86 s) (E86 p0 p1 p2 p3 s) n) (K8 k) (some s):=by
 intro s
 cases s<;>kernel_rfl
theorem nt86 {R R':Type} (B:Ops) (c91:C91) (c86:C86) (c92:C92) (c79:C79) (p0:L111) (p1 p2:Int) (p3:L95) (again:S86→Option R) (again':S86→Option R') (k0:(L111×Int×Int×L95)→Option R') (k:R'→Option R) (h:∀ s,again s=ob (again' s) k):∀ s,T86 B c91 c86 c92 c79 p0 p1 p2 p3 again (fun y=>ob (k0 y) k) s=ob (T86 B c91 c86 c92 c79 p0 p1 p2 p3 again' k0 s) k:=by
 rintro (_ | x)
 all_goals try cases x
 all_goals (unfold T86;repeat' first | exact rfl | exact h _ | apply qab | (apply qae;intro))
def R86 (c91:C91) (c86:C86) (c92:C92) (c79:C79) (p0:L111) (p1 p2:Int) (p3:L95):Nat→S86→Option (L111×Int×Int×L95)
 | 0,_=>none
 | n+1,s=>T86 Ops.std c91 c86 c92 c79 p0 p1 p2 p3 (R86 c91 c86 c92 c79 p0 p1 p2 p3 n) some (some s)
theorem rr86 {R:Type} (c91:C91) (c86:C86) (c92:C92) (c79:C79) (p0:L111) (p1 p2:Int) (p3:L95) (k:AV→Objs→Option R):∀ (n:Nat) (s:S86),aloop tau Ops.std gl0 X86 (ent 91 (e91 c91) (ent 86 (e86 c86) (ent 92 (e92 c92) (ent 79 (e79 c79) gnil)))) ow [0] Try.f86 k (I86 s) (E86 p0 p1 p2 p3 s) n=ob (R86 c91 c86 c92 c79 p0 p1 p2 p3 n s) (K8 k)
 | 0,s=>by cases s<;>rfl
 | n+1,s=>by rw [el86];exact nt86 Ops.std c91 c86 c92 c79 p0 p1 p2 p3 _ _ some (K8 k) (rr86 c91 c86 c92 c79 p0 p1 p2 p3 k n) (some s)
def F86 (c91:C91) (c86:C86) (c92:C92) (c79:C79) (p0:L111) (p1 p2:Int) (p3:L95):Option (L111×Int×Int×L95):=T86 Ops.std c91 c86 c92 c79 p0 p1 p2 p3 (R86 c91 c86 c92 c79 p0 p1 p2 p3 1000000) some none
theorem sf86 {c91:C91} {c86:C86} {c92:C92} {c79:C79} (h91:Sp91 c91) (h86:Sp86 c86) (h92:Sp92 c92) (h79:Sp79 c79):Sp86 (F86 c91 c86 c92 c79):=fun p0 p1 p2 p3 y hy=>by
 refine qad (qaa (ek91 h91) (qaa (ek86 h86) (qaa (ek92 h92) (qaa (ek79 h79) qac)))) 1000000 (fn:=Try.f86) (by kernel_rfl) (by kernel_rfl) (X:=X86) (by kernel_rfl) ?_
 rw [eq86]
 exact (nt86 Ops.std c91 c86 c92 c79 p0 p1 p2 p3 _ _ some (K8 k0) (rr86 c91 c86 c92 c79 p0 p1 p2 p3 k0 1000000) none).trans (by show ob (F86 c91 c86 c92 c79 p0 p1 p2 p3) _=_;rw [hy];rfl)
noncomputable def Rec79:Nat→(Int→L111→Int→Int→L95→Option (L111×Int×Int×L95))×(L111→Int→Int→L95→Option (L111×Int×Int×L95))
 | 0=>(fun _ _ _ _ _=>none,fun _ _ _ _=>none)
 | d+1=>(F79 (Rec79 d).2 (Rec79 d).1 M87,F86 M91 (Rec79 d).2 M92 (Rec79 d).1)
theorem rec79:∀ d,Sp79 (Rec79 d).1∧Sp86 (Rec79 d).2
 | 0=>⟨(fun p0 p1 p2 p3 p4 y (h:(none:Option (L111×Int×Int×L95))=some y)=>by cases h),(fun p0 p1 p2 p3 y (h:(none:Option (L111×Int×Int×L95))=some y)=>by cases h)⟩
 | d+1=>⟨sf79 (rec79 d).2 (rec79 d).1 sm87,sf86 sm91 (rec79 d).2 sm92 (rec79 d).1⟩
noncomputable def M79:C79:=(Rec79 1000000).1
theorem sm79:Sp79 M79:=(rec79 1000000).1
def X56:Aux:=⟨[],[(4,.lin [0,1,2,3,4,5,6]),(7,.lin (rg 0 11))]⟩
def T56 {R:Type} (B:Ops) (c79:C79) (p0:L111) (p1:Int) (k:(Int×Int×L95)→Option R):Option R:=ob (c79 1 p0 p1 (-1) (mt (Ty.den ty95))) fun y0=>cond (B.le 0 y0.2.2.1) (k ((y0.2.2.1,2,mt (Ty.den ty95)))) (cond (B.lt 30 (Nat.cast (List.length y0.2.2.2))) (k ((p1,13,mt (Ty.den ty95)))) (k (y0.2.1,0,y0.2.2.2)))
abbrev K10 {R:Type} (k:AV→Objs→Option R) (y:(Int×Int×L95)):Option R:=k (.tup [(false,[.own 501000]),(false,[.int .i64 y.1]),(false,[.int .i64 y.2.1])]) [(501000,.row 95 ty95 y.2.2)]
theorem eq56 {R:Type} (B:Ops) (c79:C79) (p0:L111) (p1:Int) (k:AV→Objs→Option R) (n:Nat):afun tau B gl0 X56 (ent 79 (e79 c79) gnil) ow Try.f56 [.c (.list 111 ty111 p0),.c (.int .i64 p1)] [] k n=T56 B c79 p0 p1 (K10 k):=by kernel_rfl
theorem nt56 {R R':Type} (B:Ops) (c79:C79) (p0:L111) (p1:Int) (k0:(Int×Int×L95)→Option R') (k:R'→Option R):T56 B c79 p0 p1 (fun y=>ob (k0 y) k)=ob (T56 B c79 p0 p1 k0) k:=by
 unfold T56
 repeat' first | exact rfl | apply qab | (apply qae;intro)
def F56 (c79:C79) (p0:L111) (p1:Int):Option (Int×Int×L95):=T56 Ops.std c79 p0 p1 some
abbrev C56:Type:=L111→Int→Option (Int×Int×L95)
def e56 {R:Type} (c:C56):Ent R:=eG [.aC (.cL 111 ty111),.aC (.cI .i64)] [] fun v k=>ob (c v.1 v.2.1) (K10 k)
abbrev Sp56 (c:C56):Prop:=∀ (p0:L111) (p1:Int) (y:Int×Int×L95),c p0 p1=some y→Spec Try.prog gl0 56 [.c (.list 111 ty111 p0),.c (.int .i64 p1)] [] (.tup [(false,[.own 501000]),(false,[.int .i64 y.1]),(false,[.int .i64 y.2.1])]) [(501000,.row 95 ty95 y.2.2)]
theorem ek56 {R:Type} {c:C56} (hs:Sp56 c):EOk 56 (e56 (R:=R) c):=qag fun v=>hs v.1 v.2.1
theorem sf56 {c79:C79} (h79:Sp79 c79):Sp56 (F56 c79):=fun p0 p1 y hy=>by
 refine qad (qaa (ek79 h79) qac) 1000000 (fn:=Try.f56) (by kernel_rfl) (by kernel_rfl) (X:=X56) (by kernel_rfl) ?_
 rw [eq56]
 exact (nt56 Ops.std c79 p0 p1 some (K10 k0)).trans (by show ob (F56 c79 p0 p1) _=_;rw [hy];rfl)
noncomputable def M56:C56:=F56 M79
theorem sm56:Sp56 M56:=sf56 sm79
def X57:Aux:=⟨[],[]⟩
def T57 {R:Type} (B:Ops) (p0:Int) (k:(Bool)→Option R):Option R:=cond (B.le 1 p0) (k (B.le p0 999)) (k false)
theorem eq57 {R:Type} (B:Ops) (p0:Int) (k:AV→Objs→Option R) (n:Nat):afun tau B gl0 X57 gnil ow Try.f57 [.c (.int .i64 p0)] [] k n=T57 B p0 (K2 k):=by kernel_rfl
theorem nt57 {R R':Type} (B:Ops) (p0:Int) (k0:(Bool)→Option R') (k:R'→Option R):T57 B p0 (fun y=>ob (k0 y) k)=ob (T57 B p0 k0) k:=by
 unfold T57
 repeat' first | exact rfl | apply qab | (apply qae;intro)
def F57 (p0:Int):Option (Bool):=T57 Ops.std p0 some
abbrev C57:Type:=Int→Option (Bool)
def e57 {R:Type} (c:C57):Ent R:=eG [.aC (.cI .i64)] [] fun v k=>ob (c v.1) (K2 k)
abbrev Sp57 (c:C57):Prop:=∀ (p0:Int) (y:Bool),c p0=some y→Spec Try.prog gl0 57 [.c (.int .i64 p0)] [] (.c (.bool y)) []
theorem ek57 {R:Type} {c:C57} (hs:Sp57 c):EOk 57 (e57 (R:=R) c):=qag fun v=>hs v.1
theorem sf57:Sp57 (F57):=fun p0 y hy=>by
 refine qad qac 1000000 (fn:=Try.f57) (by kernel_rfl) (by kernel_rfl) (X:=X57) (by kernel_rfl) ?_
 rw [eq57]
 exact (nt57 Ops.std p0 some (K2 k0)).trans (by show ob (F57 p0) _=_;rw [hy];rfl)
noncomputable def M57:C57:=F57
theorem sm57:Sp57 M57:=sf57
def X80:Aux:=⟨[],[]⟩
def T80 {R:Type} (B:Ops) (p0:Int) (k:(Int)→Option R):Option R:=cond (B.le 1 p0) (cond (B.le p0 3) (k 0) (cond (B.eq p0 4) (k 1) (cond (B.eq p0 5) (k 1) (cond (B.le 6 p0) (cond (B.le p0 16) (k 2) (k (-1))) (k (-1)))))) (cond (B.eq p0 4) (k 1) (cond (B.eq p0 5) (k 1) (cond (B.le 6 p0) (cond (B.le p0 16) (k 2) (k (-1))) (k (-1)))))
theorem eq80 {R:Type} (B:Ops) (p0:Int) (k:AV→Objs→Option R) (n:Nat):afun tau B gl0 X80 gnil ow Try.f80 [.c (.int .i64 p0)] [] k n=T80 B p0 (K9 k):=by kernel_rfl
theorem nt80 {R R':Type} (B:Ops) (p0:Int) (k0:(Int)→Option R') (k:R'→Option R):T80 B p0 (fun y=>ob (k0 y) k)=ob (T80 B p0 k0) k:=by
 unfold T80
 repeat' first | exact rfl | apply qab | (apply qae;intro)
def F80 (p0:Int):Option (Int):=T80 Ops.std p0 some
abbrev C80:Type:=Int→Option (Int)
def e80 {R:Type} (c:C80):Ent R:=eG [.aC (.cI .i64)] [] fun v k=>ob (c v.1) (K9 k)
abbrev Sp80 (c:C80):Prop:=∀ (p0 y:Int),c p0=some y→Spec Try.prog gl0 80 [.c (.int .i64 p0)] [] (.c (.int .i64 y)) []
theorem ek80 {R:Type} {c:C80} (hs:Sp80 c):EOk 80 (e80 (R:=R) c):=qag fun v=>hs v.1
theorem sf80:Sp80 (F80):=fun p0 y hy=>by
 refine qad qac 1000000 (fn:=Try.f80) (by kernel_rfl) (by kernel_rfl) (X:=X80) (by kernel_rfl) ?_
 rw [eq80]
 exact (nt80 Ops.std p0 some (K9 k0)).trans (by show ob (F80 p0) _=_;rw [hy];rfl)
noncomputable def M80:C80:=F80
theorem sm80:Sp80 M80:=sf80
def X58:Aux:=⟨[(3,([1,2]++rg 5 99)),(1000016,([1,2]++rg 8 96)),(1000018,([1,2,5]++rg 7 97))],[]⟩
inductive S58 where
 | l0 (v1 v2:Int)
 | l1016 (v1 v2 v3 v4 v5:Int) (v6 v7:LB) (v8 v9:Int) (v10 v11:LB)
 | l1018 (v1 v2 v3:Int)
def T58 {R:Type} (B:Ops) (c80:C80) (c39:C39) (p0:L95) (again:S58→Option R) (k:(Bool)→Option R):Option S58→Option R | none=>again (.l0 0 0) | some (.l0 v1 v2)=>cond (B.lt v2 (↑p0.length)) (cond (B.inb v2 p0.length) (ob (c80 ((p0.getD v2.toNat ty95.dflt).1)) fun y0=>cond (B.eq ((p0.getD v2.toNat ty95.dflt).1) 1) (again (.l1016 v1 v2 y0 ((p0.getD v2.toNat ty95.dflt).1) (((p0.getD v2.toNat ty95.dflt).2).1) ((((p0.getD v2.toNat ty95.dflt).2).2).1) ((((p0.getD v2.toNat ty95.dflt).2).2).2) ((p0.getD v2.toNat ty95.dflt).1) (((p0.getD v2.toNat ty95.dflt).2).1) (mt UInt8) (mt UInt8))) (cond (B.eq ((p0.getD v2.toNat ty95.dflt).1) 2) (again (.l1016 v1 v2 y0 ((p0.getD v2.toNat ty95.dflt).1) (((p0.getD v2.toNat ty95.dflt).2).1) ((((p0.getD v2.toNat ty95.dflt).2).2).1) ((((p0.getD v2.toNat ty95.dflt).2).2).2) ((p0.getD v2.toNat ty95.dflt).1) 0 ((((p0.getD v2.toNat ty95.dflt).2).2).1) (mt UInt8))) (cond (B.eq ((p0.getD v2.toNat ty95.dflt).1) 3) (again (.l1016 v1 v2 y0 ((p0.getD v2.toNat ty95.dflt).1) (((p0.getD v2.toNat ty95.dflt).2).1) ((((p0.getD v2.toNat ty95.dflt).2).2).1) ((((p0.getD v2.toNat ty95.dflt).2).2).2) ((p0.getD v2.toNat ty95.dflt).1) 0 ((((p0.getD v2.toNat ty95.dflt).2).2).1) ((((p0.getD v2.toNat ty95.dflt).2).2).2))) (again (.l1016 v1 v2 y0 ((p0.getD v2.toNat ty95.dflt).1) (((p0.getD v2.toNat ty95.dflt).2).1) ((((p0.getD v2.toNat ty95.dflt).2).2).1) ((((p0.getD v2.toNat ty95.dflt).2).2).2) ((p0.getD v2.toNat ty95.dflt).1) 0 (mt UInt8) (mt UInt8)))))) none) (cond (B.eq v1 1) (k (B.le (↑p0.length) 30)) (k false)) | some (.l1016 v1 v2 v3 v4 v5 v6 v7 v8 v9 v10 v11)=>cond (B.lt v3 0) (k false) (cond (B.lt v1 v3) (k false) (cond (!(B.eq v4 v8 && (B.eq v5 v9 && (v6 == v10 && (v7 == v11 && true))))) (k false) (cond (B.lt v5 0) (k false) (cond (B.lt 999 v5) (k false) (cond (B.eq v4 2) (ob (c39 v6) fun y0=>cond (!y0) (k false) (cond (B.eq v4 3) (ob (c39 v7) fun y1=>cond (!y1) (k false) (again (.l1018 v1 v2 v3))) (again (.l1018 v1 v2 v3)))) (cond (B.eq v4 3) (ob (c39 v6) fun y0=>cond (!y0) (k false) (cond (B.eq v4 3) (ob (c39 v7) fun y1=>cond (!y1) (k false) (again (.l1018 v1 v2 v3))) (again (.l1018 v1 v2 v3)))) (cond (B.eq v4 3) (ob (c39 v7) fun y0=>cond (!y0) (k false) (again (.l1018 v1 v2 v3))) (again (.l1018 v1 v2 v3))))))))) | some (.l1018 v1 v2 v3)=>again (.l0 (IntKind.wrap .i64 (IntKind.wrap .i64 (v1-v3)+1)) (IntKind.wrap .i64 (v2+1)))
def E58 (p0:L95):S58→List AV×Objs
 | .l0 v1 v2=>(mk 104 [(0,.c (.list 95 ty95 p0)),(3,.c (.int .i64 v1)),(4,.c (.int .i64 v2))],[])
 | .l1016 v1 v2 v3 v4 v5 v6 v7 v8 v9 v10 v11=>(mk 104 [(0,.c (.list 95 ty95 p0)),(3,.c (.int .i64 v1)),(4,.c (.int .i64 v2)),(5,.c (.ptr 5 0)),(6,.c (.int .i64 v3)),(7,.c (.ptr 7 0))],[(5,.box 95 [.int .i64 v4,.int .i64 v5,.str v6,.str v7]),(7,.box 95 [.int .i64 v8,.int .i64 v9,.str v10,.str v11])])
 | .l1018 v1 v2 v3=>(mk 104 [(0,.c (.list 95 ty95 p0)),(3,.c (.int .i64 v1)),(4,.c (.int .i64 v2)),(6,.c (.int .i64 v3))],[])
def I58:S58→Nat
 | .l0 _ _=>0
 | .l1016 _ _ _ _ _ _ _ _ _ _ _=>1016
 | .l1018 _ _ _=>1018
theorem eq58 {R:Type} (B:Ops) (c80:C80) (c39:C39) (p0:L95) (k:AV→Objs→Option R) (n:Nat):afun tau B gl0 X58 (ent 80 (e80 c80) (ent 39 (e39 c39) gnil)) ow Try.f58 [.c (.list 95 ty95 p0)] [] k n=T58 B c80 c39 p0 (fun s=>aloop tau B gl0 X58 (ent 80 (e80 c80) (ent 39 (e39 c39) gnil)) ow [] Try.f58 k (I58 s) (E58 p0 s) n) (K2 k) none:=by kernel_rfl
theorem el58 {R:Type} (B:Ops) (c80:C80) (c39:C39) (p0:L95) (k:AV→Objs→Option R) (n:Nat):∀ s,aloop tau B gl0 X58 (ent 80 (e80 c80) (ent 39 (e39 c39) gnil)) ow [] Try.f58 k (I58 s) (E58 p0 s) (n+1)=T58 B c80 c39 p0 (fun s=>aloop tau B gl0 X58 (ent 80 (e80 c80) (ent 39 (e39 c39) gnil)) ow [] Try.f58 k (I58 s) (E58 p0 s) n) (K2 k) (some s):=by
 intro s
 cases s<;>kernel_rfl
theorem nt58 {R R':Type} (B:Ops) (c80:C80) (c39:C39) (p0:L95) (again:S58→Option R) (again':S58→Option R') (k0:(Bool)→Option R') (k:R'→Option R) (h:∀ s,again s=ob (again' s) k):∀ s,T58 B c80 c39 p0 again (fun y=>ob (k0 y) k) s=ob (T58 B c80 c39 p0 again' k0 s) k:=by
 rintro (_ | x)
 all_goals try cases x
 all_goals (unfold T58;repeat' first | exact rfl | exact h _ | apply qab | (apply qae;intro))
def R58 (c80:C80) (c39:C39) (p0:L95):Nat→S58→Option (Bool)
 | 0,_=>none
 | n+1,s=>T58 Ops.std c80 c39 p0 (R58 c80 c39 p0 n) some (some s)
theorem rr58 {R:Type} (c80:C80) (c39:C39) (p0:L95) (k:AV→Objs→Option R):∀ (n:Nat) (s:S58),aloop tau Ops.std gl0 X58 (ent 80 (e80 c80) (ent 39 (e39 c39) gnil)) ow [] Try.f58 k (I58 s) (E58 p0 s) n=ob (R58 c80 c39 p0 n s) (K2 k)
 | 0,s=>by cases s<;>rfl
 | n+1,s=>by rw [el58];exact nt58 Ops.std c80 c39 p0 _ _ some (K2 k) (rr58 c80 c39 p0 k n) (some s)
def F58 (c80:C80) (c39:C39) (p0:L95):Option (Bool):=T58 Ops.std c80 c39 p0 (R58 c80 c39 p0 1000000) some none
abbrev C58:Type:=L95→Option (Bool)
def e58 {R:Type} (c:C58):Ent R:=eG [.aC (.cL 95 ty95)] [] fun v k=>ob (c v.1) (K2 k)
abbrev Sp58 (c:C58):Prop:=∀ (p0:L95) (y:Bool),c p0=some y→Spec Try.prog gl0 58 [.c (.list 95 ty95 p0)] [] (.c (.bool y)) []
theorem ek58 {R:Type} {c:C58} (hs:Sp58 c):EOk 58 (e58 (R:=R) c):=qag fun v=>hs v.1
theorem sf58 {c80:C80} {c39:C39} (h80:Sp80 c80) (h39:Sp39 c39):Sp58 (F58 c80 c39):=fun p0 y hy=>by
 refine qad (qaa (ek80 h80) (qaa (ek39 h39) qac)) 1000000 (fn:=Try.f58) (by kernel_rfl) (by kernel_rfl) (X:=X58) (by kernel_rfl) ?_
 rw [eq58]
 exact (nt58 Ops.std c80 c39 p0 _ _ some (K2 k0) (rr58 c80 c39 p0 k0 1000000) none).trans (by show ob (F58 c80 c39 p0) _=_;rw [hy];rfl)
noncomputable def M58:C58:=F58 M80 M39
theorem sm58:Sp58 M58:=sf58 sm80 sm39
def X59:Aux:=⟨[(2,([1,2]++rg 4 25))],[]⟩
inductive S59 where
 | l0 (v1:Int)
def T59 {R:Type} (B:Ops) (c39:C39) (c58:C58) (p0:L73) (again:S59→Option R) (k:(Bool)→Option R):Option S59→Option R | none=>again (.l0 0) | some (.l0 v1)=>cond (B.lt v1 (↑p0.length)) (cond (B.inb v1 p0.length) (ob (c39 ((p0.getD v1.toNat ty73.dflt).1)) fun y0=>cond (!y0) (k false) (cond (B.inb v1 p0.length) (ob (c58 ((p0.getD v1.toNat ty73.dflt).2)) fun y1=>cond (!y1) (k false) (again (.l0 (IntKind.wrap .i64 (v1+1))))) none)) none) (k (B.le (↑p0.length) 3))
def E59 (p0:L73):S59→List AV×Objs
 | .l0 v1=>(mk 29 [(0,.c (.list 73 ty73 p0)),(3,.c (.int .i64 v1))],[])
def I59:S59→Nat
 | .l0 _=>0
theorem eq59 {R:Type} (B:Ops) (c39:C39) (c58:C58) (p0:L73) (k:AV→Objs→Option R) (n:Nat):afun tau B gl0 X59 (ent 39 (e39 c39) (ent 58 (e58 c58) gnil)) ow Try.f59 [.c (.list 73 ty73 p0)] [] k n=T59 B c39 c58 p0 (fun s=>aloop tau B gl0 X59 (ent 39 (e39 c39) (ent 58 (e58 c58) gnil)) ow [] Try.f59 k (I59 s) (E59 p0 s) n) (K2 k) none:=by kernel_rfl
theorem el59 {R:Type} (B:Ops) (c39:C39) (c58:C58) (p0:L73) (k:AV→Objs→Option R) (n:Nat):∀ s,aloop tau B gl0 X59 (ent 39 (e39 c39) (ent 58 (e58 c58) gnil)) ow [] Try.f59 k (I59 s) (E59 p0 s) (n+1)=T59 B c39 c58 p0 (fun s=>aloop tau B gl0 X59 (ent 39 (e39 c39) (ent 58 (e58 c58) gnil)) ow [] Try.f59 k (I59 s) (E59 p0 s) n) (K2 k) (some s):=by
 intro s
 cases s<;>kernel_rfl
theorem nt59 {R R':Type} (B:Ops) (c39:C39) (c58:C58) (p0:L73) (again:S59→Option R) (again':S59→Option R') (k0:(Bool)→Option R') (k:R'→Option R) (h:∀ s,again s=ob (again' s) k):∀ s,T59 B c39 c58 p0 again (fun y=>ob (k0 y) k) s=ob (T59 B c39 c58 p0 again' k0 s) k:=by
 rintro (_ | x)
 all_goals try cases x
 all_goals (unfold T59;repeat' first | exact rfl | exact h _ | apply qab | (apply qae;intro))
def R59 (c39:C39) (c58:C58) (p0:L73):Nat→S59→Option (Bool)
 | 0,_=>none
 | n+1,s=>T59 Ops.std c39 c58 p0 (R59 c39 c58 p0 n) some (some s)
theorem rr59 {R:Type} (c39:C39) (c58:C58) (p0:L73) (k:AV→Objs→Option R):∀ (n:Nat) (s:S59),aloop tau Ops.std gl0 X59 (ent 39 (e39 c39) (ent 58 (e58 c58) gnil)) ow [] Try.f59 k (I59 s) (E59 p0 s) n=ob (R59 c39 c58 p0 n s) (K2 k)
 | 0,s=>by cases s<;>rfl
 | n+1,s=>by rw [el59];exact nt59 Ops.std c39 c58 p0 _ _ some (K2 k) (rr59 c39 c58 p0 k n) (some s)
def F59 (c39:C39) (c58:C58) (p0:L73):Option (Bool):=T59 Ops.std c39 c58 p0 (R59 c39 c58 p0 1000000) some none
abbrev C59:Type:=L73→Option (Bool)
def e59 {R:Type} (c:C59):Ent R:=eG [.aC (.cL 73 ty73)] [] fun v k=>ob (c v.1) (K2 k)
abbrev Sp59 (c:C59):Prop:=∀ (p0:L73) (y:Bool),c p0=some y→Spec Try.prog gl0 59 [.c (.list 73 ty73 p0)] [] (.c (.bool y)) []
theorem ek59 {R:Type} {c:C59} (hs:Sp59 c):EOk 59 (e59 (R:=R) c):=qag fun v=>hs v.1
theorem sf59 {c39:C39} {c58:C58} (h39:Sp39 c39) (h58:Sp58 c58):Sp59 (F59 c39 c58):=fun p0 y hy=>by
 refine qad (qaa (ek39 h39) (qaa (ek58 h58) qac)) 1000000 (fn:=Try.f59) (by kernel_rfl) (by kernel_rfl) (X:=X59) (by kernel_rfl) ?_
 rw [eq59]
 exact (nt59 Ops.std c39 c58 p0 _ _ some (K2 k0) (rr59 c39 c58 p0 k0 1000000) none).trans (by show ob (F59 c39 c58 p0) _=_;rw [hy];rfl)
noncomputable def M59:C59:=F59 M39 M58
theorem sm59:Sp59 M59:=sf59 sm39 sm58
abbrev C81:Type:=Int→Option (LB)
def e81 {R:Type} (c:C81):Ent R:=eG [.aC (.cI .u64)] [] fun v k=>ob (c v.1) (K5 k)
abbrev Sp81 (c:C81):Prop:=∀ (p0:Int) (y:LB),c p0=some y→Spec Try.prog gl0 81 [.c (.int .u64 p0)] [] (.c (.str y)) []
theorem ek81 {R:Type} {c:C81} (hs:Sp81 c):EOk 81 (e81 (R:=R) c):=qag fun v=>hs v.1
def X81:Aux:=⟨[],[]⟩
def T81 {R:Type} (B:Ops) (c81:C81) (p0:Int) (k:(LB)→Option R):Option R:=cond (B.eq 10 0) none (cond (B.eq 10 0) none (cond (B.inb (IntKind.wrap IntKind.u64 (Int.tmod p0 (10)+1)) (10+1)) (cond (bif B.le 0 (Int.tmod p0 10) then B.le (Int.tmod p0 10) (IntKind.wrap IntKind.u64 (Int.tmod p0 (10)+1)) else false) (cond (B.lt p0 10) (k (List.drop (Int.toNat (Int.tmod p0 10)) (List.take (Int.toNat (IntKind.wrap IntKind.u64 (Int.tmod p0 (10)+1))) ([48,49,50,51,52,53,54,55,56,57]:LB)))) (cond (B.eq 10 0) none (ob (c81 (IntKind.wrap IntKind.u64 (Int.tdiv p0 10))) fun y0=>cond (B.lim (List.length y0+List.length (List.drop (Int.toNat (Int.tmod p0 10)) (List.take (Int.toNat (IntKind.wrap IntKind.u64 (Int.tmod p0 (10)+1))) ([48,49,50,51,52,53,54,55,56,57]:LB)))) 1) (k (y0++List.drop (Int.toNat (Int.tmod p0 10)) (List.take (Int.toNat (IntKind.wrap IntKind.u64 (Int.tmod p0 (10)+1))) ([48,49,50,51,52,53,54,55,56,57]:LB)))) none))) none) none))
theorem eq81 {R:Type} (B:Ops) (c81:C81) (p0:Int) (k:AV→Objs→Option R) (n:Nat):afun tau B gl0 X81 (ent 81 (e81 c81) gnil) ow Try.f81 [.c (.int .u64 p0)] [] k n=T81 B c81 p0 (K5 k):=by kernel_rfl
theorem nt81 {R R':Type} (B:Ops) (c81:C81) (p0:Int) (k0:(LB)→Option R') (k:R'→Option R):T81 B c81 p0 (fun y=>ob (k0 y) k)=ob (T81 B c81 p0 k0) k:=by
 unfold T81
 repeat' first | exact rfl | apply qab | (apply qae;intro)
def F81 (c81:C81) (p0:Int):Option (LB):=T81 Ops.std c81 p0 some
theorem sf81 {c81:C81} (h81:Sp81 c81):Sp81 (F81 c81):=fun p0 y hy=>by
 refine qad (qaa (ek81 h81) qac) 1000000 (fn:=Try.f81) (by kernel_rfl) (by kernel_rfl) (X:=X81) (by kernel_rfl) ?_
 rw [eq81]
 exact (nt81 Ops.std c81 p0 some (K5 k0)).trans (by show ob (F81 c81 p0) _=_;rw [hy];rfl)
noncomputable def Rec81:Nat→(Int→Option (LB))
 | 0=>fun _=>none
 | d+1=>F81 (Rec81 d)
theorem rec81:∀ d,Sp81 (Rec81 d)
 | 0=>fun p0 y (h:(none:Option (LB))=some y)=>by cases h
 | d+1=>sf81 (rec81 d)
noncomputable def M81:C81:=(Rec81 1000000)
theorem sm81:Sp81 M81:=(rec81 1000000)
def X60:Aux:=⟨[],[]⟩
def T60 {R:Type} (B:Ops) (c81:C81) (p0:Int) (k:(LB)→Option R):Option R:=cond (B.lt p0 0) (ob (c81 (IntKind.wrap IntKind.u64 (IntKind.wrap IntKind.u64 (IntKind.wrap .i64 (0-IntKind.wrap .i64 (p0+1)))+1))) fun y0=>cond (B.lim (1+List.length y0) 1) (k (([45]:LB)++y0)) none) (ob (c81 (IntKind.wrap IntKind.u64 p0)) fun y0=>k y0)
theorem eq60 {R:Type} (B:Ops) (c81:C81) (p0:Int) (k:AV→Objs→Option R) (n:Nat):afun tau B gl0 X60 (ent 81 (e81 c81) gnil) ow Try.f60 [.c (.int .i64 p0)] [] k n=T60 B c81 p0 (K5 k):=by kernel_rfl
theorem nt60 {R R':Type} (B:Ops) (c81:C81) (p0:Int) (k0:(LB)→Option R') (k:R'→Option R):T60 B c81 p0 (fun y=>ob (k0 y) k)=ob (T60 B c81 p0 k0) k:=by
 unfold T60
 repeat' first | exact rfl | apply qab | (apply qae;intro)
def F60 (c81:C81) (p0:Int):Option (LB):=T60 Ops.std c81 p0 some
abbrev C60:Type:=Int→Option (LB)
def e60 {R:Type} (c:C60):Ent R:=eG [.aC (.cI .i64)] [] fun v k=>ob (c v.1) (K5 k)
abbrev Sp60 (c:C60):Prop:=∀ (p0:Int) (y:LB),c p0=some y→Spec Try.prog gl0 60 [.c (.int .i64 p0)] [] (.c (.str y)) []
theorem ek60 {R:Type} {c:C60} (hs:Sp60 c):EOk 60 (e60 (R:=R) c):=qag fun v=>hs v.1
theorem sf60 {c81:C81} (h81:Sp81 c81):Sp60 (F60 c81):=fun p0 y hy=>by
 refine qad (qaa (ek81 h81) qac) 1000000 (fn:=Try.f60) (by kernel_rfl) (by kernel_rfl) (X:=X60) (by kernel_rfl) ?_
 rw [eq60]
 exact (nt60 Ops.std c81 p0 some (K5 k0)).trans (by show ob (F60 c81 p0) _=_;rw [hy];rfl)
noncomputable def M60:C60:=F60 M81
theorem sm60:Sp60 M60:=sf60 sm81
def X83:Aux:=⟨[],[]⟩
def T83 {R:Type} (B:Ops) (p0:LB) (p1 p2:Int) (k:(LB)→Option R):Option R:=cond (B.lt p1 p2) (cond (B.lim (1+List.length p0) 1) (cond (B.lim (List.length (([40]:LB)++p0)+1) 1) (k (([40]:LB)++p0++([41]:LB))) none) none) (k p0)
theorem eq83 {R:Type} (B:Ops) (p0:LB) (p1 p2:Int) (k:AV→Objs→Option R) (n:Nat):afun tau B gl0 X83 gnil ow Try.f83 [.agg [.str p0,.int .i64 p1],.c (.int .i64 p2)] [] k n=T83 B p0 p1 p2 (K5 k):=by kernel_rfl
theorem nt83 {R R':Type} (B:Ops) (p0:LB) (p1 p2:Int) (k0:(LB)→Option R') (k:R'→Option R):T83 B p0 p1 p2 (fun y=>ob (k0 y) k)=ob (T83 B p0 p1 p2 k0) k:=by
 unfold T83
 repeat' first | exact rfl | apply qab | (apply qae;intro)
def F83 (p0:LB) (p1 p2:Int):Option (LB):=T83 Ops.std p0 p1 p2 some
abbrev C83:Type:=LB→Int→Int→Option (LB)
def e83 {R:Type} (c:C83):Ent R:=eG [.aG [.cS,.cI .i64],.aC (.cI .i64)] [] fun v k=>ob (c v.1 v.2.1 v.2.2.1) (K5 k)
abbrev Sp83 (c:C83):Prop:=∀ (p0:LB) (p1 p2:Int) (y:LB),c p0 p1 p2=some y→Spec Try.prog gl0 83 [.agg [.str p0,.int .i64 p1],.c (.int .i64 p2)] [] (.c (.str y)) []
theorem ek83 {R:Type} {c:C83} (hs:Sp83 c):EOk 83 (e83 (R:=R) c):=qag fun v=>hs v.1 v.2.1 v.2.2.1
theorem sf83:Sp83 (F83):=fun p0 p1 p2 y hy=>by
 refine qad qac 1000000 (fn:=Try.f83) (by kernel_rfl) (by kernel_rfl) (X:=X83) (by kernel_rfl) ?_
 rw [eq83]
 exact (nt83 Ops.std p0 p1 p2 some (K5 k0)).trans (by show ob (F83 p0 p1 p2) _=_;rw [hy];rfl)
noncomputable def M83:C83:=F83
theorem sm83:Sp83 M83:=sf83
def X61:Aux:=⟨[(6,([1,2]++rg 6 120))],[(31,.lin (rg 0 14)),(32,.lin [0,1,2,3,4,5,6,7]),(18,.lin ([0,1,2,3,4,5,7,8,9,10,12,13,14,15,16,17,18,6,11,19,20,21,22])),(19,.lin [0,1,2,3,4,5,6,7])]⟩
inductive S61 where
 | l0 (v1:Int) (v2:L131)
def T61 {R:Type} (B:Ops) (c58:C58) (c82:C82) (c80:C80) (c60:C60) (c83:C83) (p0:L95) (again:S61→Option R) (k:(LB)→Option R):Option S61→Option R | none=>ob (c58 p0) fun y0=>cond (!y0) (k (mt UInt8)) (again (.l0 0 (mt (Ty.den ty131)))) | some (.l0 v1 v2)=>cond (B.lt v1 (↑p0.length)) (cond (B.inb v1 p0.length) (ob (c82 ((p0.getD v1.toNat ty95.dflt).1)) fun y0=>ob (c80 ((p0.getD v1.toNat ty95.dflt).1)) fun y1=>cond (B.eq y1 0) (cond (B.eq ((p0.getD v1.toNat ty95.dflt).1) 1) (ob (c60 (((p0.getD v1.toNat ty95.dflt).2).1)) fun y2=>cond (B.lim (List.length v2+List.length ((y2,y0)::mt (Ty.den ty131))) 24) (again (.l0 (IntKind.wrap .i64 (v1+1)) (v2++(y2,y0)::mt (Ty.den ty131)))) none) (cond (B.eq ((p0.getD v1.toNat ty95.dflt).1) 2) (cond (B.lim (List.length v2+List.length (((((p0.getD v1.toNat ty95.dflt).2).2).1,y0)::mt (Ty.den ty131))) 24) (again (.l0 (IntKind.wrap .i64 (v1+1)) (v2++((((p0.getD v1.toNat ty95.dflt).2).2).1,y0)::mt (Ty.den ty131)))) none) (cond (B.lim (List.length ((((p0.getD v1.toNat ty95.dflt).2).2).1)+1) 1) (cond (B.lim (List.length ((((p0.getD v1.toNat ty95.dflt).2).2).1++([64]:LB))+List.length ((((p0.getD v1.toNat ty95.dflt).2).2).2)) 1) (cond (B.lim (List.length v2+List.length (((((p0.getD v1.toNat ty95.dflt).2).2).1++([64]:LB)++(((p0.getD v1.toNat ty95.dflt).2).2).2,y0)::mt (Ty.den ty131))) 24) (again (.l0 (IntKind.wrap .i64 (v1+1)) (v2++((((p0.getD v1.toNat ty95.dflt).2).2).1++([64]:LB)++(((p0.getD v1.toNat ty95.dflt).2).2).2,y0)::mt (Ty.den ty131)))) none) none) none))) (cond (B.eq y1 1) (cond (B.lt (↑v2.length) 1) (k (mt UInt8)) (cond (B.inb ((p0.getD v1.toNat ty95.dflt).1) 17) (cond (B.inb (IntKind.wrap .i64 (Nat.cast v2.length-1)) v2.length) (ob (c83 ((v2.getD (Int.toNat (IntKind.wrap .i64 (Nat.cast v2.length-1))) ty131.dflt).1) ((v2.getD (Int.toNat (IntKind.wrap .i64 (Nat.cast v2.length-1))) ty131.dflt).2) y0) fun y2=>cond (B.lim (List.length (List.getD ((mt UInt8)::(mt UInt8)::(mt UInt8)::(mt UInt8)::([33]:LB)::([45]:LB)::([42]:LB)::([43]:LB)::([45]:LB)::([60]:LB)::([60,61]:LB)::([62]:LB)::([62,61]:LB)::([61,61]:LB)::([33,61]:LB)::([38,38]:LB)::([124,124]:LB)::mt LB) (Int.toNat ((p0.getD v1.toNat ty95.dflt).1)) (mt UInt8))+List.length y2) 1) (cond (B.inb (IntKind.wrap .i64 (Nat.cast v2.length-1)) (List.length v2+1)) (cond (B.lim (List.length (List.take (Int.toNat (IntKind.wrap .i64 (Nat.cast v2.length-1))) v2)+List.length ((List.getD ((mt UInt8)::(mt UInt8)::(mt UInt8)::(mt UInt8)::([33]:LB)::([45]:LB)::([42]:LB)::([43]:LB)::([45]:LB)::([60]:LB)::([60,61]:LB)::([62]:LB)::([62,61]:LB)::([61,61]:LB)::([33,61]:LB)::([38,38]:LB)::([124,124]:LB)::mt LB) (Int.toNat ((p0.getD v1.toNat ty95.dflt).1)) (mt UInt8)++y2,y0)::mt (Ty.den ty131))) 24) (again (.l0 (IntKind.wrap .i64 (v1+1)) (List.take (Int.toNat (IntKind.wrap .i64 (Nat.cast v2.length-1))) v2++(List.getD ((mt UInt8)::(mt UInt8)::(mt UInt8)::(mt UInt8)::([33]:LB)::([45]:LB)::([42]:LB)::([43]:LB)::([45]:LB)::([60]:LB)::([60,61]:LB)::([62]:LB)::([62,61]:LB)::([61,61]:LB)::([33,61]:LB)::([38,38]:LB)::([124,124]:LB)::mt LB) (Int.toNat ((p0.getD v1.toNat ty95.dflt).1)) (mt UInt8)++y2,y0)::mt (Ty.den ty131)))) none) none) none) none) none)) (cond (B.lt (↑v2.length) 2) (k (mt UInt8)) (cond (B.eq y0 3) (cond (B.inb (IntKind.wrap .i64 (Nat.cast v2.length-2)) v2.length) (cond (B.inb ((p0.getD v1.toNat ty95.dflt).1) 17) (cond (B.inb (IntKind.wrap .i64 (Nat.cast v2.length-1)) v2.length) (ob (c83 ((v2.getD (Int.toNat (IntKind.wrap .i64 (Nat.cast v2.length-2))) ty131.dflt).1) ((v2.getD (Int.toNat (IntKind.wrap .i64 (Nat.cast v2.length-2))) ty131.dflt).2) 4) fun y2=>cond (B.lim (List.length y2+List.length (List.getD ((mt UInt8)::(mt UInt8)::(mt UInt8)::(mt UInt8)::([33]:LB)::([45]:LB)::([42]:LB)::([43]:LB)::([45]:LB)::([60]:LB)::([60,61]:LB)::([62]:LB)::([62,61]:LB)::([61,61]:LB)::([33,61]:LB)::([38,38]:LB)::([124,124]:LB)::mt LB) (Int.toNat ((p0.getD v1.toNat ty95.dflt).1)) (mt UInt8))) 1) (ob (c83 ((v2.getD (Int.toNat (IntKind.wrap .i64 (Nat.cast v2.length-1))) ty131.dflt).1) ((v2.getD (Int.toNat (IntKind.wrap .i64 (Nat.cast v2.length-1))) ty131.dflt).2) (IntKind.wrap .i64 (y0+1))) fun y3=>cond (B.lim (List.length (y2++List.getD ((mt UInt8)::(mt UInt8)::(mt UInt8)::(mt UInt8)::([33]:LB)::([45]:LB)::([42]:LB)::([43]:LB)::([45]:LB)::([60]:LB)::([60,61]:LB)::([62]:LB)::([62,61]:LB)::([61,61]:LB)::([33,61]:LB)::([38,38]:LB)::([124,124]:LB)::mt LB) (Int.toNat ((p0.getD v1.toNat ty95.dflt).1)) (mt UInt8))+List.length y3) 1) (cond (B.inb (IntKind.wrap .i64 (Nat.cast v2.length-2)) (List.length v2+1)) (cond (B.lim (List.length (List.take (Int.toNat (IntKind.wrap .i64 (Nat.cast v2.length-2))) v2)+List.length ((y2++List.getD ((mt UInt8)::(mt UInt8)::(mt UInt8)::(mt UInt8)::([33]:LB)::([45]:LB)::([42]:LB)::([43]:LB)::([45]:LB)::([60]:LB)::([60,61]:LB)::([62]:LB)::([62,61]:LB)::([61,61]:LB)::([33,61]:LB)::([38,38]:LB)::([124,124]:LB)::mt LB) (Int.toNat ((p0.getD v1.toNat ty95.dflt).1)) (mt UInt8)++y3,y0)::mt (Ty.den ty131))) 24) (again (.l0 (IntKind.wrap .i64 (v1+1)) (List.take (Int.toNat (IntKind.wrap .i64 (Nat.cast v2.length-2))) v2++(y2++List.getD ((mt UInt8)::(mt UInt8)::(mt UInt8)::(mt UInt8)::([33]:LB)::([45]:LB)::([42]:LB)::([43]:LB)::([45]:LB)::([60]:LB)::([60,61]:LB)::([62]:LB)::([62,61]:LB)::([61,61]:LB)::([33,61]:LB)::([38,38]:LB)::([124,124]:LB)::mt LB) (Int.toNat ((p0.getD v1.toNat ty95.dflt).1)) (mt UInt8)++y3,y0)::mt (Ty.den ty131)))) none) none) none) none) none) none) none) (cond (B.inb (IntKind.wrap .i64 (Nat.cast v2.length-2)) v2.length) (cond (B.inb ((p0.getD v1.toNat ty95.dflt).1) 17) (cond (B.inb (IntKind.wrap .i64 (Nat.cast v2.length-1)) v2.length) (ob (c83 ((v2.getD (Int.toNat (IntKind.wrap .i64 (Nat.cast v2.length-2))) ty131.dflt).1) ((v2.getD (Int.toNat (IntKind.wrap .i64 (Nat.cast v2.length-2))) ty131.dflt).2) y0) fun y2=>cond (B.lim (List.length y2+List.length (List.getD ((mt UInt8)::(mt UInt8)::(mt UInt8)::(mt UInt8)::([33]:LB)::([45]:LB)::([42]:LB)::([43]:LB)::([45]:LB)::([60]:LB)::([60,61]:LB)::([62]:LB)::([62,61]:LB)::([61,61]:LB)::([33,61]:LB)::([38,38]:LB)::([124,124]:LB)::mt LB) (Int.toNat ((p0.getD v1.toNat ty95.dflt).1)) (mt UInt8))) 1) (ob (c83 ((v2.getD (Int.toNat (IntKind.wrap .i64 (Nat.cast v2.length-1))) ty131.dflt).1) ((v2.getD (Int.toNat (IntKind.wrap .i64 (Nat.cast v2.length-1))) ty131.dflt).2) (IntKind.wrap .i64 (y0+1))) fun y3=>cond (B.lim (List.length (y2++List.getD ((mt UInt8)::(mt UInt8)::(mt UInt8)::(mt UInt8)::([33]:LB)::([45]:LB)::([42]:LB)::([43]:LB)::([45]:LB)::([60]:LB)::([60,61]:LB)::([62]:LB)::([62,61]:LB)::([61,61]:LB)::([33,61]:LB)::([38,38]:LB)::([124,124]:LB)::mt LB) (Int.toNat ((p0.getD v1.toNat ty95.dflt).1)) (mt UInt8))+List.length y3) 1) (cond (B.inb (IntKind.wrap .i64 (Nat.cast v2.length-2)) (List.length v2+1)) (cond (B.lim (List.length (List.take (Int.toNat (IntKind.wrap .i64 (Nat.cast v2.length-2))) v2)+List.length ((y2++List.getD ((mt UInt8)::(mt UInt8)::(mt UInt8)::(mt UInt8)::([33]:LB)::([45]:LB)::([42]:LB)::([43]:LB)::([45]:LB)::([60]:LB)::([60,61]:LB)::([62]:LB)::([62,61]:LB)::([61,61]:LB)::([33,61]:LB)::([38,38]:LB)::([124,124]:LB)::mt LB) (Int.toNat ((p0.getD v1.toNat ty95.dflt).1)) (mt UInt8)++y3,y0)::mt (Ty.den ty131))) 24) (again (.l0 (IntKind.wrap .i64 (v1+1)) (List.take (Int.toNat (IntKind.wrap .i64 (Nat.cast v2.length-2))) v2++(y2++List.getD ((mt UInt8)::(mt UInt8)::(mt UInt8)::(mt UInt8)::([33]:LB)::([45]:LB)::([42]:LB)::([43]:LB)::([45]:LB)::([60]:LB)::([60,61]:LB)::([62]:LB)::([62,61]:LB)::([61,61]:LB)::([33,61]:LB)::([38,38]:LB)::([124,124]:LB)::mt LB) (Int.toNat ((p0.getD v1.toNat ty95.dflt).1)) (mt UInt8)++y3,y0)::mt (Ty.den ty131)))) none) none) none) none) none) none) none))))) none) (cond (B.eq (↑v2.length) 0) (k (mt UInt8)) (cond (B.inb 0 v2.length) (k ((v2.getD (Int.toNat 0) ty131.dflt).1)) none))
def E61 (p0:L95):S61→List AV×Objs
 | .l0 v1 v2=>(mk 126 [(0,.c (.list 95 ty95 p0)),(3,.c (.own 3)),(4,.c (.ptr 4 0)),(5,.c (.int .i64 v1))],[(3,.row 131 ty131 v2),(4,.box 129 [.str (mt UInt8),.str (mt UInt8),.str (mt UInt8),.str (mt UInt8),.str ([33]:LB),.str ([45]:LB),.str ([42]:LB),.str ([43]:LB),.str ([45]:LB),.str ([60]:LB),.str ([60,61]:LB),.str ([62]:LB),.str ([62,61]:LB),.str ([61,61]:LB),.str ([33,61]:LB),.str ([38,38]:LB),.str ([124,124]:LB)])])
def I61:S61→Nat
 | .l0 _ _=>0
theorem eq61 {R:Type} (B:Ops) (c58:C58) (c82:C82) (c80:C80) (c60:C60) (c83:C83) (p0:L95) (k:AV→Objs→Option R) (n:Nat):afun tau B gl0 X61 (ent 58 (e58 c58) (ent 82 (e82 c82) (ent 80 (e80 c80) (ent 60 (e60 c60) (ent 83 (e83 c83) gnil))))) ow Try.f61 [.c (.list 95 ty95 p0)] [] k n=T61 B c58 c82 c80 c60 c83 p0 (fun s=>aloop tau B gl0 X61 (ent 58 (e58 c58) (ent 82 (e82 c82) (ent 80 (e80 c80) (ent 60 (e60 c60) (ent 83 (e83 c83) gnil))))) ow [] Try.f61 k (I61 s) (E61 p0 s) n) (K5 k) none:=by kernel_rfl
theorem el61 {R:Type} (B:Ops) (c58:C58) (c82:C82) (c80:C80) (c60:C60) (c83:C83) (p0:L95) (k:AV→Objs→Option R) (n:Nat):∀ s,aloop tau B gl0 X61 (ent 58 (e58 c58) (ent 82 (e82 c82) (ent 80 (e80 c80) (ent 60 (e60 c60) (ent 83 (e83 c83) gnil))))) ow [] Try.f61 k (I61 s) (E61 p0 s) (n+1)=T61 B c58 c82 c80 c60 c83 p0 (fun s=>aloop tau B gl0 X61 (ent 58 (e58 c58) (ent 82 (e82 c82) (ent 80 (e80 c80) (ent 60 (e60 c60) (ent 83 (e83 c83) gnil))))) ow [] Try.f61 k (I61 s) (E61 p0 s) n) (K5 k) (some s):=by
 intro s
 cases s<;>kernel_rfl
theorem nt61 {R R':Type} (B:Ops) (c58:C58) (c82:C82) (c80:C80) (c60:C60) (c83:C83) (p0:L95) (again:S61→Option R) (again':S61→Option R') (k0:(LB)→Option R') (k:R'→Option R) (h:∀ s,again s=ob (again' s) k):∀ s,T61 B c58 c82 c80 c60 c83 p0 again (fun y=>ob (k0 y) k) s=ob (T61 B c58 c82 c80 c60 c83 p0 again' k0 s) k:=by
 rintro (_ | x)
 all_goals try cases x
 all_goals (unfold T61;repeat' first | exact rfl | exact h _ | apply qab | (apply qae;intro))
def R61 (c58:C58) (c82:C82) (c80:C80) (c60:C60) (c83:C83) (p0:L95):Nat→S61→Option (LB)
 | 0,_=>none
 | n+1,s=>T61 Ops.std c58 c82 c80 c60 c83 p0 (R61 c58 c82 c80 c60 c83 p0 n) some (some s)
theorem rr61 {R:Type} (c58:C58) (c82:C82) (c80:C80) (c60:C60) (c83:C83) (p0:L95) (k:AV→Objs→Option R):∀ (n:Nat) (s:S61),aloop tau Ops.std gl0 X61 (ent 58 (e58 c58) (ent 82 (e82 c82) (ent 80 (e80 c80) (ent 60 (e60 c60) (ent 83 (e83 c83) gnil))))) ow [] Try.f61 k (I61 s) (E61 p0 s) n=ob (R61 c58 c82 c80 c60 c83 p0 n s) (K5 k)
 | 0,s=>by cases s<;>rfl
 | n+1,s=>by rw [el61];exact nt61 Ops.std c58 c82 c80 c60 c83 p0 _ _ some (K5 k) (rr61 c58 c82 c80 c60 c83 p0 k n) (some s)
def F61 (c58:C58) (c82:C82) (c80:C80) (c60:C60) (c83:C83) (p0:L95):Option (LB):=T61 Ops.std c58 c82 c80 c60 c83 p0 (R61 c58 c82 c80 c60 c83 p0 1000000) some none
abbrev C61:Type:=L95→Option (LB)
def e61 {R:Type} (c:C61):Ent R:=eG [.aC (.cL 95 ty95)] [] fun v k=>ob (c v.1) (K5 k)
abbrev Sp61 (c:C61):Prop:=∀ (p0:L95) (y:LB),c p0=some y→Spec Try.prog gl0 61 [.c (.list 95 ty95 p0)] [] (.c (.str y)) []
theorem ek61 {R:Type} {c:C61} (hs:Sp61 c):EOk 61 (e61 (R:=R) c):=qag fun v=>hs v.1
theorem sf61 {c58:C58} {c82:C82} {c80:C80} {c60:C60} {c83:C83} (h58:Sp58 c58) (h82:Sp82 c82) (h80:Sp80 c80) (h60:Sp60 c60) (h83:Sp83 c83):Sp61 (F61 c58 c82 c80 c60 c83):=fun p0 y hy=>by
 refine qad (qaa (ek58 h58) (qaa (ek82 h82) (qaa (ek80 h80) (qaa (ek60 h60) (qaa (ek83 h83) qac))))) 1000000 (fn:=Try.f61) (by kernel_rfl) (by kernel_rfl) (X:=X61) (by kernel_rfl) ?_
 rw [eq61]
 exact (nt61 Ops.std c58 c82 c80 c60 c83 p0 _ _ some (K5 k0) (rr61 c58 c82 c80 c60 c83 p0 k0 1000000) none).trans (by show ob (F61 c58 c82 c80 c60 c83 p0) _=_;rw [hy];rfl)
noncomputable def M61:C61:=F61 M58 M82 M80 M60 M83
theorem sm61:Sp61 M61:=sf61 sm58 sm82 sm80 sm60 sm83
def X62:Aux:=⟨[(3,([1,2]++rg 5 23))],[(5,.lin (rg 0 17))]⟩
inductive S62 where
 | l0 (v1:LB) (v2:Int)
def T62 {R:Type} (B:Ops) (c61:C61) (p0:L73) (again:S62→Option R) (k:(LB)→Option R):Option S62→Option R | none=>again (.l0 (mt UInt8) 0) | some (.l0 v1 v2)=>cond (B.lt v2 (↑p0.length)) (cond (B.lim (List.length v1+3) 1) (cond (B.inb v2 p0.length) (cond (B.lim (List.length (v1++([32,59,32]:LB))+List.length ((p0.getD v2.toNat ty73.dflt).1)) 1) (cond (B.lim (List.length (v1++([32,59,32]:LB)++(p0.getD v2.toNat ty73.dflt).1)+3) 1) (cond (B.inb v2 p0.length) (ob (c61 ((p0.getD v2.toNat ty73.dflt).2)) fun y0=>cond (B.lim (List.length (v1++([32,59,32]:LB)++(p0.getD v2.toNat ty73.dflt).1++([32,61,32]:LB))+List.length y0) 1) (again (.l0 (v1++([32,59,32]:LB)++(p0.getD v2.toNat ty73.dflt).1++([32,61,32]:LB)++y0) (IntKind.wrap .i64 (v2+1)))) none) none) none) none) none) none) (k v1)
def E62 (p0:L73):S62→List AV×Objs
 | .l0 v1 v2=>(mk 28 [(0,.c (.list 73 ty73 p0)),(3,.c (.str v1)),(4,.c (.int .i64 v2))],[])
def I62:S62→Nat
 | .l0 _ _=>0
theorem eq62 {R:Type} (B:Ops) (c61:C61) (p0:L73) (k:AV→Objs→Option R) (n:Nat):afun tau B gl0 X62 (ent 61 (e61 c61) gnil) ow Try.f62 [.c (.list 73 ty73 p0)] [] k n=T62 B c61 p0 (fun s=>aloop tau B gl0 X62 (ent 61 (e61 c61) gnil) ow [] Try.f62 k (I62 s) (E62 p0 s) n) (K5 k) none:=by kernel_rfl
theorem el62 {R:Type} (B:Ops) (c61:C61) (p0:L73) (k:AV→Objs→Option R) (n:Nat):∀ s,aloop tau B gl0 X62 (ent 61 (e61 c61) gnil) ow [] Try.f62 k (I62 s) (E62 p0 s) (n+1)=T62 B c61 p0 (fun s=>aloop tau B gl0 X62 (ent 61 (e61 c61) gnil) ow [] Try.f62 k (I62 s) (E62 p0 s) n) (K5 k) (some s):=by
 intro s
 cases s<;>kernel_rfl
theorem nt62 {R R':Type} (B:Ops) (c61:C61) (p0:L73) (again:S62→Option R) (again':S62→Option R') (k0:(LB)→Option R') (k:R'→Option R) (h:∀ s,again s=ob (again' s) k):∀ s,T62 B c61 p0 again (fun y=>ob (k0 y) k) s=ob (T62 B c61 p0 again' k0 s) k:=by
 rintro (_ | x)
 all_goals try cases x
 all_goals (unfold T62;repeat' first | exact rfl | exact h _ | apply qab | (apply qae;intro))
def R62 (c61:C61) (p0:L73):Nat→S62→Option (LB)
 | 0,_=>none
 | n+1,s=>T62 Ops.std c61 p0 (R62 c61 p0 n) some (some s)
theorem rr62 {R:Type} (c61:C61) (p0:L73) (k:AV→Objs→Option R):∀ (n:Nat) (s:S62),aloop tau Ops.std gl0 X62 (ent 61 (e61 c61) gnil) ow [] Try.f62 k (I62 s) (E62 p0 s) n=ob (R62 c61 p0 n s) (K5 k)
 | 0,s=>by cases s<;>rfl
 | n+1,s=>by rw [el62];exact nt62 Ops.std c61 p0 _ _ some (K5 k) (rr62 c61 p0 k n) (some s)
def F62 (c61:C61) (p0:L73):Option (LB):=T62 Ops.std c61 p0 (R62 c61 p0 1000000) some none
abbrev C62:Type:=L73→Option (LB)
def e62 {R:Type} (c:C62):Ent R:=eG [.aC (.cL 73 ty73)] [] fun v k=>ob (c v.1) (K5 k)
abbrev Sp62 (c:C62):Prop:=∀ (p0:L73) (y:LB),c p0=some y→Spec Try.prog gl0 62 [.c (.list 73 ty73 p0)] [] (.c (.str y)) []
theorem ek62 {R:Type} {c:C62} (hs:Sp62 c):EOk 62 (e62 (R:=R) c):=qag fun v=>hs v.1
theorem sf62 {c61:C61} (h61:Sp61 c61):Sp62 (F62 c61):=fun p0 y hy=>by
 refine qad (qaa (ek61 h61) qac) 1000000 (fn:=Try.f62) (by kernel_rfl) (by kernel_rfl) (X:=X62) (by kernel_rfl) ?_
 rw [eq62]
 exact (nt62 Ops.std c61 p0 _ _ some (K5 k0) (rr62 c61 p0 k0 1000000) none).trans (by show ob (F62 c61 p0) _=_;rw [hy];rfl)
noncomputable def M62:C62:=F62 M61
theorem sm62:Sp62 M62:=sf62 sm61
def X38:Aux:=⟨[],[(7,.lin ([0,1,4,5,8,9,12,13,16,19,20,23,24,2,3,6,7,10,11,14,15,17,18,21,22,25,26,27]))]⟩
def T38 {R:Type} (B:Ops) (c35:C35) (c57:C57) (c39:C39) (c58:C58) (c59:C59) (c60:C60) (c61:C61) (c62:C62) (p0:Int) (p1 p2 p3 p4:LB) (p5:L95) (p6:L73) (k:(LB)→Option R):Option R:=ob (c35 p4) fun y0=>ob (c57 p0) fun y1=>cond (!y1) (k (mt UInt8)) (cond (!y0.2) (k (mt UInt8)) (ob (c39 p1) fun y2=>cond (!y2) (k (mt UInt8)) (ob (c39 p2) fun y3=>cond (!y3) (k (mt UInt8)) (ob (c39 p3) fun y4=>cond (!y4) (k (mt UInt8)) (ob (c58 p5) fun y5=>cond (!y5) (k (mt UInt8)) (ob (c59 p6) fun y6=>cond (!y6) (k (mt UInt8)) (cond (p4 == mt UInt8) (ob (c60 p0) fun y7=>cond (B.lim (List.length y7+1) 1) (cond (B.lim (List.length (y7++([32]:LB))+List.length p1) 1) (cond (B.lim (List.length (y7++([32]:LB)++p1)+1) 1) (cond (B.lim (List.length (y7++([32]:LB)++p1++([32]:LB))+List.length p2) 1) (cond (B.lim (List.length (y7++([32]:LB)++p1++([32]:LB)++p2)+1) 1) (cond (B.lim (List.length (y7++([32]:LB)++p1++([32]:LB)++p2++([32]:LB))+List.length p3) 1) (cond (B.lim (List.length (y7++([32]:LB)++p1++([32]:LB)++p2++([32]:LB)++p3)+1) 1) (cond (B.lim (List.length (y7++([32]:LB)++p1++([32]:LB)++p2++([32]:LB)++p3++([32]:LB))+1) 1) (cond (B.lim (List.length (y7++([32]:LB)++p1++([32]:LB)++p2++([32]:LB)++p3++([32]:LB)++([45]:LB))+1) 1) (ob (c61 p5) fun y8=>cond (B.lim (List.length (y7++([32]:LB)++p1++([32]:LB)++p2++([32]:LB)++p3++([32]:LB)++([45]:LB)++([32]:LB))+List.length y8) 1) (ob (c62 p6) fun y9=>cond (B.lim (List.length (y7++([32]:LB)++p1++([32]:LB)++p2++([32]:LB)++p3++([32]:LB)++([45]:LB)++([32]:LB)++y8)+List.length y9) 1) (k (y7++([32]:LB)++p1++([32]:LB)++p2++([32]:LB)++p3++([32]:LB)++([45]:LB)++([32]:LB)++y8++y9)) none) none) none) none) none) none) none) none) none) none) none) (ob (c60 p0) fun y7=>cond (B.lim (List.length y7+1) 1) (cond (B.lim (List.length (y7++([32]:LB))+List.length p1) 1) (cond (B.lim (List.length (y7++([32]:LB)++p1)+1) 1) (cond (B.lim (List.length (y7++([32]:LB)++p1++([32]:LB))+List.length p2) 1) (cond (B.lim (List.length (y7++([32]:LB)++p1++([32]:LB)++p2)+1) 1) (cond (B.lim (List.length (y7++([32]:LB)++p1++([32]:LB)++p2++([32]:LB))+List.length p3) 1) (cond (B.lim (List.length (y7++([32]:LB)++p1++([32]:LB)++p2++([32]:LB)++p3)+1) 1) (cond (B.lim (List.length (y7++([32]:LB)++p1++([32]:LB)++p2++([32]:LB)++p3++([32]:LB))+List.length p4) 1) (cond (B.lim (List.length (y7++([32]:LB)++p1++([32]:LB)++p2++([32]:LB)++p3++([32]:LB)++p4)+1) 1) (ob (c61 p5) fun y8=>cond (B.lim (List.length (y7++([32]:LB)++p1++([32]:LB)++p2++([32]:LB)++p3++([32]:LB)++p4++([32]:LB))+List.length y8) 1) (ob (c62 p6) fun y9=>cond (B.lim (List.length (y7++([32]:LB)++p1++([32]:LB)++p2++([32]:LB)++p3++([32]:LB)++p4++([32]:LB)++y8)+List.length y9) 1) (k (y7++([32]:LB)++p1++([32]:LB)++p2++([32]:LB)++p3++([32]:LB)++p4++([32]:LB)++y8++y9)) none) none) none) none) none) none) none) none) none) none) none))))))))
theorem eq38 {R:Type} (B:Ops) (c35:C35) (c57:C57) (c39:C39) (c58:C58) (c59:C59) (c60:C60) (c61:C61) (c62:C62) (p0:Int) (p1 p2 p3 p4:LB) (p5:L95) (p6:L73) (k:AV→Objs→Option R) (n:Nat):afun tau B gl0 X38 (ent 35 (e35 c35) (ent 57 (e57 c57) (ent 39 (e39 c39) (ent 58 (e58 c58) (ent 59 (e59 c59) (ent 60 (e60 c60) (ent 61 (e61 c61) (ent 62 (e62 c62) gnil)))))))) ow Try.f38 [.agg [.int .i64 p0,.str p1,.str p2,.str p3,.str p4,.list 95 ty95 p5,.list 73 ty73 p6]] [] k n=T38 B c35 c57 c39 c58 c59 c60 c61 c62 p0 p1 p2 p3 p4 p5 p6 (K5 k):=by kernel_rfl
theorem nt38 {R R':Type} (B:Ops) (c35:C35) (c57:C57) (c39:C39) (c58:C58) (c59:C59) (c60:C60) (c61:C61) (c62:C62) (p0:Int) (p1 p2 p3 p4:LB) (p5:L95) (p6:L73) (k0:(LB)→Option R') (k:R'→Option R):T38 B c35 c57 c39 c58 c59 c60 c61 c62 p0 p1 p2 p3 p4 p5 p6 (fun y=>ob (k0 y) k)=ob (T38 B c35 c57 c39 c58 c59 c60 c61 c62 p0 p1 p2 p3 p4 p5 p6 k0) k:=by
 unfold T38
 repeat' first | exact rfl | apply qab | (apply qae;intro)
def F38 (c35:C35) (c57:C57) (c39:C39) (c58:C58) (c59:C59) (c60:C60) (c61:C61) (c62:C62) (p0:Int) (p1 p2 p3 p4:LB) (p5:L95) (p6:L73):Option (LB):=T38 Ops.std c35 c57 c39 c58 c59 c60 c61 c62 p0 p1 p2 p3 p4 p5 p6 some
abbrev C38:Type:=Int→LB→LB→LB→LB→L95→L73→Option (LB)
def e38 {R:Type} (c:C38):Ent R:=eG [.aG [.cI .i64,.cS,.cS,.cS,.cS,.cL 95 ty95,.cL 73 ty73]] [] fun v k=>ob (c v.1 v.2.1 v.2.2.1 v.2.2.2.1 v.2.2.2.2.1 v.2.2.2.2.2.1 v.2.2.2.2.2.2.1) (K5 k)
abbrev Sp38 (c:C38):Prop:=∀ (p0:Int) (p1 p2 p3 p4:LB) (p5:L95) (p6:L73) (y:LB),c p0 p1 p2 p3 p4 p5 p6=some y→Spec Try.prog gl0 38 [.agg [.int .i64 p0,.str p1,.str p2,.str p3,.str p4,.list 95 ty95 p5,.list 73 ty73 p6]] [] (.c (.str y)) []
theorem ek38 {R:Type} {c:C38} (hs:Sp38 c):EOk 38 (e38 (R:=R) c):=qag fun v=>hs v.1 v.2.1 v.2.2.1 v.2.2.2.1 v.2.2.2.2.1 v.2.2.2.2.2.1 v.2.2.2.2.2.2.1
theorem sf38 {c35:C35} {c57:C57} {c39:C39} {c58:C58} {c59:C59} {c60:C60} {c61:C61} {c62:C62} (h35:Sp35 c35) (h57:Sp57 c57) (h39:Sp39 c39) (h58:Sp58 c58) (h59:Sp59 c59) (h60:Sp60 c60) (h61:Sp61 c61) (h62:Sp62 c62):Sp38 (F38 c35 c57 c39 c58 c59 c60 c61 c62):=fun p0 p1 p2 p3 p4 p5 p6 y hy=>by
 refine qad (qaa (ek35 h35) (qaa (ek57 h57) (qaa (ek39 h39) (qaa (ek58 h58) (qaa (ek59 h59) (qaa (ek60 h60) (qaa (ek61 h61) (qaa (ek62 h62) qac)))))))) 1000000 (fn:=Try.f38) (by kernel_rfl) (by kernel_rfl) (X:=X38) (by kernel_rfl) ?_
 rw [eq38]
 exact (nt38 Ops.std c35 c57 c39 c58 c59 c60 c61 c62 p0 p1 p2 p3 p4 p5 p6 some (K5 k0)).trans (by show ob (F38 c35 c57 c39 c58 c59 c60 c61 c62 p0 p1 p2 p3 p4 p5 p6) _=_;rw [hy];rfl)
noncomputable def M38:C38:=F38 M35 M57 M39 M58 M59 M60 M61 M62
theorem sm38:Sp38 M38:=sf38 sm35 sm57 sm39 sm58 sm59 sm60 sm61 sm62
def X40:Aux:=⟨[],[]⟩
def T40 {R:Type} (B:Ops) (p0:Int) (k:(Bool)→Option R):Option R:=cond (B.le (-999) p0) (k (B.le p0 999)) (k false)
theorem eq40 {R:Type} (B:Ops) (p0:Int) (k:AV→Objs→Option R) (n:Nat):afun tau B gl0 X40 gnil ow Try.f40 [.c (.int .i64 p0)] [] k n=T40 B p0 (K2 k):=by kernel_rfl
theorem nt40 {R R':Type} (B:Ops) (p0:Int) (k0:(Bool)→Option R') (k:R'→Option R):T40 B p0 (fun y=>ob (k0 y) k)=ob (T40 B p0 k0) k:=by
 unfold T40
 repeat' first | exact rfl | apply qab | (apply qae;intro)
def F40 (p0:Int):Option (Bool):=T40 Ops.std p0 some
abbrev C40:Type:=Int→Option (Bool)
def e40 {R:Type} (c:C40):Ent R:=eG [.aC (.cI .i64)] [] fun v k=>ob (c v.1) (K2 k)
abbrev Sp40 (c:C40):Prop:=∀ (p0:Int) (y:Bool),c p0=some y→Spec Try.prog gl0 40 [.c (.int .i64 p0)] [] (.c (.bool y)) []
theorem ek40 {R:Type} {c:C40} (hs:Sp40 c):EOk 40 (e40 (R:=R) c):=qag fun v=>hs v.1
theorem sf40:Sp40 (F40):=fun p0 y hy=>by
 refine qad qac 1000000 (fn:=Try.f40) (by kernel_rfl) (by kernel_rfl) (X:=X40) (by kernel_rfl) ?_
 rw [eq40]
 exact (nt40 Ops.std p0 some (K2 k0)).trans (by show ob (F40 p0) _=_;rw [hy];rfl)
noncomputable def M40:C40:=F40
theorem sm40:Sp40 M40:=sf40
def X41:Aux:=⟨[(2,([1,2]++rg 4 21)),(5,([1,2]++rg 5 20))],[(7,.lin [0,1,2,3,4,5,6,7,8])]⟩
inductive S41 where
 | l0 (v1:Int)
 | l1 (v1 v2:Int)
def T41 {R:Type} (B:Ops) (p0:L9) (again:S41→Option R) (k:(Bool)→Option R):Option S41→Option R | none=>again (.l0 0) | some (.l0 v1)=>cond (B.lt v1 (↑p0.length)) (again (.l1 v1 0)) (k false) | some (.l1 v1 v2)=>cond (B.lt v2 v1) (cond (B.inb v1 p0.length) (cond (B.inb v2 p0.length) (cond (p0.getD v1.toNat ty9.dflt == p0.getD v2.toNat ty9.dflt) (k true) (again (.l1 v1 (IntKind.wrap .i64 (v2+1))))) none) none) (again (.l0 (IntKind.wrap .i64 (v1+1))))
def E41 (p0:L9):S41→List AV×Objs
 | .l0 v1=>(mk 25 [(0,.c (.list 9 ty9 p0)),(3,.c (.int .i64 v1))],[])
 | .l1 v1 v2=>(mk 25 [(0,.c (.list 9 ty9 p0)),(3,.c (.int .i64 v1)),(4,.c (.int .i64 v2))],[])
def I41:S41→Nat
 | .l0 _=>0
 | .l1 _ _=>1
theorem eq41 {R:Type} (B:Ops) (p0:L9) (k:AV→Objs→Option R) (n:Nat):afun tau B gl0 X41 gnil ow Try.f41 [.c (.list 9 ty9 p0)] [] k n=T41 B p0 (fun s=>aloop tau B gl0 X41 gnil ow [] Try.f41 k (I41 s) (E41 p0 s) n) (K2 k) none:=by kernel_rfl
theorem el41 {R:Type} (B:Ops) (p0:L9) (k:AV→Objs→Option R) (n:Nat):∀ s,aloop tau B gl0 X41 gnil ow [] Try.f41 k (I41 s) (E41 p0 s) (n+1)=T41 B p0 (fun s=>aloop tau B gl0 X41 gnil ow [] Try.f41 k (I41 s) (E41 p0 s) n) (K2 k) (some s):=by
 intro s
 cases s<;>kernel_rfl
theorem nt41 {R R':Type} (B:Ops) (p0:L9) (again:S41→Option R) (again':S41→Option R') (k0:(Bool)→Option R') (k:R'→Option R) (h:∀ s,again s=ob (again' s) k):∀ s,T41 B p0 again (fun y=>ob (k0 y) k) s=ob (T41 B p0 again' k0 s) k:=by
 rintro (_ | x)
 all_goals try cases x
 all_goals (unfold T41;repeat' first | exact rfl | exact h _ | apply qab | (apply qae;intro))
def R41 (p0:L9):Nat→S41→Option (Bool)
 | 0,_=>none
 | n+1,s=>T41 Ops.std p0 (R41 p0 n) some (some s)
theorem rr41 {R:Type} (p0:L9) (k:AV→Objs→Option R):∀ (n:Nat) (s:S41),aloop tau Ops.std gl0 X41 gnil ow [] Try.f41 k (I41 s) (E41 p0 s) n=ob (R41 p0 n s) (K2 k)
 | 0,s=>by cases s<;>rfl
 | n+1,s=>by rw [el41];exact nt41 Ops.std p0 _ _ some (K2 k) (rr41 p0 k n) (some s)
def F41 (p0:L9):Option (Bool):=T41 Ops.std p0 (R41 p0 1000000) some none
abbrev C41:Type:=L9→Option (Bool)
def e41 {R:Type} (c:C41):Ent R:=eG [.aC (.cL 9 ty9)] [] fun v k=>ob (c v.1) (K2 k)
abbrev Sp41 (c:C41):Prop:=∀ (p0:L9) (y:Bool),c p0=some y→Spec Try.prog gl0 41 [.c (.list 9 ty9 p0)] [] (.c (.bool y)) []
theorem ek41 {R:Type} {c:C41} (hs:Sp41 c):EOk 41 (e41 (R:=R) c):=qag fun v=>hs v.1
theorem sf41:Sp41 (F41):=fun p0 y hy=>by
 refine qad qac 1000000 (fn:=Try.f41) (by kernel_rfl) (by kernel_rfl) (X:=X41) (by kernel_rfl) ?_
 rw [eq41]
 exact (nt41 Ops.std p0 _ _ some (K2 k0) (rr41 p0 k0 1000000) none).trans (by show ob (F41 p0) _=_;rw [hy];rfl)
noncomputable def M41:C41:=F41
theorem sm41:Sp41 M41:=sf41
def X64:Aux:=⟨[(2,([0,3,4]++rg 6 16))],[]⟩
inductive S64 where
 | l0 (v1:Int)
def T64 {R:Type} (B:Ops) (p0:L62) (p1:L66) (p2:L43) (p3:LB) (again:S64→Option R) (k:(Int)→Option R):Option S64→Option R | none=>again (.l0 0) | some (.l0 v1)=>cond (B.lt v1 (↑p1.length)) (cond (B.inb v1 p1.length) (cond ((p1.getD v1.toNat ty66.dflt).1 == p3) (k v1) (again (.l0 (IntKind.wrap .i64 (v1+1))))) none) (k (-1))
def E64 (p0:L62) (p1:L66) (p2:L43) (p3:LB):S64→List AV×Objs
 | .l0 v1=>(mk 22 [(1,.c (.str p3)),(2,.c (.ptr 2 0)),(5,.c (.int .i64 v1))],[(2,.box 27 [.list 62 ty62 p0,.list 66 ty66 p1,.list 43 ty43 p2])])
def I64:S64→Nat
 | .l0 _=>0
theorem eq64 {R:Type} (B:Ops) (p0:L62) (p1:L66) (p2:L43) (p3:LB) (k:AV→Objs→Option R) (n:Nat):afun tau B gl0 X64 gnil ow Try.f64 [.agg [.list 62 ty62 p0,.list 66 ty66 p1,.list 43 ty43 p2],.c (.str p3)] [] k n=T64 B p0 p1 p2 p3 (fun s=>aloop tau B gl0 X64 gnil ow [] Try.f64 k (I64 s) (E64 p0 p1 p2 p3 s) n) (K9 k) none:=by kernel_rfl
theorem el64 {R:Type} (B:Ops) (p0:L62) (p1:L66) (p2:L43) (p3:LB) (k:AV→Objs→Option R) (n:Nat):∀ s,aloop tau B gl0 X64 gnil ow [] Try.f64 k (I64 s) (E64 p0 p1 p2 p3 s) (n+1)=T64 B p0 p1 p2 p3 (fun s=>aloop tau B gl0 X64 gnil ow [] Try.f64 k (I64 s) (E64 p0 p1 p2 p3 s) n) (K9 k) (some s):=by
 intro s
 cases s<;>kernel_rfl
theorem nt64 {R R':Type} (B:Ops) (p0:L62) (p1:L66) (p2:L43) (p3:LB) (again:S64→Option R) (again':S64→Option R') (k0:(Int)→Option R') (k:R'→Option R) (h:∀ s,again s=ob (again' s) k):∀ s,T64 B p0 p1 p2 p3 again (fun y=>ob (k0 y) k) s=ob (T64 B p0 p1 p2 p3 again' k0 s) k:=by
 rintro (_ | x)
 all_goals try cases x
 all_goals (unfold T64;repeat' first | exact rfl | exact h _ | apply qab | (apply qae;intro))
def R64 (p0:L62) (p1:L66) (p2:L43) (p3:LB):Nat→S64→Option (Int)
 | 0,_=>none
 | n+1,s=>T64 Ops.std p0 p1 p2 p3 (R64 p0 p1 p2 p3 n) some (some s)
theorem rr64 {R:Type} (p0:L62) (p1:L66) (p2:L43) (p3:LB) (k:AV→Objs→Option R):∀ (n:Nat) (s:S64),aloop tau Ops.std gl0 X64 gnil ow [] Try.f64 k (I64 s) (E64 p0 p1 p2 p3 s) n=ob (R64 p0 p1 p2 p3 n s) (K9 k)
 | 0,s=>by cases s<;>rfl
 | n+1,s=>by rw [el64];exact nt64 Ops.std p0 p1 p2 p3 _ _ some (K9 k) (rr64 p0 p1 p2 p3 k n) (some s)
def F64 (p0:L62) (p1:L66) (p2:L43) (p3:LB):Option (Int):=T64 Ops.std p0 p1 p2 p3 (R64 p0 p1 p2 p3 1000000) some none
abbrev C64:Type:=L62→L66→L43→LB→Option (Int)
def e64 {R:Type} (c:C64):Ent R:=eG [.aG [.cL 62 ty62,.cL 66 ty66,.cL 43 ty43],.aC .cS] [] fun v k=>ob (c v.1 v.2.1 v.2.2.1 v.2.2.2.1) (K9 k)
abbrev Sp64 (c:C64):Prop:=∀ (p0:L62) (p1:L66) (p2:L43) (p3:LB) (y:Int),c p0 p1 p2 p3=some y→Spec Try.prog gl0 64 [.agg [.list 62 ty62 p0,.list 66 ty66 p1,.list 43 ty43 p2],.c (.str p3)] [] (.c (.int .i64 y)) []
theorem ek64 {R:Type} {c:C64} (hs:Sp64 c):EOk 64 (e64 (R:=R) c):=qag fun v=>hs v.1 v.2.1 v.2.2.1 v.2.2.2.1
theorem sf64:Sp64 (F64):=fun p0 p1 p2 p3 y hy=>by
 refine qad qac 1000000 (fn:=Try.f64) (by kernel_rfl) (by kernel_rfl) (X:=X64) (by kernel_rfl) ?_
 rw [eq64]
 exact (nt64 Ops.std p0 p1 p2 p3 _ _ some (K9 k0) (rr64 p0 p1 p2 p3 k0 1000000) none).trans (by show ob (F64 p0 p1 p2 p3) _=_;rw [hy];rfl)
noncomputable def M64:C64:=F64
theorem sm64:Sp64 M64:=sf64
def X65:Aux:=⟨[(4,([0,4,5,6]++rg 8 25))],[]⟩
inductive S65 where
 | l0 (v2:Int)
def T65 {R:Type} (B:Ops) (p0:L62) (p1:L66) (p2:L43) (p3:Int) (p4:LB) (again:S65→Option R) (k:(Int)→Option R):Option S65→Option R | none=>cond (B.lt p3 0) (k (-1)) (again (.l0 0)) | some (.l0 v2)=>cond (B.inb p3 p1.length) (cond (B.lt v2 (Nat.cast (List.length ((p1.getD p3.toNat ty66.dflt).2)))) (cond (B.inb p3 p1.length) (cond (B.inb v2 (List.length ((p1.getD p3.toNat ty66.dflt).2))) (cond (List.getD ((p1.getD p3.toNat ty66.dflt).2) v2.toNat (Ty.dflt Ty.str) == p4) (k v2) (again (.l0 (IntKind.wrap .i64 (v2+1))))) none) none) (k (-1))) none
def E65 (p0:L62) (p1:L66) (p2:L43) (p3:Int) (p4:LB):S65→List AV×Objs
 | .l0 v2=>(mk 33 [(1,.c (.int .i64 p3)),(2,.c (.str p4)),(3,.c (.ptr 3 0)),(7,.c (.int .i64 v2))],[(3,.box 27 [.list 62 ty62 p0,.list 66 ty66 p1,.list 43 ty43 p2])])
def I65:S65→Nat
 | .l0 _=>0
theorem eq65 {R:Type} (B:Ops) (p0:L62) (p1:L66) (p2:L43) (p3:Int) (p4:LB) (k:AV→Objs→Option R) (n:Nat):afun tau B gl0 X65 gnil ow Try.f65 [.agg [.list 62 ty62 p0,.list 66 ty66 p1,.list 43 ty43 p2],.c (.int .i64 p3),.c (.str p4)] [] k n=T65 B p0 p1 p2 p3 p4 (fun s=>aloop tau B gl0 X65 gnil ow [] Try.f65 k (I65 s) (E65 p0 p1 p2 p3 p4 s) n) (K9 k) none:=by kernel_rfl
theorem el65 {R:Type} (B:Ops) (p0:L62) (p1:L66) (p2:L43) (p3:Int) (p4:LB) (k:AV→Objs→Option R) (n:Nat):∀ s,aloop tau B gl0 X65 gnil ow [] Try.f65 k (I65 s) (E65 p0 p1 p2 p3 p4 s) (n+1)=T65 B p0 p1 p2 p3 p4 (fun s=>aloop tau B gl0 X65 gnil ow [] Try.f65 k (I65 s) (E65 p0 p1 p2 p3 p4 s) n) (K9 k) (some s):=by
 intro s
 cases s<;>kernel_rfl
theorem nt65 {R R':Type} (B:Ops) (p0:L62) (p1:L66) (p2:L43) (p3:Int) (p4:LB) (again:S65→Option R) (again':S65→Option R') (k0:(Int)→Option R') (k:R'→Option R) (h:∀ s,again s=ob (again' s) k):∀ s,T65 B p0 p1 p2 p3 p4 again (fun y=>ob (k0 y) k) s=ob (T65 B p0 p1 p2 p3 p4 again' k0 s) k:=by
 rintro (_ | x)
 all_goals try cases x
 all_goals (unfold T65;repeat' first | exact rfl | exact h _ | apply qab | (apply qae;intro))
def R65 (p0:L62) (p1:L66) (p2:L43) (p3:Int) (p4:LB):Nat→S65→Option (Int)
 | 0,_=>none
 | n+1,s=>T65 Ops.std p0 p1 p2 p3 p4 (R65 p0 p1 p2 p3 p4 n) some (some s)
theorem rr65 {R:Type} (p0:L62) (p1:L66) (p2:L43) (p3:Int) (p4:LB) (k:AV→Objs→Option R):∀ (n:Nat) (s:S65),aloop tau Ops.std gl0 X65 gnil ow [] Try.f65 k (I65 s) (E65 p0 p1 p2 p3 p4 s) n=ob (R65 p0 p1 p2 p3 p4 n s) (K9 k)
 | 0,s=>by cases s<;>rfl
 | n+1,s=>by rw [el65];exact nt65 Ops.std p0 p1 p2 p3 p4 _ _ some (K9 k) (rr65 p0 p1 p2 p3 p4 k n) (some s)
def F65 (p0:L62) (p1:L66) (p2:L43) (p3:Int) (p4:LB):Option (Int):=T65 Ops.std p0 p1 p2 p3 p4 (R65 p0 p1 p2 p3 p4 1000000) some none
abbrev C65:Type:=L62→L66→L43→Int→LB→Option (Int)
def e65 {R:Type} (c:C65):Ent R:=eG [.aG [.cL 62 ty62,.cL 66 ty66,.cL 43 ty43],.aC (.cI .i64),.aC .cS] [] fun v k=>ob (c v.1 v.2.1 v.2.2.1 v.2.2.2.1 v.2.2.2.2.1) (K9 k)
abbrev Sp65 (c:C65):Prop:=∀ (p0:L62) (p1:L66) (p2:L43) (p3:Int) (p4:LB) (y:Int),c p0 p1 p2 p3 p4=some y→Spec Try.prog gl0 65 [.agg [.list 62 ty62 p0,.list 66 ty66 p1,.list 43 ty43 p2],.c (.int .i64 p3),.c (.str p4)] [] (.c (.int .i64 y)) []
theorem ek65 {R:Type} {c:C65} (hs:Sp65 c):EOk 65 (e65 (R:=R) c):=qag fun v=>hs v.1 v.2.1 v.2.2.1 v.2.2.2.1 v.2.2.2.2.1
theorem sf65:Sp65 (F65):=fun p0 p1 p2 p3 p4 y hy=>by
 refine qad qac 1000000 (fn:=Try.f65) (by kernel_rfl) (by kernel_rfl) (X:=X65) (by kernel_rfl) ?_
 rw [eq65]
 exact (nt65 Ops.std p0 p1 p2 p3 p4 _ _ some (K9 k0) (rr65 p0 p1 p2 p3 p4 k0 1000000) none).trans (by show ob (F65 p0 p1 p2 p3 p4) _=_;rw [hy];rfl)
noncomputable def M65:C65:=F65
theorem sm65:Sp65 M65:=sf65
def X67:Aux:=⟨[(2,([0,3,4]++rg 6 16))],[]⟩
inductive S67 where
 | l0 (v1:Int)
def T67 {R:Type} (B:Ops) (p0:L62) (p1:L66) (p2:L43) (p3:LB) (again:S67→Option R) (k:(Int)→Option R):Option S67→Option R | none=>again (.l0 0) | some (.l0 v1)=>cond (B.lt v1 (↑p0.length)) (cond (B.inb v1 p0.length) (cond ((p0.getD v1.toNat ty62.dflt).1 == p3) (k v1) (again (.l0 (IntKind.wrap .i64 (v1+1))))) none) (k (-1))
def E67 (p0:L62) (p1:L66) (p2:L43) (p3:LB):S67→List AV×Objs
 | .l0 v1=>(mk 22 [(1,.c (.str p3)),(2,.c (.ptr 2 0)),(5,.c (.int .i64 v1))],[(2,.box 27 [.list 62 ty62 p0,.list 66 ty66 p1,.list 43 ty43 p2])])
def I67:S67→Nat
 | .l0 _=>0
theorem eq67 {R:Type} (B:Ops) (p0:L62) (p1:L66) (p2:L43) (p3:LB) (k:AV→Objs→Option R) (n:Nat):afun tau B gl0 X67 gnil ow Try.f67 [.agg [.list 62 ty62 p0,.list 66 ty66 p1,.list 43 ty43 p2],.c (.str p3)] [] k n=T67 B p0 p1 p2 p3 (fun s=>aloop tau B gl0 X67 gnil ow [] Try.f67 k (I67 s) (E67 p0 p1 p2 p3 s) n) (K9 k) none:=by kernel_rfl
theorem el67 {R:Type} (B:Ops) (p0:L62) (p1:L66) (p2:L43) (p3:LB) (k:AV→Objs→Option R) (n:Nat):∀ s,aloop tau B gl0 X67 gnil ow [] Try.f67 k (I67 s) (E67 p0 p1 p2 p3 s) (n+1)=T67 B p0 p1 p2 p3 (fun s=>aloop tau B gl0 X67 gnil ow [] Try.f67 k (I67 s) (E67 p0 p1 p2 p3 s) n) (K9 k) (some s):=by
 intro s
 cases s<;>kernel_rfl
theorem nt67 {R R':Type} (B:Ops) (p0:L62) (p1:L66) (p2:L43) (p3:LB) (again:S67→Option R) (again':S67→Option R') (k0:(Int)→Option R') (k:R'→Option R) (h:∀ s,again s=ob (again' s) k):∀ s,T67 B p0 p1 p2 p3 again (fun y=>ob (k0 y) k) s=ob (T67 B p0 p1 p2 p3 again' k0 s) k:=by
 rintro (_ | x)
 all_goals try cases x
 all_goals (unfold T67;repeat' first | exact rfl | exact h _ | apply qab | (apply qae;intro))
def R67 (p0:L62) (p1:L66) (p2:L43) (p3:LB):Nat→S67→Option (Int)
 | 0,_=>none
 | n+1,s=>T67 Ops.std p0 p1 p2 p3 (R67 p0 p1 p2 p3 n) some (some s)
theorem rr67 {R:Type} (p0:L62) (p1:L66) (p2:L43) (p3:LB) (k:AV→Objs→Option R):∀ (n:Nat) (s:S67),aloop tau Ops.std gl0 X67 gnil ow [] Try.f67 k (I67 s) (E67 p0 p1 p2 p3 s) n=ob (R67 p0 p1 p2 p3 n s) (K9 k)
 | 0,s=>by cases s<;>rfl
 | n+1,s=>by rw [el67];exact nt67 Ops.std p0 p1 p2 p3 _ _ some (K9 k) (rr67 p0 p1 p2 p3 k n) (some s)
def F67 (p0:L62) (p1:L66) (p2:L43) (p3:LB):Option (Int):=T67 Ops.std p0 p1 p2 p3 (R67 p0 p1 p2 p3 1000000) some none
abbrev C67:Type:=L62→L66→L43→LB→Option (Int)
def e67 {R:Type} (c:C67):Ent R:=eG [.aG [.cL 62 ty62,.cL 66 ty66,.cL 43 ty43],.aC .cS] [] fun v k=>ob (c v.1 v.2.1 v.2.2.1 v.2.2.2.1) (K9 k)
abbrev Sp67 (c:C67):Prop:=∀ (p0:L62) (p1:L66) (p2:L43) (p3:LB) (y:Int),c p0 p1 p2 p3=some y→Spec Try.prog gl0 67 [.agg [.list 62 ty62 p0,.list 66 ty66 p1,.list 43 ty43 p2],.c (.str p3)] [] (.c (.int .i64 y)) []
theorem ek67 {R:Type} {c:C67} (hs:Sp67 c):EOk 67 (e67 (R:=R) c):=qag fun v=>hs v.1 v.2.1 v.2.2.1 v.2.2.2.1
theorem sf67:Sp67 (F67):=fun p0 p1 p2 p3 y hy=>by
 refine qad qac 1000000 (fn:=Try.f67) (by kernel_rfl) (by kernel_rfl) (X:=X67) (by kernel_rfl) ?_
 rw [eq67]
 exact (nt67 Ops.std p0 p1 p2 p3 _ _ some (K9 k0) (rr67 p0 p1 p2 p3 k0 1000000) none).trans (by show ob (F67 p0 p1 p2 p3) _=_;rw [hy];rfl)
noncomputable def M67:C67:=F67
theorem sm67:Sp67 M67:=sf67
def X66:Aux:=⟨[(2,([0,3,4]++rg 6 49))],[(4,.lin (rg 0 31++[32,33,34,35,36,31,37,38,39,40]))]⟩
inductive S66 where
 | l0 (v1:Int)
def T66 {R:Type} (B:Ops) (c67:C67) (c64:C64) (c65:C65) (c58:C58) (p0:L62) (p1:L66) (p2:L43) (p3:L95) (again:S66→Option R) (k:(Bool)→Option R):Option S66→Option R | none=>again (.l0 0) | some (.l0 v1)=>cond (B.lt v1 (↑p3.length)) (cond (B.inb v1 p3.length) (cond (B.eq ((p3.getD v1.toNat ty95.dflt).1) 2) (cond (B.inb v1 p3.length) (ob (c67 p0 p1 p2 ((((p3.getD v1.toNat ty95.dflt).2).2).1)) fun y0=>cond (B.lt y0 0) (k false) (cond (B.inb v1 p3.length) (cond (B.eq ((p3.getD v1.toNat ty95.dflt).1) 3) (cond (B.inb v1 p3.length) (cond (B.inb v1 p3.length) (ob (c64 p0 p1 p2 ((((p3.getD v1.toNat ty95.dflt).2).2).1)) fun y1=>ob (c65 p0 p1 p2 y1 ((((p3.getD v1.toNat ty95.dflt).2).2).2)) fun y2=>cond (B.lt y2 0) (k false) (again (.l0 (IntKind.wrap .i64 (v1+1))))) none) none) (again (.l0 (IntKind.wrap .i64 (v1+1))))) none)) none) (cond (B.inb v1 p3.length) (cond (B.eq ((p3.getD v1.toNat ty95.dflt).1) 3) (cond (B.inb v1 p3.length) (cond (B.inb v1 p3.length) (ob (c64 p0 p1 p2 ((((p3.getD v1.toNat ty95.dflt).2).2).1)) fun y0=>ob (c65 p0 p1 p2 y0 ((((p3.getD v1.toNat ty95.dflt).2).2).2)) fun y1=>cond (B.lt y1 0) (k false) (again (.l0 (IntKind.wrap .i64 (v1+1))))) none) none) (again (.l0 (IntKind.wrap .i64 (v1+1))))) none)) none) (ob (c58 p3) fun y0=>k y0)
def E66 (p0:L62) (p1:L66) (p2:L43) (p3:L95):S66→List AV×Objs
 | .l0 v1=>(mk 55 [(1,.c (.list 95 ty95 p3)),(2,.c (.ptr 2 0)),(5,.c (.int .i64 v1))],[(2,.box 27 [.list 62 ty62 p0,.list 66 ty66 p1,.list 43 ty43 p2])])
def I66:S66→Nat
 | .l0 _=>0
theorem eq66 {R:Type} (B:Ops) (c67:C67) (c64:C64) (c65:C65) (c58:C58) (p0:L62) (p1:L66) (p2:L43) (p3:L95) (k:AV→Objs→Option R) (n:Nat):afun tau B gl0 X66 (ent 67 (e67 c67) (ent 64 (e64 c64) (ent 65 (e65 c65) (ent 58 (e58 c58) gnil)))) ow Try.f66 [.agg [.list 62 ty62 p0,.list 66 ty66 p1,.list 43 ty43 p2],.c (.list 95 ty95 p3)] [] k n=T66 B c67 c64 c65 c58 p0 p1 p2 p3 (fun s=>aloop tau B gl0 X66 (ent 67 (e67 c67) (ent 64 (e64 c64) (ent 65 (e65 c65) (ent 58 (e58 c58) gnil)))) ow [] Try.f66 k (I66 s) (E66 p0 p1 p2 p3 s) n) (K2 k) none:=by kernel_rfl
theorem el66 {R:Type} (B:Ops) (c67:C67) (c64:C64) (c65:C65) (c58:C58) (p0:L62) (p1:L66) (p2:L43) (p3:L95) (k:AV→Objs→Option R) (n:Nat):∀ s,aloop tau B gl0 X66 (ent 67 (e67 c67) (ent 64 (e64 c64) (ent 65 (e65 c65) (ent 58 (e58 c58) gnil)))) ow [] Try.f66 k (I66 s) (E66 p0 p1 p2 p3 s) (n+1)=T66 B c67 c64 c65 c58 p0 p1 p2 p3 (fun s=>aloop tau B gl0 X66 (ent 67 (e67 c67) (ent 64 (e64 c64) (ent 65 (e65 c65) (ent 58 (e58 c58) gnil)))) ow [] Try.f66 k (I66 s) (E66 p0 p1 p2 p3 s) n) (K2 k) (some s):=by
 intro s
 cases s<;>kernel_rfl
theorem nt66 {R R':Type} (B:Ops) (c67:C67) (c64:C64) (c65:C65) (c58:C58) (p0:L62) (p1:L66) (p2:L43) (p3:L95) (again:S66→Option R) (again':S66→Option R') (k0:(Bool)→Option R') (k:R'→Option R) (h:∀ s,again s=ob (again' s) k):∀ s,T66 B c67 c64 c65 c58 p0 p1 p2 p3 again (fun y=>ob (k0 y) k) s=ob (T66 B c67 c64 c65 c58 p0 p1 p2 p3 again' k0 s) k:=by
 rintro (_ | x)
 all_goals try cases x
 all_goals (unfold T66;repeat' first | exact rfl | exact h _ | apply qab | (apply qae;intro))
def R66 (c67:C67) (c64:C64) (c65:C65) (c58:C58) (p0:L62) (p1:L66) (p2:L43) (p3:L95):Nat→S66→Option (Bool)
 | 0,_=>none
 | n+1,s=>T66 Ops.std c67 c64 c65 c58 p0 p1 p2 p3 (R66 c67 c64 c65 c58 p0 p1 p2 p3 n) some (some s)
theorem rr66 {R:Type} (c67:C67) (c64:C64) (c65:C65) (c58:C58) (p0:L62) (p1:L66) (p2:L43) (p3:L95) (k:AV→Objs→Option R):∀ (n:Nat) (s:S66),aloop tau Ops.std gl0 X66 (ent 67 (e67 c67) (ent 64 (e64 c64) (ent 65 (e65 c65) (ent 58 (e58 c58) gnil)))) ow [] Try.f66 k (I66 s) (E66 p0 p1 p2 p3 s) n=ob (R66 c67 c64 c65 c58 p0 p1 p2 p3 n s) (K2 k)
 | 0,s=>by cases s<;>rfl
 | n+1,s=>by rw [el66];exact nt66 Ops.std c67 c64 c65 c58 p0 p1 p2 p3 _ _ some (K2 k) (rr66 c67 c64 c65 c58 p0 p1 p2 p3 k n) (some s)
def F66 (c67:C67) (c64:C64) (c65:C65) (c58:C58) (p0:L62) (p1:L66) (p2:L43) (p3:L95):Option (Bool):=T66 Ops.std c67 c64 c65 c58 p0 p1 p2 p3 (R66 c67 c64 c65 c58 p0 p1 p2 p3 1000000) some none
abbrev C66:Type:=L62→L66→L43→L95→Option (Bool)
def e66 {R:Type} (c:C66):Ent R:=eG [.aG [.cL 62 ty62,.cL 66 ty66,.cL 43 ty43],.aC (.cL 95 ty95)] [] fun v k=>ob (c v.1 v.2.1 v.2.2.1 v.2.2.2.1) (K2 k)
abbrev Sp66 (c:C66):Prop:=∀ (p0:L62) (p1:L66) (p2:L43) (p3:L95) (y:Bool),c p0 p1 p2 p3=some y→Spec Try.prog gl0 66 [.agg [.list 62 ty62 p0,.list 66 ty66 p1,.list 43 ty43 p2],.c (.list 95 ty95 p3)] [] (.c (.bool y)) []
theorem ek66 {R:Type} {c:C66} (hs:Sp66 c):EOk 66 (e66 (R:=R) c):=qag fun v=>hs v.1 v.2.1 v.2.2.1 v.2.2.2.1
theorem sf66 {c67:C67} {c64:C64} {c65:C65} {c58:C58} (h67:Sp67 c67) (h64:Sp64 c64) (h65:Sp65 c65) (h58:Sp58 c58):Sp66 (F66 c67 c64 c65 c58):=fun p0 p1 p2 p3 y hy=>by
 refine qad (qaa (ek67 h67) (qaa (ek64 h64) (qaa (ek65 h65) (qaa (ek58 h58) qac)))) 1000000 (fn:=Try.f66) (by kernel_rfl) (by kernel_rfl) (X:=X66) (by kernel_rfl) ?_
 rw [eq66]
 exact (nt66 Ops.std c67 c64 c65 c58 p0 p1 p2 p3 _ _ some (K2 k0) (rr66 c67 c64 c65 c58 p0 p1 p2 p3 k0 1000000) none).trans (by show ob (F66 c67 c64 c65 c58 p0 p1 p2 p3) _=_;rw [hy];rfl)
noncomputable def M66:C66:=F66 M67 M64 M65 M58
theorem sm66:Sp66 M66:=sf66 sm67 sm64 sm65 sm58
end Go.Proofs.Ytimcngbieedlcaa.Av
