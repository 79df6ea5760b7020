/- Twins of functions,printed by gen.py. Conditions: none. -/
import Derived.Test.YtfdlgmbbflmbgaaDoorCl1
import Derived.KernelRfl
set_option linter.unusedSimpArgs false
set_option linter.unusedVariables false
set_option maxRecDepth 100000
set_option maxHeartbeats 8000000
namespace Go.Proofs.YtfdlgmbbflmbgaaDoor.Av
open Go
abbrev LB:=List UInt8
abbrev rg:=List.range'
abbrev L3:=List ty3.den
abbrev L4:=List ty4.den
abbrev L9:=List ty9.den
abbrev L22:=List ty22.den
abbrev L30:=List ty30.den
abbrev L55:=List ty55.den
abbrev L82:=List ty82.den
abbrev L85:=List ty85.den
abbrev L91:=List ty91.den
abbrev L93:=List ty93.den
abbrev L100:=List ty100.den
abbrev L138:=List ty138.den
abbrev L140:=List ty140.den
abbrev L167:=List ty167.den
abbrev oE {R:Type} (l:List AV) (o:Objs) (x:Option R):Option R:=oNil l <| oNilO o <| x
theorem qam {R:Type} {l:List AV} {o:Objs} {x:Option R} {r:R} (h:oE l o x=some r):l=[]∧o=[]∧x=some r:=by
 obtain ⟨rfl,q1⟩:=qa3 h
 obtain ⟨rfl,q2⟩:=qa0 q1
 exact ⟨rfl,rfl,q2⟩
abbrev oL {R:Type} (l:List AV) (n:Nat) (t:Ty) (f:List t.den→List AV→Option R):Option R:=oCons l fun a l=>oC a fun x=>cList n t x fun p=>f p l
theorem qaw {R:Type} {l:List AV} {n:Nat} {t:Ty} {f:List t.den→List AV→Option R} {r:R} (h:oL l n t f=some r):∃ p l',l=.c (.list n t p)::l'∧f p l'=some r:=by
 obtain ⟨a,l',rfl,q1⟩:=qal h
 obtain ⟨x,rfl,q2⟩:=qa6 q1
 obtain ⟨p,rfl,q3⟩:=qad q2
 exact ⟨p,l',rfl,q3⟩
abbrev oI {R:Type} (l:List AV) (n:IntKind) (f:Int→List AV→Option R):Option R:=oCons l fun a l=>oC a fun x=>cInt n x fun p=>f p l
theorem qau {R:Type} {l:List AV} {n:IntKind} {f:Int→List AV→Option R} {r:R} (h:oI l n f=some r):∃ p l',l=.c (.int n p)::l'∧f p l'=some r:=by
 obtain ⟨a,l',rfl,q1⟩:=qal h
 obtain ⟨x,rfl,q2⟩:=qa6 q1
 obtain ⟨p,rfl,q3⟩:=qaq q2
 exact ⟨p,l',rfl,q3⟩
abbrev oS {R:Type} (l:List AV) (f:LB→List AV→Option R):Option R:=oCons l fun a l=>oC a fun x=>cStr x fun p=>f p l
theorem qa8 {R:Type} {l:List AV} {f:LB→List AV→Option R} {r:R} (h:oS l f=some r):∃ p l',l=.c (.str p)::l'∧f p l'=some r:=by
 obtain ⟨a,l',rfl,q1⟩:=qal h
 obtain ⟨x,rfl,q2⟩:=qa6 q1
 obtain ⟨p,rfl,q3⟩:=qa9 q2
 exact ⟨p,l',rfl,q3⟩
def X62:Aux:=⟨[],[]⟩
def T62 {R:Type} (B:Ops) (p0:Int) (k:(Bool)→Option R):Option R:=cond (B.le (48) p0) (k (B.le p0 (57))) (k false)
abbrev K1 {R:Type} (k:AV→Objs→Option R) (y:(Bool)):Option R:=k (.c (.bool y)) []
theorem eq62 {R:Type} (B:Ops) (p0:Int) (k:AV→Objs→Option R) (n:Nat):afun tau B gl0 X62 gnil ow Tryd.f62 [.c (.int .u8 p0)] [] k n=T62 B p0 (K1 k):=by kernel_rfl
theorem nt62 {R R':Type} (B:Ops) (p0:Int) (k0:(Bool)→Option R') (k:R'→Option R):T62 B p0 (fun y=>ob (k0 y) k)=ob (T62 B p0 k0) k:=by
 unfold T62
 repeat' first | exact rfl | apply qaf | (apply qao;intro)
def F62 (p0:Int):Option (Bool):=T62 Ops.std p0 some
def e62 {R:Type} (c:Int→Option (Bool)):Ent R:=fun args objs k=>
 oI args .u8 fun p0 l0=>oE l0 objs <| ob (c p0) (K1 k)
abbrev Sp62 (c:Int→Option (Bool)):Prop:=∀ (p0:Int) (y:Bool),c p0=some y→Spec Tryd.prog gl0 62 [.c (.int .u8 p0)] [] (.c (.bool y)) []
theorem ek62 {R:Type} {c:Int→Option (Bool)} (hs:Sp62 c):EOk 62 (e62 (R:=R) c):=fun args objs k r h=>by
 unfold e62 at h
 obtain ⟨p0,l0,rfl,q3⟩:=qau h
 obtain ⟨rfl,rfl,q5⟩:=qam q3
 exact qap (hs p0) q5
theorem sf62:Sp62 (F62):=fun p0 y hy=>by
 refine qaj qai 1000000 (fn:=Tryd.f62) (by kernel_rfl) (by kernel_rfl) (X:=X62) (by kernel_rfl) ?_
 rw [eq62]
 exact (nt62 Ops.std p0 some (K1 k0)).trans (by show ob (F62 p0) _=_;rw [hy];rfl)
noncomputable def M62:Int→Option (Bool):=F62
theorem sm62:Sp62 M62:=sf62
def X34:Aux:=⟨[],[]⟩
def T34 {R:Type} (B:Ops) (p0:Int) (k:(Bool)→Option R):Option R:=cond (B.le (97) p0) (cond (B.le p0 (122)) (k true) (k (B.eq p0 (95)))) (k (B.eq p0 (95)))
theorem eq34 {R:Type} (B:Ops) (p0:Int) (k:AV→Objs→Option R) (n:Nat):afun tau B gl0 X34 gnil ow Tryd.f34 [.c (.int .u8 p0)] [] k n=T34 B p0 (K1 k):=by kernel_rfl
theorem nt34 {R R':Type} (B:Ops) (p0:Int) (k0:(Bool)→Option R') (k:R'→Option R):T34 B p0 (fun y=>ob (k0 y) k)=ob (T34 B p0 k0) k:=by
 unfold T34
 repeat' first | exact rfl | apply qaf | (apply qao;intro)
def F34 (p0:Int):Option (Bool):=T34 Ops.std p0 some
def e34 {R:Type} (c:Int→Option (Bool)):Ent R:=fun args objs k=>
 oI args .u8 fun p0 l0=>oE l0 objs <| ob (c p0) (K1 k)
abbrev Sp34 (c:Int→Option (Bool)):Prop:=∀ (p0:Int) (y:Bool),c p0=some y→Spec Tryd.prog gl0 34 [.c (.int .u8 p0)] [] (.c (.bool y)) []
theorem ek34 {R:Type} {c:Int→Option (Bool)} (hs:Sp34 c):EOk 34 (e34 (R:=R) c):=fun args objs k r h=>by
 unfold e34 at h
 obtain ⟨p0,l0,rfl,q3⟩:=qau h
 obtain ⟨rfl,rfl,q5⟩:=qam q3
 exact qap (hs p0) q5
theorem sf34:Sp34 (F34):=fun p0 y hy=>by
 refine qaj qai 1000000 (fn:=Tryd.f34) (by kernel_rfl) (by kernel_rfl) (X:=X34) (by kernel_rfl) ?_
 rw [eq34]
 exact (nt34 Ops.std p0 some (K1 k0)).trans (by show ob (F34 p0) _=_;rw [hy];rfl)
noncomputable def M34:Int→Option (Bool):=F34
theorem sm34:Sp34 M34:=sf34
def X36:Aux:=⟨[],[]⟩
abbrev C34:Type:=Int→Option (Bool)
abbrev C62:Type:=Int→Option (Bool)
def T36 {R:Type} (B:Ops) (c34:C34) (c62:C62) (p0:Int) (k:(Bool)→Option R):Option R:=ob (c34 p0) fun y0=>cond (y0) (k true) (ob (c62 p0) fun y1=>k y1)
theorem eq36 {R:Type} (B:Ops) (c34:C34) (c62:C62) (p0:Int) (k:AV→Objs→Option R) (n:Nat):afun tau B gl0 X36 (ent 34 (e34 c34) (ent 62 (e62 c62) gnil)) ow Tryd.f36 [.c (.int .u8 p0)] [] k n=T36 B c34 c62 p0 (K1 k):=by kernel_rfl
theorem nt36 {R R':Type} (B:Ops) (c34:C34) (c62:C62) (p0:Int) (k0:(Bool)→Option R') (k:R'→Option R):T36 B c34 c62 p0 (fun y=>ob (k0 y) k)=ob (T36 B c34 c62 p0 k0) k:=by
 unfold T36
 repeat' first | exact rfl | apply qaf | (apply qao;intro)
def F36 (c34:C34) (c62:C62) (p0:Int):Option (Bool):=T36 Ops.std c34 c62 p0 some
def e36 {R:Type} (c:Int→Option (Bool)):Ent R:=fun args objs k=>
 oI args .u8 fun p0 l0=>oE l0 objs <| ob (c p0) (K1 k)
abbrev Sp36 (c:Int→Option (Bool)):Prop:=∀ (p0:Int) (y:Bool),c p0=some y→Spec Tryd.prog gl0 36 [.c (.int .u8 p0)] [] (.c (.bool y)) []
theorem ek36 {R:Type} {c:Int→Option (Bool)} (hs:Sp36 c):EOk 36 (e36 (R:=R) c):=fun args objs k r h=>by
 unfold e36 at h
 obtain ⟨p0,l0,rfl,q3⟩:=qau h
 obtain ⟨rfl,rfl,q5⟩:=qam q3
 exact qap (hs p0) q5
theorem sf36 {c34:C34} {c62:C62} (h34:Sp34 c34) (h62:Sp62 c62):Sp36 (F36 c34 c62):=fun p0 y hy=>by
 refine qaj (qae (ek34 h34) (qae (ek62 h62) qai)) 1000000 (fn:=Tryd.f36) (by kernel_rfl) (by kernel_rfl) (X:=X36) (by kernel_rfl) ?_
 rw [eq36]
 exact (nt36 Ops.std c34 c62 p0 some (K1 k0)).trans (by show ob (F36 c34 c62 p0) _=_;rw [hy];rfl)
noncomputable def M36:Int→Option (Bool):=F36 M34 M62
theorem sm36:Sp36 M36:=sf36 sm34 sm62
def X35:Aux:=⟨[(2,([2,3,4]++rg 6 16))],[]⟩
inductive S35 where
 | l0 (v1:Int)
abbrev C36:Type:=Int→Option (Bool)
def T35 {R:Type} (B:Ops) (c36:C36) (p0:LB) (again:S35→Option R) (k:(LB)→Option R):Option S35→Option R | none=>again (.l0 0) | some (.l0 v1)=>cond (B.lt v1 (↑p0.length)) (cond (B.inb v1 p0.length) (ob (c36 (Nat.cast (UInt8.toNat (p0.getD v1.toNat (0))))) fun y0=>cond (y0) (again (.l0 (IntKind.wrap .i64 (v1+1)))) (cond (B.inb v1 (List.length p0+1)) (k (List.drop (0) (List.take v1.toNat p0))) none)) none) (cond (B.inb v1 (List.length p0+1)) (k (List.drop (0) (List.take v1.toNat p0))) none)
def E35 (p0:LB):S35→List AV×Objs
 | .l0 v1=>(mk 22 [(0,.c (.str p0)),(1,.fn 36 []),(5,.c (.int .i64 v1))],[])
def I35:S35→Nat
 | .l0 _=>0
abbrev K2 {R:Type} (k:AV→Objs→Option R) (y:(LB)):Option R:=k (.c (.str y)) []
theorem eq35 {R:Type} (B:Ops) (c36:C36) (p0:LB) (k:AV→Objs→Option R) (n:Nat):afun tau B gl0 X35 (ent 36 (e36 c36) gnil) ow Tryd.f35 [.c (.str p0),.fn 36 []] [] k n=T35 B c36 p0 (fun s=>aloop tau B gl0 X35 (ent 36 (e36 c36) gnil) ow [] Tryd.f35 k (I35 s) (E35 p0 s) n) (K2 k) none:=by kernel_rfl
theorem el35 {R:Type} (B:Ops) (c36:C36) (p0:LB) (k:AV→Objs→Option R) (n:Nat):∀ s,aloop tau B gl0 X35 (ent 36 (e36 c36) gnil) ow [] Tryd.f35 k (I35 s) (E35 p0 s) (n+1)=T35 B c36 p0 (fun s=>aloop tau B gl0 X35 (ent 36 (e36 c36) gnil) ow [] Tryd.f35 k (I35 s) (E35 p0 s) n) (K2 k) (some s):=by
 intro s
 cases s<;>kernel_rfl
theorem nt35 {R R':Type} (B:Ops) (c36:C36) (p0:LB) (again:S35→Option R) (again':S35→Option R') (k0:(LB)→Option R') (k:R'→Option R) (h:∀ s,again s=ob (again' s) k):∀ s,T35 B c36 p0 again (fun y=>ob (k0 y) k) s=ob (T35 B c36 p0 again' k0 s) k:=by
 rintro (_ | x)
 all_goals try cases x
 all_goals (unfold T35;repeat' first | exact rfl | exact h _ | apply qaf | (apply qao;intro))
def R35 (c36:C36) (p0:LB):Nat→S35→Option (LB)
 | 0,_=>none
 | n+1,s=>T35 Ops.std c36 p0 (R35 c36 p0 n) some (some s)
theorem rr35 {R:Type} (c36:C36) (p0:LB) (k:AV→Objs→Option R):∀ (n:Nat) (s:S35),aloop tau Ops.std gl0 X35 (ent 36 (e36 c36) gnil) ow [] Tryd.f35 k (I35 s) (E35 p0 s) n=ob (R35 c36 p0 n s) (K2 k)
 | 0,s=>by cases s<;>rfl
 | n+1,s=>by rw [el35];exact nt35 Ops.std c36 p0 _ _ some (K2 k) (rr35 c36 p0 k n) (some s)
def F35 (c36:C36) (p0:LB):Option (LB):=T35 Ops.std c36 p0 (R35 c36 p0 1000000) some none
def e35 {R:Type} (c:LB→Option (LB)):Ent R:=fun args objs k=>
 oS args fun p0 l0=>oCons l0 fun a1 l1=>oFn 36 a1 <| oE l1 objs <| ob (c p0) (K2 k)
abbrev Sp35 (c:LB→Option (LB)):Prop:=∀ (p0:LB) (y:LB),c p0=some y→Spec Tryd.prog gl0 35 [.c (.str p0),.fn 36 []] [] (.c (.str y)) []
theorem ek35 {R:Type} {c:LB→Option (LB)} (hs:Sp35 c):EOk 35 (e35 (R:=R) c):=fun args objs k r h=>by
 unfold e35 at h
 obtain ⟨p0,l0,rfl,q3⟩:=qa8 h
 obtain ⟨a1,l1,rfl,q4⟩:=qal q3
 obtain ⟨rfl,q5⟩:=oFn_some q4
 obtain ⟨rfl,rfl,q7⟩:=qam q5
 exact qap (hs p0) q7
theorem sf35 {c36:C36} (h36:Sp36 c36):Sp35 (F35 c36):=fun p0 y hy=>by
 refine qaj (qae (ek36 h36) qai) 1000000 (fn:=Tryd.f35) (by kernel_rfl) (by kernel_rfl) (X:=X35) (by kernel_rfl) ?_
 rw [eq35]
 exact (nt35 Ops.std c36 p0 _ _ some (K2 k0) (rr35 c36 p0 k0 1000000) none).trans (by show ob (F35 c36 p0) _=_;rw [hy];rfl)
noncomputable def M35:LB→Option (LB):=F35 M36
theorem sm35:Sp35 M35:=sf35 sm36
def X139:Aux:=⟨[(2,([2,3,4]++rg 6 16))],[]⟩
inductive S139 where
 | l0 (v1:Int)
def T139 {R:Type} (B:Ops) (c62:C62) (p0:LB) (again:S139→Option R) (k:(LB)→Option R):Option S139→Option R | none=>again (.l0 0) | some (.l0 v1)=>cond (B.lt v1 (↑p0.length)) (cond (B.inb v1 p0.length) (ob (c62 (Nat.cast (UInt8.toNat (p0.getD v1.toNat (0))))) fun y0=>cond (y0) (again (.l0 (IntKind.wrap .i64 (v1+1)))) (cond (B.inb v1 (List.length p0+1)) (k (List.drop (0) (List.take v1.toNat p0))) none)) none) (cond (B.inb v1 (List.length p0+1)) (k (List.drop (0) (List.take v1.toNat p0))) none)
def E139 (p0:LB):S139→List AV×Objs
 | .l0 v1=>(mk 22 [(0,.c (.str p0)),(1,.fn 62 []),(5,.c (.int .i64 v1))],[])
def I139:S139→Nat
 | .l0 _=>0
theorem eq139 {R:Type} (B:Ops) (c62:C62) (p0:LB) (k:AV→Objs→Option R) (n:Nat):afun tau B gl0 X139 (ent 62 (e62 c62) gnil) ow Tryd.f35 [.c (.str p0),.fn 62 []] [] k n=T139 B c62 p0 (fun s=>aloop tau B gl0 X139 (ent 62 (e62 c62) gnil) ow [] Tryd.f35 k (I139 s) (E139 p0 s) n) (K2 k) none:=by kernel_rfl
theorem el139 {R:Type} (B:Ops) (c62:C62) (p0:LB) (k:AV→Objs→Option R) (n:Nat):∀ s,aloop tau B gl0 X139 (ent 62 (e62 c62) gnil) ow [] Tryd.f35 k (I139 s) (E139 p0 s) (n+1)=T139 B c62 p0 (fun s=>aloop tau B gl0 X139 (ent 62 (e62 c62) gnil) ow [] Tryd.f35 k (I139 s) (E139 p0 s) n) (K2 k) (some s):=by
 intro s
 cases s<;>kernel_rfl
theorem nt139 {R R':Type} (B:Ops) (c62:C62) (p0:LB) (again:S139→Option R) (again':S139→Option R') (k0:(LB)→Option R') (k:R'→Option R) (h:∀ s,again s=ob (again' s) k):∀ s,T139 B c62 p0 again (fun y=>ob (k0 y) k) s=ob (T139 B c62 p0 again' k0 s) k:=by
 rintro (_ | x)
 all_goals try cases x
 all_goals (unfold T139;repeat' first | exact rfl | exact h _ | apply qaf | (apply qao;intro))
def R139 (c62:C62) (p0:LB):Nat→S139→Option (LB)
 | 0,_=>none
 | n+1,s=>T139 Ops.std c62 p0 (R139 c62 p0 n) some (some s)
theorem rr139 {R:Type} (c62:C62) (p0:LB) (k:AV→Objs→Option R):∀ (n:Nat) (s:S139),aloop tau Ops.std gl0 X139 (ent 62 (e62 c62) gnil) ow [] Tryd.f35 k (I139 s) (E139 p0 s) n=ob (R139 c62 p0 n s) (K2 k)
 | 0,s=>by cases s<;>rfl
 | n+1,s=>by rw [el139];exact nt139 Ops.std c62 p0 _ _ some (K2 k) (rr139 c62 p0 k n) (some s)
def F139 (c62:C62) (p0:LB):Option (LB):=T139 Ops.std c62 p0 (R139 c62 p0 1000000) some none
def e139 {R:Type} (c:LB→Option (LB)):Ent R:=fun args objs k=>
 oS args fun p0 l0=>oCons l0 fun a1 l1=>oFn 62 a1 <| oE l1 objs <| ob (c p0) (K2 k)
abbrev Sp139 (c:LB→Option (LB)):Prop:=∀ (p0:LB) (y:LB),c p0=some y→Spec Tryd.prog gl0 35 [.c (.str p0),.fn 62 []] [] (.c (.str y)) []
theorem ek139 {R:Type} {c:LB→Option (LB)} (hs:Sp139 c):EOk 35 (e139 (R:=R) c):=fun args objs k r h=>by
 unfold e139 at h
 obtain ⟨p0,l0,rfl,q3⟩:=qa8 h
 obtain ⟨a1,l1,rfl,q4⟩:=qal q3
 obtain ⟨rfl,q5⟩:=oFn_some q4
 obtain ⟨rfl,rfl,q7⟩:=qam q5
 exact qap (hs p0) q7
theorem sf139 {c62:C62} (h62:Sp62 c62):Sp139 (F139 c62):=fun p0 y hy=>by
 refine qaj (qae (ek62 h62) qai) 1000000 (fn:=Tryd.f35) (by kernel_rfl) (by kernel_rfl) (X:=X139) (by kernel_rfl) ?_
 rw [eq139]
 exact (nt139 Ops.std c62 p0 _ _ some (K2 k0) (rr139 c62 p0 k0 1000000) none).trans (by show ob (F139 c62 p0) _=_;rw [hy];rfl)
noncomputable def M139:LB→Option (LB):=F139 M62
theorem sm139:Sp139 M139:=sf139 sm62
def X25:Aux:=⟨[],[]⟩
def T25 {R:Type} (B:Ops) (p0:Int) (p1:Int) (k:(Int)→Option R):Option R:=cond (B.eq p1 (0)) none (cond (B.lt (Int.tmod p0 p1) (0)) (k (IntKind.wrap .i64 (Int.tmod p0 p1+p1))) (k (Int.tmod p0 p1)))
abbrev K3 {R:Type} (k:AV→Objs→Option R) (y:(Int)):Option R:=k (.c (.int .i64 y)) []
theorem eq25 {R:Type} (B:Ops) (p0:Int) (p1:Int) (k:AV→Objs→Option R) (n:Nat):afun tau B gl0 X25 gnil ow Tryd.f25 [.c (.int .i64 p0),.c (.int .i64 p1)] [] k n=T25 B p0 p1 (K3 k):=by kernel_rfl
theorem nt25 {R R':Type} (B:Ops) (p0:Int) (p1:Int) (k0:(Int)→Option R') (k:R'→Option R):T25 B p0 p1 (fun y=>ob (k0 y) k)=ob (T25 B p0 p1 k0) k:=by
 unfold T25
 repeat' first | exact rfl | apply qaf | (apply qao;intro)
def F25 (p0:Int) (p1:Int):Option (Int):=T25 Ops.std p0 p1 some
def e25 {R:Type} (c:Int→Int→Option (Int)):Ent R:=fun args objs k=>
 oI args .i64 fun p0 l0=>oI l0 .i64 fun p1 l1=>oE l1 objs <| ob (c p0 p1) (K3 k)
abbrev Sp25 (c:Int→Int→Option (Int)):Prop:=∀ (p0:Int) (p1:Int) (y:Int),c p0 p1=some y→Spec Tryd.prog gl0 25 [.c (.int .i64 p0),.c (.int .i64 p1)] [] (.c (.int .i64 y)) []
theorem ek25 {R:Type} {c:Int→Int→Option (Int)} (hs:Sp25 c):EOk 25 (e25 (R:=R) c):=fun args objs k r h=>by
 unfold e25 at h
 obtain ⟨p0,l0,rfl,q3⟩:=qau h
 obtain ⟨p1,l1,rfl,q6⟩:=qau q3
 obtain ⟨rfl,rfl,q8⟩:=qam q6
 exact qap (hs p0 p1) q8
theorem sf25:Sp25 (F25):=fun p0 p1 y hy=>by
 refine qaj qai 1000000 (fn:=Tryd.f25) (by kernel_rfl) (by kernel_rfl) (X:=X25) (by kernel_rfl) ?_
 rw [eq25]
 exact (nt25 Ops.std p0 p1 some (K3 k0)).trans (by show ob (F25 p0 p1) _=_;rw [hy];rfl)
noncomputable def M25:Int→Int→Option (Int):=F25
theorem sm25:Sp25 M25:=sf25
def X58:Aux:=⟨[],[(4,.lin (rg 0 31))]⟩
abbrev C25:Type:=Int→Int→Option (Int)
def T58 {R:Type} (B:Ops) (c25:C25) (p0:Int) (p1:L3) (p2:Int) (k:(Int×L3×Int)→Option R):Option R:=cond (B.eq (↑p1.length) (0)) (k ((0,p1,p2))) (cond (B.eq (↑p1.length) (0)) none (cond (B.inb (Int.tmod (IntKind.wrap .i64 (p2+1)) (↑p1.length)) p1.length) (cond (B.eq (↑p1.length) (0)) none (cond (B.eq (IntKind.wrap .i64 (1+IntKind.wrap .i64 (Int.tdiv (IntKind.wrap .i64 (p2+1)) (↑p1.length)))) (0)) none (ob (c25 (IntKind.wrap .i64 (Int.tdiv (p1.getD (Int.toNat (Int.tmod (IntKind.wrap .i64 (p2+1)) (↑p1.length))) ty3.dflt) (IntKind.wrap .i64 (1+IntKind.wrap .i64 (Int.tdiv (IntKind.wrap .i64 (p2+1)) (↑p1.length)))))) p0) fun y0=>k ((y0,p1,IntKind.wrap .i64 (p2+1)))))) none))
abbrev K4 {R:Type} (k:AV→Objs→Option R) (y:(Int×L3×Int)):Option R:=k (.c (.int .i64 y.1)) [(0,.box 78 [.list 3 ty3 y.2.1,.int .i64 y.2.2])]
theorem eq58 {R:Type} (B:Ops) (c25:C25) (p0:Int) (p1:L3) (p2:Int) (k:AV→Objs→Option R) (n:Nat):afun tau B gl0 X58 (ent 25 (e25 c25) gnil) ow Tryd.f58 [.c (.ptr 0 0),.c (.int .i64 p0)] [(0,.box 78 [.list 3 ty3 p1,.int .i64 p2])] k n=T58 B c25 p0 p1 p2 (K4 k):=by kernel_rfl
theorem nt58 {R R':Type} (B:Ops) (c25:C25) (p0:Int) (p1:L3) (p2:Int) (k0:(Int×L3×Int)→Option R') (k:R'→Option R):T58 B c25 p0 p1 p2 (fun y=>ob (k0 y) k)=ob (T58 B c25 p0 p1 p2 k0) k:=by
 unfold T58
 repeat' first | exact rfl | apply qaf | (apply qao;intro)
def F58 (c25:C25) (p0:Int) (p1:L3) (p2:Int):Option (Int×L3×Int):=T58 Ops.std c25 p0 p1 p2 some
def e58 {R:Type} (c:Int→L3→Int→Option (Int×L3×Int)):Ent R:=fun args objs k=>
 oCons args fun a0 l0=>oC a0 fun x0=>cPtr 0 x0 <| oI l0 .i64 fun p0 l1=>oNil l1 <| oBox 0 78 objs fun b0 o0=>cCons b0 fun u0_0 v0=>cList 3 ty3 u0_0 fun p1=>cCons v0 fun u0_1 v1=>cInt .i64 u0_1 fun p2=>cNil v1 <| oNilO o0 <| ob (c p0 p1 p2) (K4 k)
abbrev Sp58 (c:Int→L3→Int→Option (Int×L3×Int)):Prop:=∀ (p0:Int) (p1:L3) (p2:Int) (y:Int×L3×Int),c p0 p1 p2=some y→Spec Tryd.prog gl0 58 [.c (.ptr 0 0),.c (.int .i64 p0)] [(0,.box 78 [.list 3 ty3 p1,.int .i64 p2])] (.c (.int .i64 y.1)) [(0,.box 78 [.list 3 ty3 y.2.1,.int .i64 y.2.2])]
theorem ek58 {R:Type} {c:Int→L3→Int→Option (Int×L3×Int)} (hs:Sp58 c):EOk 58 (e58 (R:=R) c):=fun args objs k r h=>by
 unfold e58 at h
 obtain ⟨a0,l0,rfl,q1⟩:=qal h
 obtain ⟨x0,rfl,q2⟩:=qa6 q1
 obtain ⟨rfl,q3⟩:=qa5 q2
 obtain ⟨p0,l1,rfl,q6⟩:=qau q3
 obtain ⟨rfl,q7⟩:=qa3 q6
 obtain ⟨b0,o0,rfl,q8⟩:=qa7 q7
 obtain ⟨u0_0,v0,rfl,q9⟩:=qab q8
 obtain ⟨p1,rfl,q10⟩:=qad q9
 obtain ⟨u0_1,v1,rfl,q11⟩:=qab q10
 obtain ⟨p2,rfl,q12⟩:=qaq q11
 obtain ⟨rfl,q13⟩:=qar q12
 obtain ⟨rfl,q14⟩:=qa0 q13
 exact qap (hs p0 p1 p2) q14
theorem sf58 {c25:C25} (h25:Sp25 c25):Sp58 (F58 c25):=fun p0 p1 p2 y hy=>by
 refine qaj (qae (ek25 h25) qai) 1000000 (fn:=Tryd.f58) (by kernel_rfl) (by kernel_rfl) (X:=X58) (by kernel_rfl) ?_
 rw [eq58]
 exact (nt58 Ops.std c25 p0 p1 p2 some (K4 k0)).trans (by show ob (F58 c25 p0 p1 p2) _=_;rw [hy];rfl)
noncomputable def M58:Int→L3→Int→Option (Int×L3×Int):=F58 M25
theorem sm58:Sp58 M58:=sf58 sm25
abbrev K5 {R:Type} (k:AV→Objs→Option R) (y:(LB×L3×Int)):Option R:=k (.c (.str y.1)) [(0,.box 78 [.list 3 ty3 y.2.1,.int .i64 y.2.2])]
def e43 {R:Type} (c:Int→L3→Int→Option (LB×L3×Int)):Ent R:=fun args objs k=>
 oCons args fun a0 l0=>oC a0 fun x0=>cPtr 0 x0 <| oI l0 .i64 fun p0 l1=>oNil l1 <| oBox 0 78 objs fun b0 o0=>cCons b0 fun u0_0 v0=>cList 3 ty3 u0_0 fun p1=>cCons v0 fun u0_1 v1=>cInt .i64 u0_1 fun p2=>cNil v1 <| oNilO o0 <| ob (c p0 p1 p2) (K5 k)
abbrev Sp43 (c:Int→L3→Int→Option (LB×L3×Int)):Prop:=∀ (p0:Int) (p1:L3) (p2:Int) (y:LB×L3×Int),c p0 p1 p2=some y→Spec Tryd.prog gl0 43 [.c (.ptr 0 0),.c (.int .i64 p0)] [(0,.box 78 [.list 3 ty3 p1,.int .i64 p2])] (.c (.str y.1)) [(0,.box 78 [.list 3 ty3 y.2.1,.int .i64 y.2.2])]
theorem ek43 {R:Type} {c:Int→L3→Int→Option (LB×L3×Int)} (hs:Sp43 c):EOk 43 (e43 (R:=R) c):=fun args objs k r h=>by
 unfold e43 at h
 obtain ⟨a0,l0,rfl,q1⟩:=qal h
 obtain ⟨x0,rfl,q2⟩:=qa6 q1
 obtain ⟨rfl,q3⟩:=qa5 q2
 obtain ⟨p0,l1,rfl,q6⟩:=qau q3
 obtain ⟨rfl,q7⟩:=qa3 q6
 obtain ⟨b0,o0,rfl,q8⟩:=qa7 q7
 obtain ⟨u0_0,v0,rfl,q9⟩:=qab q8
 obtain ⟨p1,rfl,q10⟩:=qad q9
 obtain ⟨u0_1,v1,rfl,q11⟩:=qab q10
 obtain ⟨p2,rfl,q12⟩:=qaq q11
 obtain ⟨rfl,q13⟩:=qar q12
 obtain ⟨rfl,q14⟩:=qa0 q13
 exact qap (hs p0 p1 p2) q14
def X43:Aux:=⟨[(1000004,([2,3,4]++rg 6 105))],[(11,.lin ([0,1,2,5,6,10,11,12,3,4,7,8,9,13,14,15,16])),(13,.lin ([0,1,2,5,6,10,11,12,3,4,7,8,9,13,14,15,16]))]⟩
inductive S43 where
 | l1004 (v1:Int) (v2:L3) (v3:Int)
abbrev C58:Type:=Int→L3→Int→Option (Int×L3×Int)
abbrev C43:Type:=Int→L3→Int→Option (LB×L3×Int)
def T43 {R:Type} (B:Ops) (c58:C58) (c43:C43) (p0:Int) (p1:L3) (p2:Int) (again:S43→Option R) (k:(LB×L3×Int)→Option R):Option S43→Option R | none=>ob (c58 (22) p1 p2) fun y0=>cond (B.lt (2) p0) (cond (B.eq (4) (0)) none (again (.l1004 (IntKind.wrap .i64 (18+Int.tmod y0.1 (4))) y0.2.1 y0.2.2))) (cond (B.lt (9) y0.2.2) (cond (B.eq (4) (0)) none (again (.l1004 (IntKind.wrap .i64 (18+Int.tmod y0.1 (4))) y0.2.1 y0.2.2))) (again (.l1004 y0.1 y0.2.1 y0.2.2))) | some (.l1004 v1 v2 v3)=>cond (B.lt v1 (3)) (ob (c43 (IntKind.wrap .i64 (p0+1)) v2 v3) fun y0=>cond (B.lim (3+List.length y0.1) (1)) (cond (B.lim (List.length (([71,32,40]:LB)++y0.1)+1) (1)) (k ((([71,32,40]:LB)++y0.1++([41]:LB),y0.2.1,y0.2.2))) none) none) (cond (B.lt v1 (6)) (ob (c43 (IntKind.wrap .i64 (p0+1)) v2 v3) fun y0=>cond (B.lim (3+List.length y0.1) (1)) (cond (B.lim (List.length (([70,32,40]:LB)++y0.1)+1) (1)) (k ((([70,32,40]:LB)++y0.1++([41]:LB),y0.2.1,y0.2.2))) none) none) (cond (B.lt v1 (8)) (ob (c43 (IntKind.wrap .i64 (p0+1)) v2 v3) fun y0=>cond (B.lim (2+List.length y0.1) (1)) (k ((([88,32]:LB)++y0.1,y0.2.1,y0.2.2))) none) (cond (B.lt v1 (11)) (ob (c43 (IntKind.wrap .i64 (p0+1)) v2 v3) fun y0=>cond (B.lim (1+List.length y0.1) (1)) (ob (c58 (2) y0.2.1 y0.2.2) fun y1=>cond (B.inb y1.1 (2)) (cond (B.lim (List.length (([40]:LB)++y0.1)+List.length (List.getD (([32,85,32]:LB)::([32,82,32]:LB)::mt LB) (Int.toNat y1.1) (mt UInt8))) (1)) (ob (c43 (IntKind.wrap .i64 (p0+1)) y1.2.1 y1.2.2) fun y2=>cond (B.lim (List.length (([40]:LB)++y0.1++List.getD (([32,85,32]:LB)::([32,82,32]:LB)::mt LB) (Int.toNat y1.1) (mt UInt8))+List.length y2.1) (1)) (cond (B.lim (List.length (([40]:LB)++y0.1++List.getD (([32,85,32]:LB)::([32,82,32]:LB)::mt LB) (Int.toNat y1.1) (mt UInt8)++y2.1)+1) (1)) (k ((([40]:LB)++y0.1++List.getD (([32,85,32]:LB)::([32,82,32]:LB)::mt LB) (Int.toNat y1.1) (mt UInt8)++y2.1++([41]:LB),y2.2.1,y2.2.2))) none) none) none) none) none) (cond (B.lt v1 (15)) (ob (c43 (IntKind.wrap .i64 (p0+1)) v2 v3) fun y0=>cond (B.lim (1+List.length y0.1) (1)) (ob (c58 (3) y0.2.1 y0.2.2) fun y1=>cond (B.inb y1.1 (3)) (cond (B.lim (List.length (([40]:LB)++y0.1)+List.length (List.getD (([32,38,38,32]:LB)::([32,124,124,32]:LB)::([32,45,62,32]:LB)::mt LB) (Int.toNat y1.1) (mt UInt8))) (1)) (ob (c43 (IntKind.wrap .i64 (p0+1)) y1.2.1 y1.2.2) fun y2=>cond (B.lim (List.length (([40]:LB)++y0.1++List.getD (([32,38,38,32]:LB)::([32,124,124,32]:LB)::([32,45,62,32]:LB)::mt LB) (Int.toNat y1.1) (mt UInt8))+List.length y2.1) (1)) (cond (B.lim (List.length (([40]:LB)++y0.1++List.getD (([32,38,38,32]:LB)::([32,124,124,32]:LB)::([32,45,62,32]:LB)::mt LB) (Int.toNat y1.1) (mt UInt8)++y2.1)+1) (1)) (k ((([40]:LB)++y0.1++List.getD (([32,38,38,32]:LB)::([32,124,124,32]:LB)::([32,45,62,32]:LB)::mt LB) (Int.toNat y1.1) (mt UInt8)++y2.1++([41]:LB),y2.2.1,y2.2.2))) none) none) none) none) none) (cond (B.lt v1 (17)) (ob (c43 (IntKind.wrap .i64 (p0+1)) v2 v3) fun y0=>cond (B.lim (1+List.length y0.1) (1)) (k ((([33]:LB)++y0.1,y0.2.1,y0.2.2))) none) (cond (B.eq v1 (17)) (ob (c43 (IntKind.wrap .i64 (p0+1)) v2 v3) fun y0=>cond (B.lim (4+List.length y0.1) (1)) (k ((([71,32,70,32]:LB)++y0.1,y0.2.1,y0.2.2))) none) (cond (B.eq v1 (18)) (ob (c58 (2) v2 v3) fun y0=>cond (B.inb y0.1 (2)) (k ((List.getD (([116,114,117,101]:LB)::([102,97,108,115,101]:LB)::mt LB) (Int.toNat y0.1) (mt UInt8),y0.2.1,y0.2.2))) none) (ob (c58 (6) v2 v3) fun y0=>cond (B.inb y0.1 (6)) (k ((List.getD (([91,120,61,61,49,93]:LB)::([91,112,64,97,93]:LB)::([91,121,60,49,93]:LB)::([91,113,64,98,38,38,120,62,48,93]:LB)::([91,120,61,61,121,93]:LB)::([91,112,64,98,93]:LB)::mt LB) (Int.toNat y0.1) (mt UInt8),y0.2.1,y0.2.2))) none))))))))
def E43 (p0:Int) (p1:L3) (p2:Int):S43→List AV×Objs
 | .l1004 v1 v2 v3=>(mk 111 [(0,.c (.ptr 0 0)),(1,.c (.int .i64 p0)),(5,.c (.int .i64 v1))],[(0,.box 78 [.list 3 ty3 v2,.int .i64 v3])])
def I43:S43→Nat
 | .l1004 _ _ _=>1004
theorem eq43 {R:Type} (B:Ops) (c58:C58) (c43:C43) (p0:Int) (p1:L3) (p2:Int) (k:AV→Objs→Option R) (n:Nat):afun tau B gl0 X43 (ent 58 (e58 c58) (ent 43 (e43 c43) gnil)) ow Tryd.f43 [.c (.ptr 0 0),.c (.int .i64 p0)] [(0,.box 78 [.list 3 ty3 p1,.int .i64 p2])] k n=T43 B c58 c43 p0 p1 p2 (fun s=>aloop tau B gl0 X43 (ent 58 (e58 c58) (ent 43 (e43 c43) gnil)) ow [0] Tryd.f43 k (I43 s) (E43 p0 p1 p2 s) n) (K5 k) none:=by kernel_rfl
theorem el43 {R:Type} (B:Ops) (c58:C58) (c43:C43) (p0:Int) (p1:L3) (p2:Int) (k:AV→Objs→Option R) (n:Nat):∀ s,aloop tau B gl0 X43 (ent 58 (e58 c58) (ent 43 (e43 c43) gnil)) ow [0] Tryd.f43 k (I43 s) (E43 p0 p1 p2 s) (n+1)=T43 B c58 c43 p0 p1 p2 (fun s=>aloop tau B gl0 X43 (ent 58 (e58 c58) (ent 43 (e43 c43) gnil)) ow [0] Tryd.f43 k (I43 s) (E43 p0 p1 p2 s) n) (K5 k) (some s):=by
 intro s
 cases s<;>kernel_rfl
theorem nt43 {R R':Type} (B:Ops) (c58:C58) (c43:C43) (p0:Int) (p1:L3) (p2:Int) (again:S43→Option R) (again':S43→Option R') (k0:(LB×L3×Int)→Option R') (k:R'→Option R) (h:∀ s,again s=ob (again' s) k):∀ s,T43 B c58 c43 p0 p1 p2 again (fun y=>ob (k0 y) k) s=ob (T43 B c58 c43 p0 p1 p2 again' k0 s) k:=by
 rintro (_ | x)
 all_goals try cases x
 all_goals (unfold T43;repeat' first | exact rfl | exact h _ | apply qaf | (apply qao;intro))
def R43 (c58:C58) (c43:C43) (p0:Int) (p1:L3) (p2:Int):Nat→S43→Option (LB×L3×Int)
 | 0,_=>none
 | n+1,s=>T43 Ops.std c58 c43 p0 p1 p2 (R43 c58 c43 p0 p1 p2 n) some (some s)
theorem rr43 {R:Type} (c58:C58) (c43:C43) (p0:Int) (p1:L3) (p2:Int) (k:AV→Objs→Option R):∀ (n:Nat) (s:S43),aloop tau Ops.std gl0 X43 (ent 58 (e58 c58) (ent 43 (e43 c43) gnil)) ow [0] Tryd.f43 k (I43 s) (E43 p0 p1 p2 s) n=ob (R43 c58 c43 p0 p1 p2 n s) (K5 k)
 | 0,s=>by cases s<;>rfl
 | n+1,s=>by rw [el43];exact nt43 Ops.std c58 c43 p0 p1 p2 _ _ some (K5 k) (rr43 c58 c43 p0 p1 p2 k n) (some s)
def F43 (c58:C58) (c43:C43) (p0:Int) (p1:L3) (p2:Int):Option (LB×L3×Int):=T43 Ops.std c58 c43 p0 p1 p2 (R43 c58 c43 p0 p1 p2 1000000) some none
theorem sf43 {c58:C58} {c43:C43} (h58:Sp58 c58) (h43:Sp43 c43):Sp43 (F43 c58 c43):=fun p0 p1 p2 y hy=>by
 refine qaj (qae (ek58 h58) (qae (ek43 h43) qai)) 1000000 (fn:=Tryd.f43) (by kernel_rfl) (by kernel_rfl) (X:=X43) (by kernel_rfl) ?_
 rw [eq43]
 exact (nt43 Ops.std c58 c43 p0 p1 p2 _ _ some (K5 k0) (rr43 c58 c43 p0 p1 p2 k0 1000000) none).trans (by show ob (F43 c58 c43 p0 p1 p2) _=_;rw [hy];rfl)
noncomputable def Rec43:Nat→(Int→L3→Int→Option (LB×L3×Int))
 | 0=>fun _ _ _=>none
 | d+1=>F43 M58 (Rec43 d)
theorem rec43:∀ d,Sp43 (Rec43 d)
 | 0=>fun p0 p1 p2 y (h:(none:Option (LB×L3×Int))=some y)=>by cases h
 | d+1=>sf43 sm58 (rec43 d)
noncomputable def M43:Int→L3→Int→Option (LB×L3×Int):=(Rec43 1000000)
theorem sm43:Sp43 M43:=(rec43 1000000)
def X16:Aux:=⟨[],[]⟩
def T16 {R:Type} (B:Ops) (c43:C43) (p0:L3) (k:(LB)→Option R):Option R:=ob (c43 (0) p0 (0)) fun y0=>k y0.1
theorem eq16 {R:Type} (B:Ops) (c43:C43) (p0:L3) (k:AV→Objs→Option R) (n:Nat):afun tau B gl0 X16 (ent 43 (e43 c43) gnil) ow Tryd.f16 [.c (.list 3 ty3 p0)] [] k n=T16 B c43 p0 (K2 k):=by kernel_rfl
theorem nt16 {R R':Type} (B:Ops) (c43:C43) (p0:L3) (k0:(LB)→Option R') (k:R'→Option R):T16 B c43 p0 (fun y=>ob (k0 y) k)=ob (T16 B c43 p0 k0) k:=by
 unfold T16
 repeat' first | exact rfl | apply qaf | (apply qao;intro)
def F16 (c43:C43) (p0:L3):Option (LB):=T16 Ops.std c43 p0 some
def e16 {R:Type} (c:L3→Option (LB)):Ent R:=fun args objs k=>
 oL args 3 ty3 fun p0 l0=>oE l0 objs <| ob (c p0) (K2 k)
abbrev Sp16 (c:L3→Option (LB)):Prop:=∀ (p0:L3) (y:LB),c p0=some y→Spec Tryd.prog gl0 16 [.c (.list 3 ty3 p0)] [] (.c (.str y)) []
theorem ek16 {R:Type} {c:L3→Option (LB)} (hs:Sp16 c):EOk 16 (e16 (R:=R) c):=fun args objs k r h=>by
 unfold e16 at h
 obtain ⟨p0,l0,rfl,q3⟩:=qaw h
 obtain ⟨rfl,rfl,q5⟩:=qam q3
 exact qap (hs p0) q5
theorem sf16 {c43:C43} (h43:Sp43 c43):Sp16 (F16 c43):=fun p0 y hy=>by
 refine qaj (qae (ek43 h43) qai) 1000000 (fn:=Tryd.f16) (by kernel_rfl) (by kernel_rfl) (X:=X16) (by kernel_rfl) ?_
 rw [eq16]
 exact (nt16 Ops.std c43 p0 some (K2 k0)).trans (by show ob (F16 c43 p0) _=_;rw [hy];rfl)
noncomputable def M16:L3→Option (LB):=F16 M43
theorem sm16:Sp16 M16:=sf16 sm43
def e57 {R:Type} (c:Int→L3→Int→Option (LB×L3×Int)):Ent R:=fun args objs k=>
 oCons args fun a0 l0=>oC a0 fun x0=>cPtr 0 x0 <| oI l0 .i64 fun p0 l1=>oNil l1 <| oBox 0 78 objs fun b0 o0=>cCons b0 fun u0_0 v0=>cList 3 ty3 u0_0 fun p1=>cCons v0 fun u0_1 v1=>cInt .i64 u0_1 fun p2=>cNil v1 <| oNilO o0 <| ob (c p0 p1 p2) (K5 k)
abbrev Sp57 (c:Int→L3→Int→Option (LB×L3×Int)):Prop:=∀ (p0:Int) (p1:L3) (p2:Int) (y:LB×L3×Int),c p0 p1 p2=some y→Spec Tryd.prog gl0 57 [.c (.ptr 0 0),.c (.int .i64 p0)] [(0,.box 78 [.list 3 ty3 p1,.int .i64 p2])] (.c (.str y.1)) [(0,.box 78 [.list 3 ty3 y.2.1,.int .i64 y.2.2])]
theorem ek57 {R:Type} {c:Int→L3→Int→Option (LB×L3×Int)} (hs:Sp57 c):EOk 57 (e57 (R:=R) c):=fun args objs k r h=>by
 unfold e57 at h
 obtain ⟨a0,l0,rfl,q1⟩:=qal h
 obtain ⟨x0,rfl,q2⟩:=qa6 q1
 obtain ⟨rfl,q3⟩:=qa5 q2
 obtain ⟨p0,l1,rfl,q6⟩:=qau q3
 obtain ⟨rfl,q7⟩:=qa3 q6
 obtain ⟨b0,o0,rfl,q8⟩:=qa7 q7
 obtain ⟨u0_0,v0,rfl,q9⟩:=qab q8
 obtain ⟨p1,rfl,q10⟩:=qad q9
 obtain ⟨u0_1,v1,rfl,q11⟩:=qab q10
 obtain ⟨p2,rfl,q12⟩:=qaq q11
 obtain ⟨rfl,q13⟩:=qar q12
 obtain ⟨rfl,q14⟩:=qa0 q13
 exact qap (hs p0 p1 p2) q14
def X57:Aux:=⟨[(1000004,([2,3,4]++rg 6 111))],[(24,.lin ([0,5,1,2,3,4,6,7,8,9,10]))]⟩
inductive S57 where
 | l1004 (v1:Int) (v2:L3) (v3:Int)
abbrev C57:Type:=Int→L3→Int→Option (LB×L3×Int)
def T57 {R:Type} (B:Ops) (c58:C58) (c57:C57) (p0:Int) (p1:L3) (p2:Int) (again:S57→Option R) (k:(LB×L3×Int)→Option R):Option S57→Option R | none=>ob (c58 (20) p1 p2) fun y0=>cond (B.lt (3) p0) (cond (B.eq (6) (0)) none (again (.l1004 (IntKind.wrap .i64 (14+Int.tmod y0.1 (6))) y0.2.1 y0.2.2))) (cond (B.lt (14) y0.2.2) (cond (B.eq (6) (0)) none (again (.l1004 (IntKind.wrap .i64 (14+Int.tmod y0.1 (6))) y0.2.1 y0.2.2))) (again (.l1004 y0.1 y0.2.1 y0.2.2))) | some (.l1004 v1 v2 v3)=>cond (B.lt v1 (10)) (ob (c57 (IntKind.wrap .i64 (p0+1)) v2 v3) fun y0=>ob (c57 (IntKind.wrap .i64 (p0+1)) y0.2.1 y0.2.2) fun y1=>ob (c58 (11) y1.2.1 y1.2.2) fun y2=>cond (B.inb y2.1 (11)) (ob (c58 (2) y2.2.1 y2.2.2) fun y3=>cond (B.eq y3.1 (0)) (cond (B.lim (1+List.length y0.1) (1)) (cond (B.lim (List.length (([40]:LB)++y0.1)+1) (1)) (cond (B.lim (List.length (([40]:LB)++y0.1++([41]:LB))+List.length (List.getD (([43]:LB)::([45]:LB)::([42]:LB)::([60]:LB)::([60,61]:LB)::([61,61]:LB)::([33,61]:LB)::([38,38]:LB)::([124,124]:LB)::([62]:LB)::([62,61]:LB)::mt LB) (Int.toNat y2.1) (mt UInt8))) (1)) (cond (B.lim (List.length (([40]:LB)++y0.1++([41]:LB)++List.getD (([43]:LB)::([45]:LB)::([42]:LB)::([60]:LB)::([60,61]:LB)::([61,61]:LB)::([33,61]:LB)::([38,38]:LB)::([124,124]:LB)::([62]:LB)::([62,61]:LB)::mt LB) (Int.toNat y2.1) (mt UInt8))+1) (1)) (cond (B.lim (List.length (([40]:LB)++y0.1++([41]:LB)++List.getD (([43]:LB)::([45]:LB)::([42]:LB)::([60]:LB)::([60,61]:LB)::([61,61]:LB)::([33,61]:LB)::([38,38]:LB)::([124,124]:LB)::([62]:LB)::([62,61]:LB)::mt LB) (Int.toNat y2.1) (mt UInt8)++([40]:LB))+List.length y1.1) (1)) (cond (B.lim (List.length (([40]:LB)++y0.1++([41]:LB)++List.getD (([43]:LB)::([45]:LB)::([42]:LB)::([60]:LB)::([60,61]:LB)::([61,61]:LB)::([33,61]:LB)::([38,38]:LB)::([124,124]:LB)::([62]:LB)::([62,61]:LB)::mt LB) (Int.toNat y2.1) (mt UInt8)++([40]:LB)++y1.1)+1) (1)) (k ((([40]:LB)++y0.1++([41]:LB)++List.getD (([43]:LB)::([45]:LB)::([42]:LB)::([60]:LB)::([60,61]:LB)::([61,61]:LB)::([33,61]:LB)::([38,38]:LB)::([124,124]:LB)::([62]:LB)::([62,61]:LB)::mt LB) (Int.toNat y2.1) (mt UInt8)++([40]:LB)++y1.1++([41]:LB),y3.2.1,y3.2.2))) none) none) none) none) none) none) (cond (B.lim (1+List.length y0.1) (1)) (cond (B.lim (List.length (([40]:LB)++y0.1)+1) (1)) (cond (B.lim (List.length (([40]:LB)++y0.1++([32]:LB))+List.length (List.getD (([43]:LB)::([45]:LB)::([42]:LB)::([60]:LB)::([60,61]:LB)::([61,61]:LB)::([33,61]:LB)::([38,38]:LB)::([124,124]:LB)::([62]:LB)::([62,61]:LB)::mt LB) (Int.toNat y2.1) (mt UInt8))) (1)) (cond (B.lim (List.length (([40]:LB)++y0.1++([32]:LB)++List.getD (([43]:LB)::([45]:LB)::([42]:LB)::([60]:LB)::([60,61]:LB)::([61,61]:LB)::([33,61]:LB)::([38,38]:LB)::([124,124]:LB)::([62]:LB)::([62,61]:LB)::mt LB) (Int.toNat y2.1) (mt UInt8))+1) (1)) (cond (B.lim (List.length (([40]:LB)++y0.1++([32]:LB)++List.getD (([43]:LB)::([45]:LB)::([42]:LB)::([60]:LB)::([60,61]:LB)::([61,61]:LB)::([33,61]:LB)::([38,38]:LB)::([124,124]:LB)::([62]:LB)::([62,61]:LB)::mt LB) (Int.toNat y2.1) (mt UInt8)++([32]:LB))+List.length y1.1) (1)) (cond (B.lim (List.length (([40]:LB)++y0.1++([32]:LB)++List.getD (([43]:LB)::([45]:LB)::([42]:LB)::([60]:LB)::([60,61]:LB)::([61,61]:LB)::([33,61]:LB)::([38,38]:LB)::([124,124]:LB)::([62]:LB)::([62,61]:LB)::mt LB) (Int.toNat y2.1) (mt UInt8)++([32]:LB)++y1.1)+1) (1)) (k ((([40]:LB)++y0.1++([32]:LB)++List.getD (([43]:LB)::([45]:LB)::([42]:LB)::([60]:LB)::([60,61]:LB)::([61,61]:LB)::([33,61]:LB)::([38,38]:LB)::([124,124]:LB)::([62]:LB)::([62,61]:LB)::mt LB) (Int.toNat y2.1) (mt UInt8)++([32]:LB)++y1.1++([41]:LB),y3.2.1,y3.2.2))) none) none) none) none) none) none)) none) (cond (B.eq v1 (10)) (ob (c57 (IntKind.wrap .i64 (p0+1)) v2 v3) fun y0=>cond (B.lim (2+List.length y0.1) (1)) (cond (B.lim (List.length (([33,40]:LB)++y0.1)+1) (1)) (k ((([33,40]:LB)++y0.1++([41]:LB),y0.2.1,y0.2.2))) none) none) (cond (B.eq v1 (11)) (ob (c57 (IntKind.wrap .i64 (p0+1)) v2 v3) fun y0=>cond (B.lim (2+List.length y0.1) (1)) (cond (B.lim (List.length (([45,40]:LB)++y0.1)+1) (1)) (k ((([45,40]:LB)++y0.1++([41]:LB),y0.2.1,y0.2.2))) none) none) (cond (B.eq v1 (12)) (ob (c57 (IntKind.wrap .i64 (p0+1)) v2 v3) fun y0=>cond (B.lim (List.length y0.1+1) (1)) (ob (c57 (IntKind.wrap .i64 (p0+1)) y0.2.1 y0.2.2) fun y1=>cond (B.lim (List.length (y0.1++([43]:LB))+List.length y1.1) (1)) (k ((y0.1++([43]:LB)++y1.1,y1.2.1,y1.2.2))) none) none) (cond (B.eq v1 (13)) (ob (c57 (IntKind.wrap .i64 (p0+1)) v2 v3) fun y0=>cond (B.lim (2+List.length y0.1) (1)) (k ((([33,33]:LB)++y0.1,y0.2.1,y0.2.2))) none) (cond (B.eq v1 (14)) (ob (c58 (4) v2 v3) fun y0=>cond (B.inb y0.1 (4)) (k ((List.getD (([48]:LB)::([49]:LB)::([50]:LB)::([48,48,55]:LB)::mt LB) (Int.toNat y0.1) (mt UInt8),y0.2.1,y0.2.2))) none) (cond (B.eq v1 (15)) (ob (c58 (4) v2 v3) fun y0=>cond (B.inb y0.1 (4)) (k ((List.getD (([48]:LB)::([49]:LB)::([50]:LB)::([48,48,55]:LB)::mt LB) (Int.toNat y0.1) (mt UInt8),y0.2.1,y0.2.2))) none) (cond (B.eq v1 (16)) (ob (c58 (2) v2 v3) fun y0=>cond (B.inb y0.1 (3)) (cond (B.lim (List.length (List.getD ((112::mt UInt8)::(113::mt UInt8)::(114::mt UInt8)::mt LB) (Int.toNat y0.1) (mt UInt8))+1) (1)) (ob (c58 (3) y0.2.1 y0.2.2) fun y1=>cond (B.inb y1.1 (4)) (cond (B.lim (List.length (List.getD ((112::mt UInt8)::(113::mt UInt8)::(114::mt UInt8)::mt LB) (Int.toNat y0.1) (mt UInt8)++([64]:LB))+List.length (List.getD ((97::mt UInt8)::(98::mt UInt8)::(99::mt UInt8)::(100::mt UInt8)::mt LB) (Int.toNat y1.1) (mt UInt8))) (1)) (k ((List.getD ((112::mt UInt8)::(113::mt UInt8)::(114::mt UInt8)::mt LB) (Int.toNat y0.1) (mt UInt8)++([64]:LB)++List.getD ((97::mt UInt8)::(98::mt UInt8)::(99::mt UInt8)::(100::mt UInt8)::mt LB) (Int.toNat y1.1) (mt UInt8),y1.2.1,y1.2.2))) none) none) none) none) (ob (c58 (2) v2 v3) fun y0=>cond (B.inb y0.1 (3)) (k ((List.getD ((120::mt UInt8)::(121::mt UInt8)::(122::mt UInt8)::mt LB) (Int.toNat y0.1) (mt UInt8),y0.2.1,y0.2.2))) none))))))))
def E57 (p0:Int) (p1:L3) (p2:Int):S57→List AV×Objs
 | .l1004 v1 v2 v3=>(mk 117 [(0,.c (.ptr 0 0)),(1,.c (.int .i64 p0)),(5,.c (.int .i64 v1))],[(0,.box 78 [.list 3 ty3 v2,.int .i64 v3])])
def I57:S57→Nat
 | .l1004 _ _ _=>1004
theorem eq57 {R:Type} (B:Ops) (c58:C58) (c57:C57) (p0:Int) (p1:L3) (p2:Int) (k:AV→Objs→Option R) (n:Nat):afun tau B gl0 X57 (ent 58 (e58 c58) (ent 57 (e57 c57) gnil)) ow Tryd.f57 [.c (.ptr 0 0),.c (.int .i64 p0)] [(0,.box 78 [.list 3 ty3 p1,.int .i64 p2])] k n=T57 B c58 c57 p0 p1 p2 (fun s=>aloop tau B gl0 X57 (ent 58 (e58 c58) (ent 57 (e57 c57) gnil)) ow [0] Tryd.f57 k (I57 s) (E57 p0 p1 p2 s) n) (K5 k) none:=by kernel_rfl
theorem el57 {R:Type} (B:Ops) (c58:C58) (c57:C57) (p0:Int) (p1:L3) (p2:Int) (k:AV→Objs→Option R) (n:Nat):∀ s,aloop tau B gl0 X57 (ent 58 (e58 c58) (ent 57 (e57 c57) gnil)) ow [0] Tryd.f57 k (I57 s) (E57 p0 p1 p2 s) (n+1)=T57 B c58 c57 p0 p1 p2 (fun s=>aloop tau B gl0 X57 (ent 58 (e58 c58) (ent 57 (e57 c57) gnil)) ow [0] Tryd.f57 k (I57 s) (E57 p0 p1 p2 s) n) (K5 k) (some s):=by
 intro s
 cases s<;>kernel_rfl
theorem nt57 {R R':Type} (B:Ops) (c58:C58) (c57:C57) (p0:Int) (p1:L3) (p2:Int) (again:S57→Option R) (again':S57→Option R') (k0:(LB×L3×Int)→Option R') (k:R'→Option R) (h:∀ s,again s=ob (again' s) k):∀ s,T57 B c58 c57 p0 p1 p2 again (fun y=>ob (k0 y) k) s=ob (T57 B c58 c57 p0 p1 p2 again' k0 s) k:=by
 rintro (_ | x)
 all_goals try cases x
 all_goals (unfold T57;repeat' first | exact rfl | exact h _ | apply qaf | (apply qao;intro))
def R57 (c58:C58) (c57:C57) (p0:Int) (p1:L3) (p2:Int):Nat→S57→Option (LB×L3×Int)
 | 0,_=>none
 | n+1,s=>T57 Ops.std c58 c57 p0 p1 p2 (R57 c58 c57 p0 p1 p2 n) some (some s)
theorem rr57 {R:Type} (c58:C58) (c57:C57) (p0:Int) (p1:L3) (p2:Int) (k:AV→Objs→Option R):∀ (n:Nat) (s:S57),aloop tau Ops.std gl0 X57 (ent 58 (e58 c58) (ent 57 (e57 c57) gnil)) ow [0] Tryd.f57 k (I57 s) (E57 p0 p1 p2 s) n=ob (R57 c58 c57 p0 p1 p2 n s) (K5 k)
 | 0,s=>by cases s<;>rfl
 | n+1,s=>by rw [el57];exact nt57 Ops.std c58 c57 p0 p1 p2 _ _ some (K5 k) (rr57 c58 c57 p0 p1 p2 k n) (some s)
def F57 (c58:C58) (c57:C57) (p0:Int) (p1:L3) (p2:Int):Option (LB×L3×Int):=T57 Ops.std c58 c57 p0 p1 p2 (R57 c58 c57 p0 p1 p2 1000000) some none
theorem sf57 {c58:C58} {c57:C57} (h58:Sp58 c58) (h57:Sp57 c57):Sp57 (F57 c58 c57):=fun p0 p1 p2 y hy=>by
 refine qaj (qae (ek58 h58) (qae (ek57 h57) qai)) 1000000 (fn:=Tryd.f57) (by kernel_rfl) (by kernel_rfl) (X:=X57) (by kernel_rfl) ?_
 rw [eq57]
 exact (nt57 Ops.std c58 c57 p0 p1 p2 _ _ some (K5 k0) (rr57 c58 c57 p0 p1 p2 k0 1000000) none).trans (by show ob (F57 c58 c57 p0 p1 p2) _=_;rw [hy];rfl)
noncomputable def Rec57:Nat→(Int→L3→Int→Option (LB×L3×Int))
 | 0=>fun _ _ _=>none
 | d+1=>F57 M58 (Rec57 d)
theorem rec57:∀ d,Sp57 (Rec57 d)
 | 0=>fun p0 p1 p2 y (h:(none:Option (LB×L3×Int))=some y)=>by cases h
 | d+1=>sf57 sm58 (rec57 d)
noncomputable def M57:Int→L3→Int→Option (LB×L3×Int):=(Rec57 1000000)
theorem sm57:Sp57 M57:=(rec57 1000000)
def X59:Aux:=⟨[],[]⟩
def T59 {R:Type} (B:Ops) (c58:C58) (p0:L3) (p1:Int) (k:(LB×L3×Int)→Option R):Option R:=ob (c58 (2) p0 p1) fun y0=>cond (B.inb y0.1 (3)) (cond (B.lim (List.length (List.getD ((120::mt UInt8)::(121::mt UInt8)::(122::mt UInt8)::mt LB) (Int.toNat y0.1) (mt UInt8))+2) (1)) (cond (B.lim (List.length (List.getD ((120::mt UInt8)::(121::mt UInt8)::(122::mt UInt8)::mt LB) (Int.toNat y0.1) (mt UInt8))+2) (1)) (cond (B.lim (List.length (List.getD ((120::mt UInt8)::(121::mt UInt8)::(122::mt UInt8)::mt LB) (Int.toNat y0.1) (mt UInt8))+3) (1)) (cond (B.lim (List.length (List.getD ((120::mt UInt8)::(121::mt UInt8)::(122::mt UInt8)::mt LB) (Int.toNat y0.1) (mt UInt8))+2) (1)) (ob (c58 (9) y0.2.1 y0.2.2) fun y1=>cond (B.inb y1.1 (9)) (k ((List.getD (([49]:LB)::([49]:LB)::(List.getD ((120::mt UInt8)::(121::mt UInt8)::(122::mt UInt8)::mt LB) (Int.toNat y0.1) (mt UInt8)++([60,49]:LB))::(List.getD ((120::mt UInt8)::(121::mt UInt8)::(122::mt UInt8)::mt LB) (Int.toNat y0.1) (mt UInt8)++([62,48]:LB))::(List.getD ((120::mt UInt8)::(121::mt UInt8)::(122::mt UInt8)::mt LB) (Int.toNat y0.1) (mt UInt8)++([61,61,49]:LB))::([120,33,61,121]:LB)::([112,64,97,124,124,120,60,50]:LB)::([33,40,113,64,98,41]:LB)::(List.getD ((120::mt UInt8)::(121::mt UInt8)::(122::mt UInt8)::mt LB) (Int.toNat y0.1) (mt UInt8)++([60,50]:LB))::mt LB) (Int.toNat y1.1) (mt UInt8),y1.2.1,y1.2.2))) none) none) none) none) none) none
theorem eq59 {R:Type} (B:Ops) (c58:C58) (p0:L3) (p1:Int) (k:AV→Objs→Option R) (n:Nat):afun tau B gl0 X59 (ent 58 (e58 c58) gnil) ow Tryd.f59 [.c (.ptr 0 0)] [(0,.box 78 [.list 3 ty3 p0,.int .i64 p1])] k n=T59 B c58 p0 p1 (K5 k):=by kernel_rfl
theorem nt59 {R R':Type} (B:Ops) (c58:C58) (p0:L3) (p1:Int) (k0:(LB×L3×Int)→Option R') (k:R'→Option R):T59 B c58 p0 p1 (fun y=>ob (k0 y) k)=ob (T59 B c58 p0 p1 k0) k:=by
 unfold T59
 repeat' first | exact rfl | apply qaf | (apply qao;intro)
def F59 (c58:C58) (p0:L3) (p1:Int):Option (LB×L3×Int):=T59 Ops.std c58 p0 p1 some
def e59 {R:Type} (c:L3→Int→Option (LB×L3×Int)):Ent R:=fun args objs k=>
 oCons args fun a0 l0=>oC a0 fun x0=>cPtr 0 x0 <| oNil l0 <| oBox 0 78 objs fun b0 o0=>cCons b0 fun u0_0 v0=>cList 3 ty3 u0_0 fun p0=>cCons v0 fun u0_1 v1=>cInt .i64 u0_1 fun p1=>cNil v1 <| oNilO o0 <| ob (c p0 p1) (K5 k)
abbrev Sp59 (c:L3→Int→Option (LB×L3×Int)):Prop:=∀ (p0:L3) (p1:Int) (y:LB×L3×Int),c p0 p1=some y→Spec Tryd.prog gl0 59 [.c (.ptr 0 0)] [(0,.box 78 [.list 3 ty3 p0,.int .i64 p1])] (.c (.str y.1)) [(0,.box 78 [.list 3 ty3 y.2.1,.int .i64 y.2.2])]
theorem ek59 {R:Type} {c:L3→Int→Option (LB×L3×Int)} (hs:Sp59 c):EOk 59 (e59 (R:=R) c):=fun args objs k r h=>by
 unfold e59 at h
 obtain ⟨a0,l0,rfl,q1⟩:=qal h
 obtain ⟨x0,rfl,q2⟩:=qa6 q1
 obtain ⟨rfl,q3⟩:=qa5 q2
 obtain ⟨rfl,q4⟩:=qa3 q3
 obtain ⟨b0,o0,rfl,q5⟩:=qa7 q4
 obtain ⟨u0_0,v0,rfl,q6⟩:=qab q5
 obtain ⟨p0,rfl,q7⟩:=qad q6
 obtain ⟨u0_1,v1,rfl,q8⟩:=qab q7
 obtain ⟨p1,rfl,q9⟩:=qaq q8
 obtain ⟨rfl,q10⟩:=qar q9
 obtain ⟨rfl,q11⟩:=qa0 q10
 exact qap (hs p0 p1) q11
theorem sf59 {c58:C58} (h58:Sp58 c58):Sp59 (F59 c58):=fun p0 p1 y hy=>by
 refine qaj (qae (ek58 h58) qai) 1000000 (fn:=Tryd.f59) (by kernel_rfl) (by kernel_rfl) (X:=X59) (by kernel_rfl) ?_
 rw [eq59]
 exact (nt59 Ops.std c58 p0 p1 some (K5 k0)).trans (by show ob (F59 c58 p0 p1) _=_;rw [hy];rfl)
noncomputable def M59:L3→Int→Option (LB×L3×Int):=F59 M58
theorem sm59:Sp59 M59:=sf59 sm58
def X60:Aux:=⟨[],[(2,.lin (rg 0 10++[14,10,11,12,13,15,16,17]))]⟩
def T60 {R:Type} (B:Ops) (c58:C58) (p0:L3) (p1:Int) (k:(LB×L3×Int)→Option R):Option R:=ob (c58 (2) p0 p1) fun y0=>cond (B.inb y0.1 (3)) (cond (B.lim (2+List.length (List.getD ((120::mt UInt8)::(121::mt UInt8)::(122::mt UInt8)::mt LB) (Int.toNat y0.1) (mt UInt8))) (1)) (cond (B.lim (List.length (List.getD ((120::mt UInt8)::(121::mt UInt8)::(122::mt UInt8)::mt LB) (Int.toNat y0.1) (mt UInt8))+2) (1)) (cond (B.lim (List.length (List.getD ((120::mt UInt8)::(121::mt UInt8)::(122::mt UInt8)::mt LB) (Int.toNat y0.1) (mt UInt8))+2) (1)) (cond (B.lim (2+List.length (List.getD ((120::mt UInt8)::(121::mt UInt8)::(122::mt UInt8)::mt LB) (Int.toNat y0.1) (mt UInt8))) (1)) (ob (c58 (2) y0.2.1 y0.2.2) fun y1=>cond (B.inb y1.1 (3)) (ob (c58 (8) y1.2.1 y1.2.2) fun y2=>cond (B.inb y2.1 (8)) (k ((List.getD (([48]:LB)::([49]:LB)::List.getD ((120::mt UInt8)::(121::mt UInt8)::(122::mt UInt8)::mt LB) (Int.toNat y0.1) (mt UInt8)::(([49,45]:LB)++List.getD ((120::mt UInt8)::(121::mt UInt8)::(122::mt UInt8)::mt LB) (Int.toNat y0.1) (mt UInt8))::(List.getD ((120::mt UInt8)::(121::mt UInt8)::(122::mt UInt8)::mt LB) (Int.toNat y0.1) (mt UInt8)++([43,49]:LB))::(List.getD ((120::mt UInt8)::(121::mt UInt8)::(122::mt UInt8)::mt LB) (Int.toNat y0.1) (mt UInt8)++([45,49]:LB))::(([50,45]:LB)++List.getD ((120::mt UInt8)::(121::mt UInt8)::(122::mt UInt8)::mt LB) (Int.toNat y0.1) (mt UInt8))::List.getD ((120::mt UInt8)::(121::mt UInt8)::(122::mt UInt8)::mt LB) (Int.toNat y1.1) (mt UInt8)::mt LB) (Int.toNat y2.1) (mt UInt8),y2.2.1,y2.2.2))) none) none) none) none) none) none) none
theorem eq60 {R:Type} (B:Ops) (c58:C58) (p0:L3) (p1:Int) (k:AV→Objs→Option R) (n:Nat):afun tau B gl0 X60 (ent 58 (e58 c58) gnil) ow Tryd.f60 [.c (.ptr 0 0)] [(0,.box 78 [.list 3 ty3 p0,.int .i64 p1])] k n=T60 B c58 p0 p1 (K5 k):=by kernel_rfl
theorem nt60 {R R':Type} (B:Ops) (c58:C58) (p0:L3) (p1:Int) (k0:(LB×L3×Int)→Option R') (k:R'→Option R):T60 B c58 p0 p1 (fun y=>ob (k0 y) k)=ob (T60 B c58 p0 p1 k0) k:=by
 unfold T60
 repeat' first | exact rfl | apply qaf | (apply qao;intro)
def F60 (c58:C58) (p0:L3) (p1:Int):Option (LB×L3×Int):=T60 Ops.std c58 p0 p1 some
def e60 {R:Type} (c:L3→Int→Option (LB×L3×Int)):Ent R:=fun args objs k=>
 oCons args fun a0 l0=>oC a0 fun x0=>cPtr 0 x0 <| oNil l0 <| oBox 0 78 objs fun b0 o0=>cCons b0 fun u0_0 v0=>cList 3 ty3 u0_0 fun p0=>cCons v0 fun u0_1 v1=>cInt .i64 u0_1 fun p1=>cNil v1 <| oNilO o0 <| ob (c p0 p1) (K5 k)
abbrev Sp60 (c:L3→Int→Option (LB×L3×Int)):Prop:=∀ (p0:L3) (p1:Int) (y:LB×L3×Int),c p0 p1=some y→Spec Tryd.prog gl0 60 [.c (.ptr 0 0)] [(0,.box 78 [.list 3 ty3 p0,.int .i64 p1])] (.c (.str y.1)) [(0,.box 78 [.list 3 ty3 y.2.1,.int .i64 y.2.2])]
theorem ek60 {R:Type} {c:L3→Int→Option (LB×L3×Int)} (hs:Sp60 c):EOk 60 (e60 (R:=R) c):=fun args objs k r h=>by
 unfold e60 at h
 obtain ⟨a0,l0,rfl,q1⟩:=qal h
 obtain ⟨x0,rfl,q2⟩:=qa6 q1
 obtain ⟨rfl,q3⟩:=qa5 q2
 obtain ⟨rfl,q4⟩:=qa3 q3
 obtain ⟨b0,o0,rfl,q5⟩:=qa7 q4
 obtain ⟨u0_0,v0,rfl,q6⟩:=qab q5
 obtain ⟨p0,rfl,q7⟩:=qad q6
 obtain ⟨u0_1,v1,rfl,q8⟩:=qab q7
 obtain ⟨p1,rfl,q9⟩:=qaq q8
 obtain ⟨rfl,q10⟩:=qar q9
 obtain ⟨rfl,q11⟩:=qa0 q10
 exact qap (hs p0 p1) q11
theorem sf60 {c58:C58} (h58:Sp58 c58):Sp60 (F60 c58):=fun p0 p1 y hy=>by
 refine qaj (qae (ek58 h58) qai) 1000000 (fn:=Tryd.f60) (by kernel_rfl) (by kernel_rfl) (X:=X60) (by kernel_rfl) ?_
 rw [eq60]
 exact (nt60 Ops.std c58 p0 p1 some (K5 k0)).trans (by show ob (F60 c58 p0 p1) _=_;rw [hy];rfl)
noncomputable def M60:L3→Int→Option (LB×L3×Int):=F60 M58
theorem sm60:Sp60 M60:=sf60 sm58
def X28:Aux:=⟨[(9,([0,1,2,3,4,7]++rg 10 84))],[(2,.lin ([0,1,6,12,18,19,2,3,4,5,7,8,9,10,11,13,14,15,16,17,20,21,22,23,24])),(14,.lin ([0,1,2,3,4,5,6,13,7,8,9,10,11,12,14,15,16]))]⟩
inductive S28 where
 | l0 (v0:LB) (v1:Int) (v2:Int) (v3:L3) (v4:Int)
abbrev C59:Type:=L3→Int→Option (LB×L3×Int)
abbrev C60:Type:=L3→Int→Option (LB×L3×Int)
def T28 {R:Type} (B:Ops) (c58:C58) (c59:C59) (c57:C57) (c60:C60) (p0:L3) (p1:Int) (again:S28→Option R) (k:(LB)→Option R):Option S28→Option R | none=>ob (c58 p1 p0 (0)) fun y0=>cond (B.inb y0.1 (3)) (cond (B.lim (List.length (List.getD ((112::mt UInt8)::(113::mt UInt8)::(114::mt UInt8)::mt LB) (Int.toNat y0.1) (mt UInt8))+1) (1)) (ob (c58 (3) y0.2.1 y0.2.2) fun y1=>cond (B.inb y1.1 (4)) (cond (B.lim (List.length (List.getD ((112::mt UInt8)::(113::mt UInt8)::(114::mt UInt8)::mt LB) (Int.toNat y0.1) (mt UInt8)++([32]:LB))+List.length (List.getD ((97::mt UInt8)::(98::mt UInt8)::(99::mt UInt8)::(100::mt UInt8)::mt LB) (Int.toNat y1.1) (mt UInt8))) (1)) (cond (B.lim (List.length (List.getD ((112::mt UInt8)::(113::mt UInt8)::(114::mt UInt8)::mt LB) (Int.toNat y0.1) (mt UInt8)++([32]:LB)++List.getD ((97::mt UInt8)::(98::mt UInt8)::(99::mt UInt8)::(100::mt UInt8)::mt LB) (Int.toNat y1.1) (mt UInt8))+1) (1)) (ob (c58 (3) y1.2.1 y1.2.2) fun y2=>cond (B.inb y2.1 (4)) (cond (B.lim (List.length (List.getD ((112::mt UInt8)::(113::mt UInt8)::(114::mt UInt8)::mt LB) (Int.toNat y0.1) (mt UInt8)++([32]:LB)++List.getD ((97::mt UInt8)::(98::mt UInt8)::(99::mt UInt8)::(100::mt UInt8)::mt LB) (Int.toNat y1.1) (mt UInt8)++([32]:LB))+List.length (List.getD ((97::mt UInt8)::(98::mt UInt8)::(99::mt UInt8)::(100::mt UInt8)::mt LB) (Int.toNat y2.1) (mt UInt8))) (1)) (cond (B.lim (List.length (List.getD ((112::mt UInt8)::(113::mt UInt8)::(114::mt UInt8)::mt LB) (Int.toNat y0.1) (mt UInt8)++([32]:LB)++List.getD ((97::mt UInt8)::(98::mt UInt8)::(99::mt UInt8)::(100::mt UInt8)::mt LB) (Int.toNat y1.1) (mt UInt8)++([32]:LB)++List.getD ((97::mt UInt8)::(98::mt UInt8)::(99::mt UInt8)::(100::mt UInt8)::mt LB) (Int.toNat y2.1) (mt UInt8))+1) (1)) (ob (c58 (8) y2.2.1 y2.2.2) fun y3=>cond (B.inb y3.1 (8)) (cond (B.lim (List.length (List.getD ((112::mt UInt8)::(113::mt UInt8)::(114::mt UInt8)::mt LB) (Int.toNat y0.1) (mt UInt8)++([32]:LB)++List.getD ((97::mt UInt8)::(98::mt UInt8)::(99::mt UInt8)::(100::mt UInt8)::mt LB) (Int.toNat y1.1) (mt UInt8)++([32]:LB)++List.getD ((97::mt UInt8)::(98::mt UInt8)::(99::mt UInt8)::(100::mt UInt8)::mt LB) (Int.toNat y2.1) (mt UInt8)++([32]:LB))+List.length (List.getD (([45]:LB)::([45]:LB)::([45]:LB)::([45]:LB)::([99,33]:LB)::([99,63]:LB)::([100,33]:LB)::([99,63]:LB)::mt LB) (Int.toNat y3.1) (mt UInt8))) (1)) (cond (B.lim (List.length (List.getD ((112::mt UInt8)::(113::mt UInt8)::(114::mt UInt8)::mt LB) (Int.toNat y0.1) (mt UInt8)++([32]:LB)++List.getD ((97::mt UInt8)::(98::mt UInt8)::(99::mt UInt8)::(100::mt UInt8)::mt LB) (Int.toNat y1.1) (mt UInt8)++([32]:LB)++List.getD ((97::mt UInt8)::(98::mt UInt8)::(99::mt UInt8)::(100::mt UInt8)::mt LB) (Int.toNat y2.1) (mt UInt8)++([32]:LB)++List.getD (([45]:LB)::([45]:LB)::([45]:LB)::([45]:LB)::([99,33]:LB)::([99,63]:LB)::([100,33]:LB)::([99,63]:LB)::mt LB) (Int.toNat y3.1) (mt UInt8))+1) (1)) (ob (c59 y3.2.1 y3.2.2) fun y4=>ob (c58 (9) y4.2.1 y4.2.2) fun y5=>cond (B.eq y5.1 (8)) (ob (c57 (2) y5.2.1 y5.2.2) fun y6=>cond (B.lim (List.length (List.getD ((112::mt UInt8)::(113::mt UInt8)::(114::mt UInt8)::mt LB) (Int.toNat y0.1) (mt UInt8)++([32]:LB)++List.getD ((97::mt UInt8)::(98::mt UInt8)::(99::mt UInt8)::(100::mt UInt8)::mt LB) (Int.toNat y1.1) (mt UInt8)++([32]:LB)++List.getD ((97::mt UInt8)::(98::mt UInt8)::(99::mt UInt8)::(100::mt UInt8)::mt LB) (Int.toNat y2.1) (mt UInt8)++([32]:LB)++List.getD (([45]:LB)::([45]:LB)::([45]:LB)::([45]:LB)::([99,33]:LB)::([99,63]:LB)::([100,33]:LB)::([99,63]:LB)::mt LB) (Int.toNat y3.1) (mt UInt8)++([32]:LB))+List.length y6.1) (1)) (ob (c58 (4) y6.2.1 y6.2.2) fun y7=>cond (B.inb y7.1 (4)) (again (.l0 (List.getD ((112::mt UInt8)::(113::mt UInt8)::(114::mt UInt8)::mt LB) (Int.toNat y0.1) (mt UInt8)++([32]:LB)++List.getD ((97::mt UInt8)::(98::mt UInt8)::(99::mt UInt8)::(100::mt UInt8)::mt LB) (Int.toNat y1.1) (mt UInt8)++([32]:LB)++List.getD ((97::mt UInt8)::(98::mt UInt8)::(99::mt UInt8)::(100::mt UInt8)::mt LB) (Int.toNat y2.1) (mt UInt8)++([32]:LB)++List.getD (([45]:LB)::([45]:LB)::([45]:LB)::([45]:LB)::([99,33]:LB)::([99,63]:LB)::([100,33]:LB)::([99,63]:LB)::mt LB) (Int.toNat y3.1) (mt UInt8)++([32]:LB)++y6.1) (List.getD (0::1::1::2::mt Int) (Int.toNat y7.1) (0)) 0 y7.2.1 y7.2.2)) none) none) (cond (B.lim (List.length (List.getD ((112::mt UInt8)::(113::mt UInt8)::(114::mt UInt8)::mt LB) (Int.toNat y0.1) (mt UInt8)++([32]:LB)++List.getD ((97::mt UInt8)::(98::mt UInt8)::(99::mt UInt8)::(100::mt UInt8)::mt LB) (Int.toNat y1.1) (mt UInt8)++([32]:LB)++List.getD ((97::mt UInt8)::(98::mt UInt8)::(99::mt UInt8)::(100::mt UInt8)::mt LB) (Int.toNat y2.1) (mt UInt8)++([32]:LB)++List.getD (([45]:LB)::([45]:LB)::([45]:LB)::([45]:LB)::([99,33]:LB)::([99,63]:LB)::([100,33]:LB)::([99,63]:LB)::mt LB) (Int.toNat y3.1) (mt UInt8)++([32]:LB))+List.length y4.1) (1)) (ob (c58 (4) y5.2.1 y5.2.2) fun y6=>cond (B.inb y6.1 (4)) (again (.l0 (List.getD ((112::mt UInt8)::(113::mt UInt8)::(114::mt UInt8)::mt LB) (Int.toNat y0.1) (mt UInt8)++([32]:LB)++List.getD ((97::mt UInt8)::(98::mt UInt8)::(99::mt UInt8)::(100::mt UInt8)::mt LB) (Int.toNat y1.1) (mt UInt8)++([32]:LB)++List.getD ((97::mt UInt8)::(98::mt UInt8)::(99::mt UInt8)::(100::mt UInt8)::mt LB) (Int.toNat y2.1) (mt UInt8)++([32]:LB)++List.getD (([45]:LB)::([45]:LB)::([45]:LB)::([45]:LB)::([99,33]:LB)::([99,63]:LB)::([100,33]:LB)::([99,63]:LB)::mt LB) (Int.toNat y3.1) (mt UInt8)++([32]:LB)++y4.1) (List.getD (0::1::1::2::mt Int) (Int.toNat y6.1) (0)) 0 y6.2.1 y6.2.2)) none) none)) none) none) none) none) none) none) none) none) none) none) none | some (.l0 v0 v1 v2 v3 v4)=>cond (B.lt v2 v1) (ob (c58 (2) v3 v4) fun y0=>cond (B.inb y0.1 (3)) (ob (c60 y0.2.1 y0.2.2) fun y1=>ob (c58 (6) y1.2.1 y1.2.2) fun y2=>cond (B.eq y2.1 (0)) (cond (B.lim (List.length v0+3) (1)) (cond (B.lim (List.length (v0++([32,59,32]:LB))+List.length (List.getD ((120::mt UInt8)::(121::mt UInt8)::(122::mt UInt8)::mt LB) (Int.toNat y0.1) (mt UInt8))) (1)) (cond (B.lim (List.length (v0++([32,59,32]:LB)++List.getD ((120::mt UInt8)::(121::mt UInt8)::(122::mt UInt8)::mt LB) (Int.toNat y0.1) (mt UInt8))+3) (1)) (cond (B.lim (List.length (v0++([32,59,32]:LB)++List.getD ((120::mt UInt8)::(121::mt UInt8)::(122::mt UInt8)::mt LB) (Int.toNat y0.1) (mt UInt8)++([32,61,32]:LB))+List.length y1.1) (1)) (again (.l0 (v0++([32,59,32]:LB)++List.getD ((120::mt UInt8)::(121::mt UInt8)::(122::mt UInt8)::mt LB) (Int.toNat y0.1) (mt UInt8)++([32,61,32]:LB)++y1.1) v1 (IntKind.wrap .i64 (v2+1)) y2.2.1 y2.2.2)) none) none) none) none) (cond (B.eq y2.1 (1)) (cond (B.lim (List.length v0+3) (1)) (cond (B.lim (List.length (v0++([32,59,32]:LB))+List.length (List.getD ((120::mt UInt8)::(121::mt UInt8)::(122::mt UInt8)::mt LB) (Int.toNat y0.1) (mt UInt8))) (1)) (cond (B.lim (List.length (v0++([32,59,32]:LB)++List.getD ((120::mt UInt8)::(121::mt UInt8)::(122::mt UInt8)::mt LB) (Int.toNat y0.1) (mt UInt8))+3) (1)) (cond (B.lim (List.length (v0++([32,59,32]:LB)++List.getD ((120::mt UInt8)::(121::mt UInt8)::(122::mt UInt8)::mt LB) (Int.toNat y0.1) (mt UInt8)++([32,61,32]:LB))+1) (1)) (again (.l0 (v0++([32,59,32]:LB)++List.getD ((120::mt UInt8)::(121::mt UInt8)::(122::mt UInt8)::mt LB) (Int.toNat y0.1) (mt UInt8)++([32,61,32]:LB)++([48]:LB)) v1 (IntKind.wrap .i64 (v2+1)) y2.2.1 y2.2.2)) none) none) none) none) (cond (B.lim (3+List.length (List.getD ((120::mt UInt8)::(121::mt UInt8)::(122::mt UInt8)::mt LB) (Int.toNat y0.1) (mt UInt8))) (1)) (cond (B.lim (List.length (([49,45,40]:LB)++List.getD ((120::mt UInt8)::(121::mt UInt8)::(122::mt UInt8)::mt LB) (Int.toNat y0.1) (mt UInt8))+4) (1)) (cond (B.lim (1+List.length (List.getD ((120::mt UInt8)::(121::mt UInt8)::(122::mt UInt8)::mt LB) (Int.toNat y0.1) (mt UInt8))) (1)) (cond (B.lim (List.length (([40]:LB)++List.getD ((120::mt UInt8)::(121::mt UInt8)::(122::mt UInt8)::mt LB) (Int.toNat y0.1) (mt UInt8))+3) (1)) (ob (c58 (2) y2.2.1 y2.2.2) fun y3=>cond (B.inb y3.1 (3)) (cond (B.lim (1+List.length (List.getD ((120::mt UInt8)::(121::mt UInt8)::(122::mt UInt8)::mt LB) (Int.toNat y3.1) (mt UInt8))) (1)) (cond (B.lim (List.length (([40]:LB)++List.getD ((120::mt UInt8)::(121::mt UInt8)::(122::mt UInt8)::mt LB) (Int.toNat y3.1) (mt UInt8))+4) (1)) (ob (c58 (3) y3.2.1 y3.2.2) fun y4=>cond (B.inb y4.1 (3)) (cond (B.lim (List.length v0+3) (1)) (cond (B.lim (List.length (v0++([32,59,32]:LB))+List.length (List.getD ((120::mt UInt8)::(121::mt UInt8)::(122::mt UInt8)::mt LB) (Int.toNat y0.1) (mt UInt8))) (1)) (cond (B.lim (List.length (v0++([32,59,32]:LB)++List.getD ((120::mt UInt8)::(121::mt UInt8)::(122::mt UInt8)::mt LB) (Int.toNat y0.1) (mt UInt8))+3) (1)) (cond (B.lim (List.length (v0++([32,59,32]:LB)++List.getD ((120::mt UInt8)::(121::mt UInt8)::(122::mt UInt8)::mt LB) (Int.toNat y0.1) (mt UInt8)++([32,61,32]:LB))+List.length (List.getD ((([49,45,40]:LB)++List.getD ((120::mt UInt8)::(121::mt UInt8)::(122::mt UInt8)::mt LB) (Int.toNat y0.1) (mt UInt8)++([61,61,49,41]:LB))::(([40]:LB)++List.getD ((120::mt UInt8)::(121::mt UInt8)::(122::mt UInt8)::mt LB) (Int.toNat y0.1) (mt UInt8)++([60,49,41]:LB))::(([40]:LB)++List.getD ((120::mt UInt8)::(121::mt UInt8)::(122::mt UInt8)::mt LB) (Int.toNat y3.1) (mt UInt8)++([61,61,48,41]:LB))::mt LB) (Int.toNat y4.1) (mt UInt8))) (1)) (again (.l0 (v0++([32,59,32]:LB)++List.getD ((120::mt UInt8)::(121::mt UInt8)::(122::mt UInt8)::mt LB) (Int.toNat y0.1) (mt UInt8)++([32,61,32]:LB)++List.getD ((([49,45,40]:LB)++List.getD ((120::mt UInt8)::(121::mt UInt8)::(122::mt UInt8)::mt LB) (Int.toNat y0.1) (mt UInt8)++([61,61,49,41]:LB))::(([40]:LB)++List.getD ((120::mt UInt8)::(121::mt UInt8)::(122::mt UInt8)::mt LB) (Int.toNat y0.1) (mt UInt8)++([60,49,41]:LB))::(([40]:LB)++List.getD ((120::mt UInt8)::(121::mt UInt8)::(122::mt UInt8)::mt LB) (Int.toNat y3.1) (mt UInt8)++([61,61,48,41]:LB))::mt LB) (Int.toNat y4.1) (mt UInt8)) v1 (IntKind.wrap .i64 (v2+1)) y4.2.1 y4.2.2)) none) none) none) none) none) none) none) none) none) none) none) none))) none) (k v0)
def E28 (p0:L3) (p1:Int):S28→List AV×Objs
 | .l0 v0 v1 v2 v3 v4=>(mk 94 [(5,.c (.ptr 5 0)),(6,.c (.str v0)),(8,.c (.int .i64 v1)),(9,.c (.int .i64 v2))],[(5,.box 78 [.list 3 ty3 v3,.int .i64 v4])])
def I28:S28→Nat
 | .l0 _ _ _ _ _=>0
theorem eq28 {R:Type} (B:Ops) (c58:C58) (c59:C59) (c57:C57) (c60:C60) (p0:L3) (p1:Int) (k:AV→Objs→Option R) (n:Nat):afun tau B gl0 X28 (ent 58 (e58 c58) (ent 59 (e59 c59) (ent 57 (e57 c57) (ent 60 (e60 c60) gnil)))) ow Tryd.f28 [.c (.list 3 ty3 p0),.c (.int .i64 p1)] [] k n=T28 B c58 c59 c57 c60 p0 p1 (fun s=>aloop tau B gl0 X28 (ent 58 (e58 c58) (ent 59 (e59 c59) (ent 57 (e57 c57) (ent 60 (e60 c60) gnil)))) ow [] Tryd.f28 k (I28 s) (E28 p0 p1 s) n) (K2 k) none:=by kernel_rfl
theorem el28 {R:Type} (B:Ops) (c58:C58) (c59:C59) (c57:C57) (c60:C60) (p0:L3) (p1:Int) (k:AV→Objs→Option R) (n:Nat):∀ s,aloop tau B gl0 X28 (ent 58 (e58 c58) (ent 59 (e59 c59) (ent 57 (e57 c57) (ent 60 (e60 c60) gnil)))) ow [] Tryd.f28 k (I28 s) (E28 p0 p1 s) (n+1)=T28 B c58 c59 c57 c60 p0 p1 (fun s=>aloop tau B gl0 X28 (ent 58 (e58 c58) (ent 59 (e59 c59) (ent 57 (e57 c57) (ent 60 (e60 c60) gnil)))) ow [] Tryd.f28 k (I28 s) (E28 p0 p1 s) n) (K2 k) (some s):=by
 intro s
 cases s<;>kernel_rfl
theorem nt28 {R R':Type} (B:Ops) (c58:C58) (c59:C59) (c57:C57) (c60:C60) (p0:L3) (p1:Int) (again:S28→Option R) (again':S28→Option R') (k0:(LB)→Option R') (k:R'→Option R) (h:∀ s,again s=ob (again' s) k):∀ s,T28 B c58 c59 c57 c60 p0 p1 again (fun y=>ob (k0 y) k) s=ob (T28 B c58 c59 c57 c60 p0 p1 again' k0 s) k:=by
 rintro (_ | x)
 all_goals try cases x
 all_goals (unfold T28;repeat' first | exact rfl | exact h _ | apply qaf | (apply qao;intro))
def R28 (c58:C58) (c59:C59) (c57:C57) (c60:C60) (p0:L3) (p1:Int):Nat→S28→Option (LB)
 | 0,_=>none
 | n+1,s=>T28 Ops.std c58 c59 c57 c60 p0 p1 (R28 c58 c59 c57 c60 p0 p1 n) some (some s)
theorem rr28 {R:Type} (c58:C58) (c59:C59) (c57:C57) (c60:C60) (p0:L3) (p1:Int) (k:AV→Objs→Option R):∀ (n:Nat) (s:S28),aloop tau Ops.std gl0 X28 (ent 58 (e58 c58) (ent 59 (e59 c59) (ent 57 (e57 c57) (ent 60 (e60 c60) gnil)))) ow [] Tryd.f28 k (I28 s) (E28 p0 p1 s) n=ob (R28 c58 c59 c57 c60 p0 p1 n s) (K2 k)
 | 0,s=>by cases s<;>rfl
 | n+1,s=>by rw [el28];exact nt28 Ops.std c58 c59 c57 c60 p0 p1 _ _ some (K2 k) (rr28 c58 c59 c57 c60 p0 p1 k n) (some s)
def F28 (c58:C58) (c59:C59) (c57:C57) (c60:C60) (p0:L3) (p1:Int):Option (LB):=T28 Ops.std c58 c59 c57 c60 p0 p1 (R28 c58 c59 c57 c60 p0 p1 1000000) some none
def e28 {R:Type} (c:L3→Int→Option (LB)):Ent R:=fun args objs k=>
 oL args 3 ty3 fun p0 l0=>oI l0 .i64 fun p1 l1=>oE l1 objs <| ob (c p0 p1) (K2 k)
abbrev Sp28 (c:L3→Int→Option (LB)):Prop:=∀ (p0:L3) (p1:Int) (y:LB),c p0 p1=some y→Spec Tryd.prog gl0 28 [.c (.list 3 ty3 p0),.c (.int .i64 p1)] [] (.c (.str y)) []
theorem ek28 {R:Type} {c:L3→Int→Option (LB)} (hs:Sp28 c):EOk 28 (e28 (R:=R) c):=fun args objs k r h=>by
 unfold e28 at h
 obtain ⟨p0,l0,rfl,q3⟩:=qaw h
 obtain ⟨p1,l1,rfl,q6⟩:=qau q3
 obtain ⟨rfl,rfl,q8⟩:=qam q6
 exact qap (hs p0 p1) q8
theorem sf28 {c58:C58} {c59:C59} {c57:C57} {c60:C60} (h58:Sp58 c58) (h59:Sp59 c59) (h57:Sp57 c57) (h60:Sp60 c60):Sp28 (F28 c58 c59 c57 c60):=fun p0 p1 y hy=>by
 refine qaj (qae (ek58 h58) (qae (ek59 h59) (qae (ek57 h57) (qae (ek60 h60) qai)))) 1000000 (fn:=Tryd.f28) (by kernel_rfl) (by kernel_rfl) (X:=X28) (by kernel_rfl) ?_
 rw [eq28]
 exact (nt28 Ops.std c58 c59 c57 c60 p0 p1 _ _ some (K2 k0) (rr28 c58 c59 c57 c60 p0 p1 k0 1000000) none).trans (by show ob (F28 c58 c59 c57 c60 p0 p1) _=_;rw [hy];rfl)
noncomputable def M28:L3→Int→Option (LB):=F28 M58 M59 M57 M60
theorem sm28:Sp28 M28:=sf28 sm58 sm59 sm57 sm60
def X31:Aux:=⟨[],[]⟩
def T31 {R:Type} (B:Ops) (p0:Int) (k:(Bool)→Option R):Option R:=cond (B.le (48) p0) (k (B.le p0 (57))) (k false)
theorem eq31 {R:Type} (B:Ops) (p0:Int) (k:AV→Objs→Option R) (n:Nat):afun tau B gl0 X31 gnil ow Tryd.f31 [.c (.int .u8 p0)] [] k n=T31 B p0 (K1 k):=by kernel_rfl
theorem nt31 {R R':Type} (B:Ops) (p0:Int) (k0:(Bool)→Option R') (k:R'→Option R):T31 B p0 (fun y=>ob (k0 y) k)=ob (T31 B p0 k0) k:=by
 unfold T31
 repeat' first | exact rfl | apply qaf | (apply qao;intro)
def F31 (p0:Int):Option (Bool):=T31 Ops.std p0 some
def e31 {R:Type} (c:Int→Option (Bool)):Ent R:=fun args objs k=>
 oI args .u8 fun p0 l0=>oE l0 objs <| ob (c p0) (K1 k)
abbrev Sp31 (c:Int→Option (Bool)):Prop:=∀ (p0:Int) (y:Bool),c p0=some y→Spec Tryd.prog gl0 31 [.c (.int .u8 p0)] [] (.c (.bool y)) []
theorem ek31 {R:Type} {c:Int→Option (Bool)} (hs:Sp31 c):EOk 31 (e31 (R:=R) c):=fun args objs k r h=>by
 unfold e31 at h
 obtain ⟨p0,l0,rfl,q3⟩:=qau h
 obtain ⟨rfl,rfl,q5⟩:=qam q3
 exact qap (hs p0) q5
theorem sf31:Sp31 (F31):=fun p0 y hy=>by
 refine qaj qai 1000000 (fn:=Tryd.f31) (by kernel_rfl) (by kernel_rfl) (X:=X31) (by kernel_rfl) ?_
 rw [eq31]
 exact (nt31 Ops.std p0 some (K1 k0)).trans (by show ob (F31 p0) _=_;rw [hy];rfl)
noncomputable def M31:Int→Option (Bool):=F31
theorem sm31:Sp31 M31:=sf31
def X32:Aux:=⟨[],[]⟩
def T32 {R:Type} (B:Ops) (p0:Int) (k:(Bool)→Option R):Option R:=cond (B.le (97) p0) (cond (B.le p0 (122)) (k true) (k (B.eq p0 (95)))) (k (B.eq p0 (95)))
theorem eq32 {R:Type} (B:Ops) (p0:Int) (k:AV→Objs→Option R) (n:Nat):afun tau B gl0 X32 gnil ow Tryd.f32 [.c (.int .u8 p0)] [] k n=T32 B p0 (K1 k):=by kernel_rfl
theorem nt32 {R R':Type} (B:Ops) (p0:Int) (k0:(Bool)→Option R') (k:R'→Option R):T32 B p0 (fun y=>ob (k0 y) k)=ob (T32 B p0 k0) k:=by
 unfold T32
 repeat' first | exact rfl | apply qaf | (apply qao;intro)
def F32 (p0:Int):Option (Bool):=T32 Ops.std p0 some
def e32 {R:Type} (c:Int→Option (Bool)):Ent R:=fun args objs k=>
 oI args .u8 fun p0 l0=>oE l0 objs <| ob (c p0) (K1 k)
abbrev Sp32 (c:Int→Option (Bool)):Prop:=∀ (p0:Int) (y:Bool),c p0=some y→Spec Tryd.prog gl0 32 [.c (.int .u8 p0)] [] (.c (.bool y)) []
theorem ek32 {R:Type} {c:Int→Option (Bool)} (hs:Sp32 c):EOk 32 (e32 (R:=R) c):=fun args objs k r h=>by
 unfold e32 at h
 obtain ⟨p0,l0,rfl,q3⟩:=qau h
 obtain ⟨rfl,rfl,q5⟩:=qam q3
 exact qap (hs p0) q5
theorem sf32:Sp32 (F32):=fun p0 y hy=>by
 refine qaj qai 1000000 (fn:=Tryd.f32) (by kernel_rfl) (by kernel_rfl) (X:=X32) (by kernel_rfl) ?_
 rw [eq32]
 exact (nt32 Ops.std p0 some (K1 k0)).trans (by show ob (F32 p0) _=_;rw [hy];rfl)
noncomputable def M32:Int→Option (Bool):=F32
theorem sm32:Sp32 M32:=sf32
def X33:Aux:=⟨[(3,([1,2]++rg 5 37)),(9,([1,2,3,4]++rg 7 35))],[(5,.lin (rg 0 11)),(11,.lin [0,1,2,3,4,5,6,7])]⟩
inductive S33 where
 | l0 (v1:Int)
 | l1 (v2:Int)
def T33 {R:Type} (B:Ops) (p0:LB) (again:S33→Option R) (k:(LB)→Option R):Option S33→Option R | none=>again (.l0 0) | some (.l0 v1)=>cond (B.lt v1 (7)) (cond (B.lt (1) (↑p0.length)) (cond (B.inb (2) (List.length p0+1)) (cond (B.inb v1 (9)) (cond (List.drop (0) (List.take (Int.toNat (2)) p0) == List.getD (([60,61]:LB)::([62,61]:LB)::([61,61]:LB)::([33,61]:LB)::([38,38]:LB)::([124,124]:LB)::([45,62]:LB)::(mt UInt8)::(mt UInt8)::mt LB) v1.toNat (mt UInt8)) (cond (B.inb v1 (9)) (k (List.getD (([60,61]:LB)::([62,61]:LB)::([61,61]:LB)::([33,61]:LB)::([38,38]:LB)::([124,124]:LB)::([45,62]:LB)::(mt UInt8)::(mt UInt8)::mt LB) v1.toNat (mt UInt8))) none) (again (.l0 (IntKind.wrap .i64 (v1+1))))) none) none) (again (.l0 (IntKind.wrap .i64 (v1+1))))) (again (.l1 0)) | some (.l1 v2)=>cond (B.lt v2 (Nat.cast (13))) (cond (B.inb (1) (List.length p0+1)) (cond (B.inb (IntKind.wrap .i64 (v2+1)) (13+1)) (cond (bif B.le (0) v2 then B.le v2 (IntKind.wrap .i64 (v2+1)) else false) (cond (List.drop (0) (List.take (Int.toNat (1)) p0) == List.drop v2.toNat (List.take (Int.toNat (IntKind.wrap .i64 (v2+1))) ([40,41,91,93,43,45,42,60,62,33,64,59,61]:LB))) (cond (B.inb (1) (List.length p0+1)) (k (List.drop (0) (List.take (Int.toNat (1)) p0))) none) (again (.l1 (IntKind.wrap .i64 (v2+1))))) none) none) none) (k (mt UInt8))
def E33 (p0:LB):S33→List AV×Objs
 | .l0 v1=>(mk 42 [(0,.c (.str p0)),(3,.c (.ptr 3 0)),(4,.c (.int .i64 v1))],[(3,.box 117 [.str ([60,61]:LB),.str ([62,61]:LB),.str ([61,61]:LB),.str ([33,61]:LB),.str ([38,38]:LB),.str ([124,124]:LB),.str ([45,62]:LB),.str (mt UInt8),.str (mt UInt8)])])
 | .l1 v2=>(mk 42 [(0,.c (.str p0)),(5,.c (.str ([40,41,91,93,43,45,42,60,62,33,64,59,61]:LB))),(6,.c (.int .i64 v2))],[])
def I33:S33→Nat
 | .l0 _=>0
 | .l1 _=>1
theorem eq33 {R:Type} (B:Ops) (p0:LB) (k:AV→Objs→Option R) (n:Nat):afun tau B gl0 X33 gnil ow Tryd.f33 [.c (.str p0)] [] k n=T33 B p0 (fun s=>aloop tau B gl0 X33 gnil ow [] Tryd.f33 k (I33 s) (E33 p0 s) n) (K2 k) none:=by kernel_rfl
theorem el33 {R:Type} (B:Ops) (p0:LB) (k:AV→Objs→Option R) (n:Nat):∀ s,aloop tau B gl0 X33 gnil ow [] Tryd.f33 k (I33 s) (E33 p0 s) (n+1)=T33 B p0 (fun s=>aloop tau B gl0 X33 gnil ow [] Tryd.f33 k (I33 s) (E33 p0 s) n) (K2 k) (some s):=by
 intro s
 cases s<;>kernel_rfl
theorem nt33 {R R':Type} (B:Ops) (p0:LB) (again:S33→Option R) (again':S33→Option R') (k0:(LB)→Option R') (k:R'→Option R) (h:∀ s,again s=ob (again' s) k):∀ s,T33 B p0 again (fun y=>ob (k0 y) k) s=ob (T33 B p0 again' k0 s) k:=by
 rintro (_ | x)
 all_goals try cases x
 all_goals (unfold T33;repeat' first | exact rfl | exact h _ | apply qaf | (apply qao;intro))
def R33 (p0:LB):Nat→S33→Option (LB)
 | 0,_=>none
 | n+1,s=>T33 Ops.std p0 (R33 p0 n) some (some s)
theorem rr33 {R:Type} (p0:LB) (k:AV→Objs→Option R):∀ (n:Nat) (s:S33),aloop tau Ops.std gl0 X33 gnil ow [] Tryd.f33 k (I33 s) (E33 p0 s) n=ob (R33 p0 n s) (K2 k)
 | 0,s=>by cases s<;>rfl
 | n+1,s=>by rw [el33];exact nt33 Ops.std p0 _ _ some (K2 k) (rr33 p0 k n) (some s)
def F33 (p0:LB):Option (LB):=T33 Ops.std p0 (R33 p0 1000000) some none
def e33 {R:Type} (c:LB→Option (LB)):Ent R:=fun args objs k=>
 oS args fun p0 l0=>oE l0 objs <| ob (c p0) (K2 k)
abbrev Sp33 (c:LB→Option (LB)):Prop:=∀ (p0:LB) (y:LB),c p0=some y→Spec Tryd.prog gl0 33 [.c (.str p0)] [] (.c (.str y)) []
theorem ek33 {R:Type} {c:LB→Option (LB)} (hs:Sp33 c):EOk 33 (e33 (R:=R) c):=fun args objs k r h=>by
 unfold e33 at h
 obtain ⟨p0,l0,rfl,q3⟩:=qa8 h
 obtain ⟨rfl,rfl,q5⟩:=qam q3
 exact qap (hs p0) q5
theorem sf33:Sp33 (F33):=fun p0 y hy=>by
 refine qaj qai 1000000 (fn:=Tryd.f33) (by kernel_rfl) (by kernel_rfl) (X:=X33) (by kernel_rfl) ?_
 rw [eq33]
 exact (nt33 Ops.std p0 _ _ some (K2 k0) (rr33 p0 k0 1000000) none).trans (by show ob (F33 p0) _=_;rw [hy];rfl)
noncomputable def M33:LB→Option (LB):=F33
theorem sm33:Sp33 M33:=sf33
def X9:Aux:=⟨[(5,([1,2,3,4]++rg 7 144)),(17,([1,2,3,4]++rg 9 142)),(25,([1,2,3,4]++rg 9 142)),(1000020,([1,2,3,4]++rg 9 142)),(1000026,([1,2,3,4]++rg 9 142)),(1000027,([1,2,3,4]++rg 9 142)),(1000031,([1,2,3,4,7]++rg 9 142)),(1000010,([1,2,3,4,7]++rg 9 142)),(1000032,([1,2,3,4]++rg 9 142))],[(19,.lin (rg 0 13))]⟩
inductive S9 where
 | l0 (v1:Int) (v2:L30)
 | l1 (v1:Int) (v2:Int) (v3:L30) (v6:Int) (v7:Int)
 | l2 (v1:Int) (v2:Int) (v3:L30) (v7:Int)
 | l1010 (v1:Int) (v2:L30) (v6:Int)
 | l1020 (v1:Int) (v2:Int) (v3:L30) (v6:Int) (v7:Int)
 | l1026 (v1:Int) (v2:Int) (v3:L30) (v7:Int)
 | l1027 (v1:Int) (v2:Int) (v3:L30) (v7:Int)
 | l1031 (v1:Int) (v2:L30) (v6:Int)
 | l1032 (v1:Int) (v2:Int) (v3:L30) (v4:Int) (v6:Int) (v7:Int)
abbrev C31:Type:=Int→Option (Bool)
abbrev C32:Type:=Int→Option (Bool)
abbrev C33:Type:=LB→Option (LB)
def T9 {R:Type} (B:Ops) (c31:C31) (c32:C32) (c33:C33) (p0:LB) (again:S9→Option R) (k:(Int×Int×L30)→Option R):Option S9→Option R | none=>cond (B.lt (60000) (↑p0.length)) (k ((14,0,mt (Ty.den ty30)))) (again (.l0 0 (mt (Ty.den ty30)))) | some (.l0 v1 v2)=>cond (B.lt v1 (↑p0.length)) (cond (B.inb v1 p0.length) (cond (B.eq (Nat.cast (UInt8.toNat (p0.getD v1.toNat (0)))) (32)) (again (.l0 (IntKind.wrap .i64 (v1+1)) v2)) (cond (B.eq (Nat.cast (UInt8.toNat (p0.getD v1.toNat (0)))) (9)) (again (.l0 (IntKind.wrap .i64 (v1+1)) v2)) (cond (B.eq (Nat.cast (UInt8.toNat (p0.getD v1.toNat (0)))) (10)) (again (.l0 (IntKind.wrap .i64 (v1+1)) v2)) (ob (c31 (Nat.cast (UInt8.toNat (p0.getD v1.toNat (0))))) fun y0=>cond (y0) (again (.l1 v1 0 v2 0 v1)) (ob (c32 (Nat.cast (UInt8.toNat (p0.getD v1.toNat (0))))) fun y1=>cond (y1) (again (.l2 v1 0 v2 v1)) (cond (B.eq (Nat.cast (UInt8.toNat (p0.getD v1.toNat (0)))) (88)) (again (.l1031 v1 v2 v1)) (cond (B.eq (Nat.cast (UInt8.toNat (p0.getD v1.toNat (0)))) (70)) (again (.l1031 v1 v2 v1)) (cond (B.eq (Nat.cast (UInt8.toNat (p0.getD v1.toNat (0)))) (71)) (again (.l1031 v1 v2 v1)) (cond (B.eq (Nat.cast (UInt8.toNat (p0.getD v1.toNat (0)))) (85)) (again (.l1031 v1 v2 v1)) (cond (B.eq (Nat.cast (UInt8.toNat (p0.getD v1.toNat (0)))) (82)) (again (.l1031 v1 v2 v1)) (again (.l1010 v1 v2 v1)))))))))))) none) (cond (B.lim (List.length v2+List.length ((5,mt UInt8,0,v1)::mt (Ty.den ty30))) (40)) (k ((0,0,v2++(5,mt UInt8,0,v1)::mt (Ty.den ty30)))) none) | some (.l1 v1 v2 v3 v6 v7)=>cond (B.lt (IntKind.wrap .i64 (v1+v2)) (↑p0.length)) (cond (B.inb (IntKind.wrap .i64 (v1+v2)) p0.length) (ob (c31 (Nat.cast (UInt8.toNat (p0.getD (Int.toNat (IntKind.wrap .i64 (v1+v2))) (0))))) fun y0=>cond (y0) (cond (B.lt v2 (3)) (cond (B.inb (IntKind.wrap .i64 (v1+v2)) p0.length) (again (.l1020 v1 v2 v3 (IntKind.wrap .i64 (IntKind.wrap .i64 (10*v6)+IntKind.wrap .i64 (IntKind.wrap IntKind.u8 (Nat.cast (UInt8.toNat (p0.getD (Int.toNat (IntKind.wrap .i64 (v1+v2))) (0)))-48)))) v7)) none) (again (.l1020 v1 v2 v3 v6 v7))) (cond (B.lt (3) v2) (k ((2,v1,mt (Ty.den ty30)))) (again (.l1032 v1 v2 v3 1 v6 v7)))) none) (cond (B.lt (3) v2) (k ((2,v1,mt (Ty.den ty30)))) (again (.l1032 v1 v2 v3 1 v6 v7))) | some (.l2 v1 v2 v3 v7)=>cond (B.lt (IntKind.wrap .i64 (v1+v2)) (↑p0.length)) (cond (B.inb (IntKind.wrap .i64 (v1+v2)) p0.length) (ob (c32 (Nat.cast (UInt8.toNat (p0.getD (Int.toNat (IntKind.wrap .i64 (v1+v2))) (0))))) fun y0=>cond (y0) (again (.l1026 v1 v2 v3 v7)) (cond (B.inb (IntKind.wrap .i64 (v1+v2)) p0.length) (ob (c31 (Nat.cast (UInt8.toNat (p0.getD (Int.toNat (IntKind.wrap .i64 (v1+v2))) (0))))) fun y1=>cond (y1) (again (.l1026 v1 v2 v3 v7)) (again (.l1027 v1 v2 v3 v7))) none)) none) (again (.l1027 v1 v2 v3 v7)) | some (.l1010 v1 v2 v6)=>cond (B.inb v1 (List.length p0+1)) (ob (c33 (List.drop v1.toNat (List.take p0.length p0))) fun y0=>cond (B.eq (↑y0.length) (0)) (k ((2,v1,mt (Ty.den ty30)))) (again (.l1032 v1 (↑y0.length) v2 4 0 v6))) none | some (.l1020 v1 v2 v3 v6 v7)=>again (.l1 v1 (IntKind.wrap .i64 (v2+1)) v3 v6 v7) | some (.l1026 v1 v2 v3 v7)=>again (.l2 v1 (IntKind.wrap .i64 (v2+1)) v3 v7) | some (.l1027 v1 v2 v3 v7)=>cond (B.lt (8) v2) (k ((2,v1,mt (Ty.den ty30)))) (again (.l1032 v1 v2 v3 2 0 v7)) | some (.l1031 v1 v2 v6)=>again (.l1032 v1 1 v2 3 0 v6) | some (.l1032 v1 v2 v3 v4 v6 v7)=>cond (B.inb (IntKind.wrap .i64 (v1+v2)) (List.length p0+1)) (cond (bif B.le (0) v1 then B.le v1 (IntKind.wrap .i64 (v1+v2)) else false) (cond (B.lim (List.length v3+List.length ((v4,List.drop v1.toNat (List.take (Int.toNat (IntKind.wrap .i64 (v1+v2))) p0),v6,v7)::mt (Ty.den ty30))) (40)) (again (.l0 (IntKind.wrap .i64 (v1+v2)) (v3++(v4,List.drop v1.toNat (List.take (Int.toNat (IntKind.wrap .i64 (v1+v2))) p0),v6,v7)::mt (Ty.den ty30)))) none) none) none
def E9 (p0:LB):S9→List AV×Objs
 | .l0 v1 v2=>(mk 151 [(0,.c (.str p0)),(5,.c (.own 5)),(6,.c (.int .i64 v1))],[(5,.row 30 ty30 v2)])
 | .l1 v1 v2 v3 v6 v7=>(mk 151 [(0,.c (.str p0)),(5,.c (.own 5)),(6,.c (.int .i64 v1)),(7,.c (.int .i64 v2)),(8,.c (.ptr 8 0))],[(5,.row 30 ty30 v3),(8,.box 30 [.int .i64 1,.str (mt UInt8),.int .i64 v6,.int .i64 v7])])
 | .l2 v1 v2 v3 v7=>(mk 151 [(0,.c (.str p0)),(5,.c (.own 5)),(6,.c (.int .i64 v1)),(7,.c (.int .i64 v2)),(8,.c (.ptr 8 0))],[(5,.row 30 ty30 v3),(8,.box 30 [.int .i64 2,.str (mt UInt8),.int .i64 0,.int .i64 v7])])
 | .l1010 v1 v2 v6=>(mk 151 [(0,.c (.str p0)),(5,.c (.own 5)),(6,.c (.int .i64 v1)),(8,.c (.ptr 8 0))],[(5,.row 30 ty30 v2),(8,.box 30 [.int .i64 4,.str (mt UInt8),.int .i64 0,.int .i64 v6])])
 | .l1020 v1 v2 v3 v6 v7=>(mk 151 [(0,.c (.str p0)),(5,.c (.own 5)),(6,.c (.int .i64 v1)),(7,.c (.int .i64 v2)),(8,.c (.ptr 8 0))],[(5,.row 30 ty30 v3),(8,.box 30 [.int .i64 1,.str (mt UInt8),.int .i64 v6,.int .i64 v7])])
 | .l1026 v1 v2 v3 v7=>(mk 151 [(0,.c (.str p0)),(5,.c (.own 5)),(6,.c (.int .i64 v1)),(7,.c (.int .i64 v2)),(8,.c (.ptr 8 0))],[(5,.row 30 ty30 v3),(8,.box 30 [.int .i64 2,.str (mt UInt8),.int .i64 0,.int .i64 v7])])
 | .l1027 v1 v2 v3 v7=>(mk 151 [(0,.c (.str p0)),(5,.c (.own 5)),(6,.c (.int .i64 v1)),(7,.c (.int .i64 v2)),(8,.c (.ptr 8 0))],[(5,.row 30 ty30 v3),(8,.box 30 [.int .i64 2,.str (mt UInt8),.int .i64 0,.int .i64 v7])])
 | .l1031 v1 v2 v6=>(mk 151 [(0,.c (.str p0)),(5,.c (.own 5)),(6,.c (.int .i64 v1)),(8,.c (.ptr 8 0))],[(5,.row 30 ty30 v2),(8,.box 30 [.int .i64 3,.str (mt UInt8),.int .i64 0,.int .i64 v6])])
 | .l1032 v1 v2 v3 v4 v6 v7=>(mk 151 [(0,.c (.str p0)),(5,.c (.own 5)),(6,.c (.int .i64 v1)),(7,.c (.int .i64 v2)),(8,.c (.ptr 8 0))],[(5,.row 30 ty30 v3),(8,.box 30 [.int .i64 v4,.str (mt UInt8),.int .i64 v6,.int .i64 v7])])
def I9:S9→Nat
 | .l0 _ _=>0
 | .l1 _ _ _ _ _=>1
 | .l2 _ _ _ _=>2
 | .l1010 _ _ _=>1010
 | .l1020 _ _ _ _ _=>1020
 | .l1026 _ _ _ _=>1026
 | .l1027 _ _ _ _=>1027
 | .l1031 _ _ _=>1031
 | .l1032 _ _ _ _ _ _=>1032
abbrev K6 {R:Type} (k:AV→Objs→Option R) (y:(Int×Int×L30)):Option R:=k (.tup [(false,[.own 501000]),(false,[.int .i64 y.1]),(false,[.int .i64 y.2.1])]) [(501000,.row 30 ty30 y.2.2)]
theorem eq9 {R:Type} (B:Ops) (c31:C31) (c32:C32) (c33:C33) (p0:LB) (k:AV→Objs→Option R) (n:Nat):afun tau B gl0 X9 (ent 31 (e31 c31) (ent 32 (e32 c32) (ent 33 (e33 c33) gnil))) ow Tryd.f9 [.c (.str p0)] [] k n=T9 B c31 c32 c33 p0 (fun s=>aloop tau B gl0 X9 (ent 31 (e31 c31) (ent 32 (e32 c32) (ent 33 (e33 c33) gnil))) ow [] Tryd.f9 k (I9 s) (E9 p0 s) n) (K6 k) none:=by kernel_rfl
theorem el9 {R:Type} (B:Ops) (c31:C31) (c32:C32) (c33:C33) (p0:LB) (k:AV→Objs→Option R) (n:Nat):∀ s,aloop tau B gl0 X9 (ent 31 (e31 c31) (ent 32 (e32 c32) (ent 33 (e33 c33) gnil))) ow [] Tryd.f9 k (I9 s) (E9 p0 s) (n+1)=T9 B c31 c32 c33 p0 (fun s=>aloop tau B gl0 X9 (ent 31 (e31 c31) (ent 32 (e32 c32) (ent 33 (e33 c33) gnil))) ow [] Tryd.f9 k (I9 s) (E9 p0 s) n) (K6 k) (some s):=by
 intro s
 cases s<;>kernel_rfl
theorem nt9 {R R':Type} (B:Ops) (c31:C31) (c32:C32) (c33:C33) (p0:LB) (again:S9→Option R) (again':S9→Option R') (k0:(Int×Int×L30)→Option R') (k:R'→Option R) (h:∀ s,again s=ob (again' s) k):∀ s,T9 B c31 c32 c33 p0 again (fun y=>ob (k0 y) k) s=ob (T9 B c31 c32 c33 p0 again' k0 s) k:=by
 rintro (_ | x)
 all_goals try cases x
 all_goals (unfold T9;repeat' first | exact rfl | exact h _ | apply qaf | (apply qao;intro))
def R9 (c31:C31) (c32:C32) (c33:C33) (p0:LB):Nat→S9→Option (Int×Int×L30)
 | 0,_=>none
 | n+1,s=>T9 Ops.std c31 c32 c33 p0 (R9 c31 c32 c33 p0 n) some (some s)
theorem rr9 {R:Type} (c31:C31) (c32:C32) (c33:C33) (p0:LB) (k:AV→Objs→Option R):∀ (n:Nat) (s:S9),aloop tau Ops.std gl0 X9 (ent 31 (e31 c31) (ent 32 (e32 c32) (ent 33 (e33 c33) gnil))) ow [] Tryd.f9 k (I9 s) (E9 p0 s) n=ob (R9 c31 c32 c33 p0 n s) (K6 k)
 | 0,s=>by cases s<;>rfl
 | n+1,s=>by rw [el9];exact nt9 Ops.std c31 c32 c33 p0 _ _ some (K6 k) (rr9 c31 c32 c33 p0 k n) (some s)
def F9 (c31:C31) (c32:C32) (c33:C33) (p0:LB):Option (Int×Int×L30):=T9 Ops.std c31 c32 c33 p0 (R9 c31 c32 c33 p0 1000000) some none
def e9 {R:Type} (c:LB→Option (Int×Int×L30)):Ent R:=fun args objs k=>
 oS args fun p0 l0=>oE l0 objs <| ob (c p0) (K6 k)
abbrev Sp9 (c:LB→Option (Int×Int×L30)):Prop:=∀ (p0:LB) (y:Int×Int×L30),c p0=some y→Spec Tryd.prog gl0 9 [.c (.str p0)] [] (.tup [(false,[.own 501000]),(false,[.int .i64 y.1]),(false,[.int .i64 y.2.1])]) [(501000,.row 30 ty30 y.2.2)]
theorem ek9 {R:Type} {c:LB→Option (Int×Int×L30)} (hs:Sp9 c):EOk 9 (e9 (R:=R) c):=fun args objs k r h=>by
 unfold e9 at h
 obtain ⟨p0,l0,rfl,q3⟩:=qa8 h
 obtain ⟨rfl,rfl,q5⟩:=qam q3
 exact qap (hs p0) q5
theorem sf9 {c31:C31} {c32:C32} {c33:C33} (h31:Sp31 c31) (h32:Sp32 c32) (h33:Sp33 c33):Sp9 (F9 c31 c32 c33):=fun p0 y hy=>by
 refine qaj (qae (ek31 h31) (qae (ek32 h32) (qae (ek33 h33) qai))) 1000000 (fn:=Tryd.f9) (by kernel_rfl) (by kernel_rfl) (X:=X9) (by kernel_rfl) ?_
 rw [eq9]
 exact (nt9 Ops.std c31 c32 c33 p0 _ _ some (K6 k0) (rr9 c31 c32 c33 p0 k0 1000000) none).trans (by show ob (F9 c31 c32 c33 p0) _=_;rw [hy];rfl)
noncomputable def M9:LB→Option (Int×Int×L30):=F9 M31 M32 M33
theorem sm9:Sp9 M9:=sf9 sm31 sm32 sm33
def X10:Aux:=⟨[],[]⟩
abbrev C35:Type:=LB→Option (LB)
abbrev C139:Type:=LB→Option (LB)
def T10 {R:Type} (B:Ops) (c34:C34) (c35:C35) (c36:C36) (c139:C139) (p0:LB) (k:(Bool)→Option R):Option R:=cond (!p0 == mt UInt8) (cond (B.le (↑p0.length) (8)) (cond (B.inb (0) p0.length) (ob (c34 (Nat.cast (UInt8.toNat (p0.getD (Int.toNat (0)) (0))))) fun y0=>cond (y0) (ob (c35 p0) fun y1=>k (y1 == p0)) (k false)) none) (k false)) (k false)
theorem eq10 {R:Type} (B:Ops) (c34:C34) (c35:C35) (c36:C36) (c139:C139) (p0:LB) (k:AV→Objs→Option R) (n:Nat):afun tau B gl0 X10 (ent 34 (e34 c34) (ent 35 (eAlt 1 36 (e35 c35) (e139 c139)) (ent 36 (e36 c36) gnil))) ow Tryd.f10 [.c (.str p0)] [] k n=T10 B c34 c35 c36 c139 p0 (K1 k):=by kernel_rfl
theorem nt10 {R R':Type} (B:Ops) (c34:C34) (c35:C35) (c36:C36) (c139:C139) (p0:LB) (k0:(Bool)→Option R') (k:R'→Option R):T10 B c34 c35 c36 c139 p0 (fun y=>ob (k0 y) k)=ob (T10 B c34 c35 c36 c139 p0 k0) k:=by
 unfold T10
 repeat' first | exact rfl | apply qaf | (apply qao;intro)
def F10 (c34:C34) (c35:C35) (c36:C36) (c139:C139) (p0:LB):Option (Bool):=T10 Ops.std c34 c35 c36 c139 p0 some
def e10 {R:Type} (c:LB→Option (Bool)):Ent R:=fun args objs k=>
 oS args fun p0 l0=>oE l0 objs <| ob (c p0) (K1 k)
abbrev Sp10 (c:LB→Option (Bool)):Prop:=∀ (p0:LB) (y:Bool),c p0=some y→Spec Tryd.prog gl0 10 [.c (.str p0)] [] (.c (.bool y)) []
theorem ek10 {R:Type} {c:LB→Option (Bool)} (hs:Sp10 c):EOk 10 (e10 (R:=R) c):=fun args objs k r h=>by
 unfold e10 at h
 obtain ⟨p0,l0,rfl,q3⟩:=qa8 h
 obtain ⟨rfl,rfl,q5⟩:=qam q3
 exact qap (hs p0) q5
theorem sf10 {c34:C34} {c35:C35} {c36:C36} {c139:C139} (h34:Sp34 c34) (h35:Sp35 c35) (h36:Sp36 c36) (h139:Sp139 c139):Sp10 (F10 c34 c35 c36 c139):=fun p0 y hy=>by
 refine qaj (G:=ent 34 (e34 c34) (ent 35 (eAlt 1 36 (e35 c35) (e139 c139)) (ent 36 (e36 c36) gnil))) (qae (ek34 h34) (qae (eAlt_ok (ek35 h35) (ek139 h139)) (qae (ek36 h36) qai))) 1000000 (fn:=Tryd.f10) (by kernel_rfl) (by kernel_rfl) (X:=X10) (by kernel_rfl) ?_
 rw [eq10]
 exact (nt10 Ops.std c34 c35 c36 c139 p0 some (K1 k0)).trans (by show ob (F10 c34 c35 c36 c139 p0) _=_;rw [hy];rfl)
noncomputable def M10:LB→Option (Bool):=F10 M34 M35 M36 M139
theorem sm10:Sp10 M10:=sf10 sm34 sm35 sm36 sm139
def X11:Aux:=⟨[(2,([1,2]++rg 4 30))],[]⟩
inductive S11 where
 | l0 (v1:Int)
def T11 {R:Type} (B:Ops) (c32:C32) (c31:C31) (p0:LB) (again:S11→Option R) (k:(Bool)→Option R):Option S11→Option R | none=>again (.l0 0) | some (.l0 v1)=>cond (B.lt v1 (↑p0.length)) (cond (B.inb v1 p0.length) (ob (c32 (Nat.cast (UInt8.toNat (p0.getD v1.toNat (0))))) fun y0=>cond (!y0) (cond (B.eq v1 (0)) (k false) (cond (B.inb v1 p0.length) (ob (c31 (Nat.cast (UInt8.toNat (p0.getD v1.toNat (0))))) fun y1=>cond (!y1) (k false) (again (.l0 (IntKind.wrap .i64 (v1+1))))) none)) (again (.l0 (IntKind.wrap .i64 (v1+1))))) none) (cond (B.le (1) (↑p0.length)) (k (B.le (↑p0.length) (8))) (k false))
def E11 (p0:LB):S11→List AV×Objs
 | .l0 v1=>(mk 34 [(0,.c (.str p0)),(3,.c (.int .i64 v1))],[])
def I11:S11→Nat
 | .l0 _=>0
theorem eq11 {R:Type} (B:Ops) (c32:C32) (c31:C31) (p0:LB) (k:AV→Objs→Option R) (n:Nat):afun tau B gl0 X11 (ent 32 (e32 c32) (ent 31 (e31 c31) gnil)) ow Tryd.f11 [.c (.str p0)] [] k n=T11 B c32 c31 p0 (fun s=>aloop tau B gl0 X11 (ent 32 (e32 c32) (ent 31 (e31 c31) gnil)) ow [] Tryd.f11 k (I11 s) (E11 p0 s) n) (K1 k) none:=by kernel_rfl
theorem el11 {R:Type} (B:Ops) (c32:C32) (c31:C31) (p0:LB) (k:AV→Objs→Option R) (n:Nat):∀ s,aloop tau B gl0 X11 (ent 32 (e32 c32) (ent 31 (e31 c31) gnil)) ow [] Tryd.f11 k (I11 s) (E11 p0 s) (n+1)=T11 B c32 c31 p0 (fun s=>aloop tau B gl0 X11 (ent 32 (e32 c32) (ent 31 (e31 c31) gnil)) ow [] Tryd.f11 k (I11 s) (E11 p0 s) n) (K1 k) (some s):=by
 intro s
 cases s<;>kernel_rfl
theorem nt11 {R R':Type} (B:Ops) (c32:C32) (c31:C31) (p0:LB) (again:S11→Option R) (again':S11→Option R') (k0:(Bool)→Option R') (k:R'→Option R) (h:∀ s,again s=ob (again' s) k):∀ s,T11 B c32 c31 p0 again (fun y=>ob (k0 y) k) s=ob (T11 B c32 c31 p0 again' k0 s) k:=by
 rintro (_ | x)
 all_goals try cases x
 all_goals (unfold T11;repeat' first | exact rfl | exact h _ | apply qaf | (apply qao;intro))
def R11 (c32:C32) (c31:C31) (p0:LB):Nat→S11→Option (Bool)
 | 0,_=>none
 | n+1,s=>T11 Ops.std c32 c31 p0 (R11 c32 c31 p0 n) some (some s)
theorem rr11 {R:Type} (c32:C32) (c31:C31) (p0:LB) (k:AV→Objs→Option R):∀ (n:Nat) (s:S11),aloop tau Ops.std gl0 X11 (ent 32 (e32 c32) (ent 31 (e31 c31) gnil)) ow [] Tryd.f11 k (I11 s) (E11 p0 s) n=ob (R11 c32 c31 p0 n s) (K1 k)
 | 0,s=>by cases s<;>rfl
 | n+1,s=>by rw [el11];exact nt11 Ops.std c32 c31 p0 _ _ some (K1 k) (rr11 c32 c31 p0 k n) (some s)
def F11 (c32:C32) (c31:C31) (p0:LB):Option (Bool):=T11 Ops.std c32 c31 p0 (R11 c32 c31 p0 10000000000000000000) some none
def e11 {R:Type} (c:LB→Option (Bool)):Ent R:=fun args objs k=>
 oS args fun p0 l0=>oE l0 objs <| ob (c p0) (K1 k)
abbrev Sp11 (c:LB→Option (Bool)):Prop:=∀ (p0:LB) (y:Bool),c p0=some y→Spec Tryd.prog gl0 11 [.c (.str p0)] [] (.c (.bool y)) []
theorem ek11 {R:Type} {c:LB→Option (Bool)} (hs:Sp11 c):EOk 11 (e11 (R:=R) c):=fun args objs k r h=>by
 unfold e11 at h
 obtain ⟨p0,l0,rfl,q3⟩:=qa8 h
 obtain ⟨rfl,rfl,q5⟩:=qam q3
 exact qap (hs p0) q5
theorem sf11 {c32:C32} {c31:C31} (h32:Sp32 c32) (h31:Sp31 c31):Sp11 (F11 c32 c31):=fun p0 y hy=>by
 refine qaj (qae (ek32 h32) (qae (ek31 h31) qai)) 10000000000000000000 (fn:=Tryd.f11) (by kernel_rfl) (by kernel_rfl) (X:=X11) (by kernel_rfl) ?_
 rw [eq11]
 exact (nt11 Ops.std c32 c31 p0 _ _ some (K1 k0) (rr11 c32 c31 p0 k0 10000000000000000000) none).trans (by show ob (F11 c32 c31 p0) _=_;rw [hy];rfl)
noncomputable def M11:LB→Option (Bool):=F11 M32 M31
theorem sm11:Sp11 M11:=sf11 sm32 sm31
def X37:Aux:=⟨[],[]⟩
def T37 {R:Type} (B:Ops) (p0:Int) (p1:L4) (k:(Int×Bool)→Option R):Option R:=cond (B.eq (↑p1.length) (0)) (k ((0,true))) (cond (B.lt p0 (0)) (k ((0,false))) (cond (B.le (↑p1.length) p0) (k ((0,false))) (cond (B.inb p0 p1.length) (cond (!p1.getD p0.toNat ty4.dflt) (k ((p0,false))) (cond (B.lt (IntKind.wrap .i64 (p0+1)) (↑p1.length)) (k ((IntKind.wrap .i64 (p0+1),false))) (k ((0,true))))) none)))
abbrev K7 {R:Type} (k:AV→Objs→Option R) (y:(Int×Bool)):Option R:=k (.tup [(false,[.int .i64 y.1]),(false,[.bool y.2])]) []
theorem eq37 {R:Type} (B:Ops) (p0:Int) (p1:L4) (k:AV→Objs→Option R) (n:Nat):afun tau B gl0 X37 gnil ow Tryd.f37 [.c (.int .i64 p0),.c (.list 4 ty4 p1)] [] k n=T37 B p0 p1 (K7 k):=by kernel_rfl
theorem nt37 {R R':Type} (B:Ops) (p0:Int) (p1:L4) (k0:(Int×Bool)→Option R') (k:R'→Option R):T37 B p0 p1 (fun y=>ob (k0 y) k)=ob (T37 B p0 p1 k0) k:=by
 unfold T37
 repeat' first | exact rfl | apply qaf | (apply qao;intro)
def F37 (p0:Int) (p1:L4):Option (Int×Bool):=T37 Ops.std p0 p1 some
def e37 {R:Type} (c:Int→L4→Option (Int×Bool)):Ent R:=fun args objs k=>
 oI args .i64 fun p0 l0=>oL l0 4 ty4 fun p1 l1=>oE l1 objs <| ob (c p0 p1) (K7 k)
abbrev Sp37 (c:Int→L4→Option (Int×Bool)):Prop:=∀ (p0:Int) (p1:L4) (y:Int×Bool),c p0 p1=some y→Spec Tryd.prog gl0 37 [.c (.int .i64 p0),.c (.list 4 ty4 p1)] [] (.tup [(false,[.int .i64 y.1]),(false,[.bool y.2])]) []
theorem ek37 {R:Type} {c:Int→L4→Option (Int×Bool)} (hs:Sp37 c):EOk 37 (e37 (R:=R) c):=fun args objs k r h=>by
 unfold e37 at h
 obtain ⟨p0,l0,rfl,q3⟩:=qau h
 obtain ⟨p1,l1,rfl,q6⟩:=qaw q3
 obtain ⟨rfl,rfl,q8⟩:=qam q6
 exact qap (hs p0 p1) q8
theorem sf37:Sp37 (F37):=fun p0 p1 y hy=>by
 refine qaj qai 1000000 (fn:=Tryd.f37) (by kernel_rfl) (by kernel_rfl) (X:=X37) (by kernel_rfl) ?_
 rw [eq37]
 exact (nt37 Ops.std p0 p1 some (K7 k0)).trans (by show ob (F37 p0 p1) _=_;rw [hy];rfl)
noncomputable def M37:Int→L4→Option (Int×Bool):=F37
theorem sm37:Sp37 M37:=sf37
def X106:Aux:=⟨[],[(1,.lin (rg 0 28))]⟩
def T106 {R:Type} (B:Ops) (p0:LB) (p1:L30) (p2:Int) (p3:Int) (p4:Int) (p5:L93) (k:(Bool×L30×Int×Int×Int×L93)→Option R):Option R:=cond (B.inb p2 p1.length) (cond (B.eq ((p1.getD p2.toNat ty30.dflt).1) (4)) (cond (B.inb p2 p1.length) (k ((((p1.getD p2.toNat ty30.dflt).2).1 == p0,p1,p2,p3,p4,p5))) none) (k ((false,p1,p2,p3,p4,p5)))) none
abbrev K8 {R:Type} (k:AV→Objs→Option R) (y:(Bool×L30×Int×Int×Int×L93)):Option R:=k (.c (.bool y.1)) [(0,.box 129 [.list 30 ty30 y.2.1,.int .i64 y.2.2.1,.own 1002,.int .i64 y.2.2.2.1,.int .i64 y.2.2.2.2.1]),(1002,.row 93 ty93 y.2.2.2.2.2)]
theorem eq106 {R:Type} (B:Ops) (p0:LB) (p1:L30) (p2:Int) (p3:Int) (p4:Int) (p5:L93) (k:AV→Objs→Option R) (n:Nat):afun tau B gl0 X106 gnil ow Tryd.f106 [.c (.ptr 0 0),.c (.str p0)] [(0,.box 129 [.list 30 ty30 p1,.int .i64 p2,.own 1002,.int .i64 p3,.int .i64 p4]),(1002,.row 93 ty93 p5)] k n=T106 B p0 p1 p2 p3 p4 p5 (K8 k):=by kernel_rfl
theorem nt106 {R R':Type} (B:Ops) (p0:LB) (p1:L30) (p2:Int) (p3:Int) (p4:Int) (p5:L93) (k0:(Bool×L30×Int×Int×Int×L93)→Option R') (k:R'→Option R):T106 B p0 p1 p2 p3 p4 p5 (fun y=>ob (k0 y) k)=ob (T106 B p0 p1 p2 p3 p4 p5 k0) k:=by
 unfold T106
 repeat' first | exact rfl | apply qaf | (apply qao;intro)
def F106 (p0:LB) (p1:L30) (p2:Int) (p3:Int) (p4:Int) (p5:L93):Option (Bool×L30×Int×Int×Int×L93):=T106 Ops.std p0 p1 p2 p3 p4 p5 some
def e106 {R:Type} (c:LB→L30→Int→Int→Int→L93→Option (Bool×L30×Int×Int×Int×L93)):Ent R:=fun args objs k=>
 oCons args fun a0 l0=>oC a0 fun x0=>cPtr 0 x0 <| oS l0 fun p0 l1=>oNil l1 <| oBox 0 129 objs fun b0 o0=>cCons b0 fun u0_0 v0=>cList 30 ty30 u0_0 fun p1=>cCons v0 fun u0_1 v1=>cInt .i64 u0_1 fun p2=>cCons v1 fun u0_2 v2=>cOwn 1002 u0_2 <| cCons v2 fun u0_3 v3=>cInt .i64 u0_3 fun p3=>cCons v3 fun u0_4 v4=>cInt .i64 u0_4 fun p4=>cNil v4 <| oRow 1002 93 ty93 o0 fun p5 o1=>oNilO o1 <| ob (c p0 p1 p2 p3 p4 p5) (K8 k)
abbrev Sp106 (c:LB→L30→Int→Int→Int→L93→Option (Bool×L30×Int×Int×Int×L93)):Prop:=∀ (p0:LB) (p1:L30) (p2:Int) (p3:Int) (p4:Int) (p5:L93) (y:Bool×L30×Int×Int×Int×L93),c p0 p1 p2 p3 p4 p5=some y→Spec Tryd.prog gl0 106 [.c (.ptr 0 0),.c (.str p0)] [(0,.box 129 [.list 30 ty30 p1,.int .i64 p2,.own 1002,.int .i64 p3,.int .i64 p4]),(1002,.row 93 ty93 p5)] (.c (.bool y.1)) [(0,.box 129 [.list 30 ty30 y.2.1,.int .i64 y.2.2.1,.own 1002,.int .i64 y.2.2.2.1,.int .i64 y.2.2.2.2.1]),(1002,.row 93 ty93 y.2.2.2.2.2)]
theorem ek106 {R:Type} {c:LB→L30→Int→Int→Int→L93→Option (Bool×L30×Int×Int×Int×L93)} (hs:Sp106 c):EOk 106 (e106 (R:=R) c):=fun args objs k r h=>by
 unfold e106 at h
 obtain ⟨a0,l0,rfl,q1⟩:=qal h
 obtain ⟨x0,rfl,q2⟩:=qa6 q1
 obtain ⟨rfl,q3⟩:=qa5 q2
 obtain ⟨p0,l1,rfl,q6⟩:=qa8 q3
 obtain ⟨rfl,q7⟩:=qa3 q6
 obtain ⟨b0,o0,rfl,q8⟩:=qa7 q7
 obtain ⟨u0_0,v0,rfl,q9⟩:=qab q8
 obtain ⟨p1,rfl,q10⟩:=qad q9
 obtain ⟨u0_1,v1,rfl,q11⟩:=qab q10
 obtain ⟨p2,rfl,q12⟩:=qaq q11
 obtain ⟨u0_2,v2,rfl,q13⟩:=qab q12
 obtain ⟨rfl,q14⟩:=qbi q13
 obtain ⟨u0_3,v3,rfl,q15⟩:=qab q14
 obtain ⟨p3,rfl,q16⟩:=qaq q15
 obtain ⟨u0_4,v4,rfl,q17⟩:=qab q16
 obtain ⟨p4,rfl,q18⟩:=qaq q17
 obtain ⟨rfl,q19⟩:=qar q18
 obtain ⟨p5,o1,rfl,q20⟩:=qbj q19
 obtain ⟨rfl,q21⟩:=qa0 q20
 exact qap (hs p0 p1 p2 p3 p4 p5) q21
theorem sf106:Sp106 (F106):=fun p0 p1 p2 p3 p4 p5 y hy=>by
 refine qaj qai 1000000 (fn:=Tryd.f106) (by kernel_rfl) (by kernel_rfl) (X:=X106) (by kernel_rfl) ?_
 rw [eq106]
 exact (nt106 Ops.std p0 p1 p2 p3 p4 p5 some (K8 k0)).trans (by show ob (F106 p0 p1 p2 p3 p4 p5) _=_;rw [hy];rfl)
noncomputable def M106:LB→L30→Int→Int→Int→L93→Option (Bool×L30×Int×Int×Int×L93):=F106
theorem sm106:Sp106 M106:=sf106
def X74:Aux:=⟨[],[]⟩
def T74 {R:Type} (B:Ops) (p0:Int) (p1:Int) (p2:L30) (p3:Int) (p4:Int) (p5:Int) (p6:L93) (k:(L30×Int×Int×Int×L93)→Option R):Option R:=cond (B.eq p4 (0)) (k ((p2,p3,p0,p1,p6))) (k ((p2,p3,p4,p5,p6)))
abbrev K9 {R:Type} (k:AV→Objs→Option R) (y:(L30×Int×Int×Int×L93)):Option R:=k (.tup []) [(0,.box 129 [.list 30 ty30 y.1,.int .i64 y.2.1,.own 1002,.int .i64 y.2.2.1,.int .i64 y.2.2.2.1]),(1002,.row 93 ty93 y.2.2.2.2)]
theorem eq74 {R:Type} (B:Ops) (p0:Int) (p1:Int) (p2:L30) (p3:Int) (p4:Int) (p5:Int) (p6:L93) (k:AV→Objs→Option R) (n:Nat):afun tau B gl0 X74 gnil ow Tryd.f74 [.c (.ptr 0 0),.c (.int .i64 p0),.c (.int .i64 p1)] [(0,.box 129 [.list 30 ty30 p2,.int .i64 p3,.own 1002,.int .i64 p4,.int .i64 p5]),(1002,.row 93 ty93 p6)] k n=T74 B p0 p1 p2 p3 p4 p5 p6 (K9 k):=by kernel_rfl
theorem nt74 {R R':Type} (B:Ops) (p0:Int) (p1:Int) (p2:L30) (p3:Int) (p4:Int) (p5:Int) (p6:L93) (k0:(L30×Int×Int×Int×L93)→Option R') (k:R'→Option R):T74 B p0 p1 p2 p3 p4 p5 p6 (fun y=>ob (k0 y) k)=ob (T74 B p0 p1 p2 p3 p4 p5 p6 k0) k:=by
 unfold T74
 repeat' first | exact rfl | apply qaf | (apply qao;intro)
def F74 (p0:Int) (p1:Int) (p2:L30) (p3:Int) (p4:Int) (p5:Int) (p6:L93):Option (L30×Int×Int×Int×L93):=T74 Ops.std p0 p1 p2 p3 p4 p5 p6 some
def e74 {R:Type} (c:Int→Int→L30→Int→Int→Int→L93→Option (L30×Int×Int×Int×L93)):Ent R:=fun args objs k=>
 oCons args fun a0 l0=>oC a0 fun x0=>cPtr 0 x0 <| oI l0 .i64 fun p0 l1=>oI l1 .i64 fun p1 l2=>oNil l2 <| oBox 0 129 objs fun b0 o0=>cCons b0 fun u0_0 v0=>cList 30 ty30 u0_0 fun p2=>cCons v0 fun u0_1 v1=>cInt .i64 u0_1 fun p3=>cCons v1 fun u0_2 v2=>cOwn 1002 u0_2 <| cCons v2 fun u0_3 v3=>cInt .i64 u0_3 fun p4=>cCons v3 fun u0_4 v4=>cInt .i64 u0_4 fun p5=>cNil v4 <| oRow 1002 93 ty93 o0 fun p6 o1=>oNilO o1 <| ob (c p0 p1 p2 p3 p4 p5 p6) (K9 k)
abbrev Sp74 (c:Int→Int→L30→Int→Int→Int→L93→Option (L30×Int×Int×Int×L93)):Prop:=∀ (p0:Int) (p1:Int) (p2:L30) (p3:Int) (p4:Int) (p5:Int) (p6:L93) (y:L30×Int×Int×Int×L93),c p0 p1 p2 p3 p4 p5 p6=some y→Spec Tryd.prog gl0 74 [.c (.ptr 0 0),.c (.int .i64 p0),.c (.int .i64 p1)] [(0,.box 129 [.list 30 ty30 p2,.int .i64 p3,.own 1002,.int .i64 p4,.int .i64 p5]),(1002,.row 93 ty93 p6)] (.tup []) [(0,.box 129 [.list 30 ty30 y.1,.int .i64 y.2.1,.own 1002,.int .i64 y.2.2.1,.int .i64 y.2.2.2.1]),(1002,.row 93 ty93 y.2.2.2.2)]
theorem ek74 {R:Type} {c:Int→Int→L30→Int→Int→Int→L93→Option (L30×Int×Int×Int×L93)} (hs:Sp74 c):EOk 74 (e74 (R:=R) c):=fun args objs k r h=>by
 unfold e74 at h
 obtain ⟨a0,l0,rfl,q1⟩:=qal h
 obtain ⟨x0,rfl,q2⟩:=qa6 q1
 obtain ⟨rfl,q3⟩:=qa5 q2
 obtain ⟨p0,l1,rfl,q6⟩:=qau q3
 obtain ⟨p1,l2,rfl,q9⟩:=qau q6
 obtain ⟨rfl,q10⟩:=qa3 q9
 obtain ⟨b0,o0,rfl,q11⟩:=qa7 q10
 obtain ⟨u0_0,v0,rfl,q12⟩:=qab q11
 obtain ⟨p2,rfl,q13⟩:=qad q12
 obtain ⟨u0_1,v1,rfl,q14⟩:=qab q13
 obtain ⟨p3,rfl,q15⟩:=qaq q14
 obtain ⟨u0_2,v2,rfl,q16⟩:=qab q15
 obtain ⟨rfl,q17⟩:=qbi q16
 obtain ⟨u0_3,v3,rfl,q18⟩:=qab q17
 obtain ⟨p4,rfl,q19⟩:=qaq q18
 obtain ⟨u0_4,v4,rfl,q20⟩:=qab q19
 obtain ⟨p5,rfl,q21⟩:=qaq q20
 obtain ⟨rfl,q22⟩:=qar q21
 obtain ⟨p6,o1,rfl,q23⟩:=qbj q22
 obtain ⟨rfl,q24⟩:=qa0 q23
 exact qap (hs p0 p1 p2 p3 p4 p5 p6) q24
theorem sf74:Sp74 (F74):=fun p0 p1 p2 p3 p4 p5 p6 y hy=>by
 refine qaj qai 1000000 (fn:=Tryd.f74) (by kernel_rfl) (by kernel_rfl) (X:=X74) (by kernel_rfl) ?_
 rw [eq74]
 exact (nt74 Ops.std p0 p1 p2 p3 p4 p5 p6 some (K9 k0)).trans (by show ob (F74 p0 p1 p2 p3 p4 p5 p6) _=_;rw [hy];rfl)
noncomputable def M74:Int→Int→L30→Int→Int→Int→L93→Option (L30×Int×Int×Int×L93):=F74
theorem sm74:Sp74 M74:=sf74
def X107:Aux:=⟨[],[]⟩
abbrev C106:Type:=LB→L30→Int→Int→Int→L93→Option (Bool×L30×Int×Int×Int×L93)
abbrev C74:Type:=Int→Int→L30→Int→Int→Int→L93→Option (L30×Int×Int×Int×L93)
def T107 {R:Type} (B:Ops) (c106:C106) (c74:C74) (p0:LB) (p1:L30) (p2:Int) (p3:Int) (p4:Int) (p5:L93) (k:(L30×Int×Int×Int×L93)→Option R):Option R:=cond (!B.eq p3 (0)) (k ((p1,p2,p3,p4,p5))) (ob (c106 p0 p1 p2 p3 p4 p5) fun y0=>cond (!y0.1) (ob (c74 (2) ((y0.2.2).1) y0.2.1 ((y0.2.2).1) ((y0.2.2.2).1) (((y0.2.2.2).2).1) (((y0.2.2.2).2).2)) fun y1=>k ((y1.1,y1.2.1,(y1.2.2).1,(y1.2.2.2).1,(y1.2.2.2).2))) (k ((y0.2.1,IntKind.wrap .i64 ((y0.2.2).1+1),(y0.2.2.2).1,((y0.2.2.2).2).1,((y0.2.2.2).2).2))))
theorem eq107 {R:Type} (B:Ops) (c106:C106) (c74:C74) (p0:LB) (p1:L30) (p2:Int) (p3:Int) (p4:Int) (p5:L93) (k:AV→Objs→Option R) (n:Nat):afun tau B gl0 X107 (ent 106 (e106 c106) (ent 74 (e74 c74) gnil)) ow Tryd.f107 [.c (.ptr 0 0),.c (.str p0)] [(0,.box 129 [.list 30 ty30 p1,.int .i64 p2,.own 1002,.int .i64 p3,.int .i64 p4]),(1002,.row 93 ty93 p5)] k n=T107 B c106 c74 p0 p1 p2 p3 p4 p5 (K9 k):=by kernel_rfl
theorem nt107 {R R':Type} (B:Ops) (c106:C106) (c74:C74) (p0:LB) (p1:L30) (p2:Int) (p3:Int) (p4:Int) (p5:L93) (k0:(L30×Int×Int×Int×L93)→Option R') (k:R'→Option R):T107 B c106 c74 p0 p1 p2 p3 p4 p5 (fun y=>ob (k0 y) k)=ob (T107 B c106 c74 p0 p1 p2 p3 p4 p5 k0) k:=by
 unfold T107
 repeat' first | exact rfl | apply qaf | (apply qao;intro)
def F107 (c106:C106) (c74:C74) (p0:LB) (p1:L30) (p2:Int) (p3:Int) (p4:Int) (p5:L93):Option (L30×Int×Int×Int×L93):=T107 Ops.std c106 c74 p0 p1 p2 p3 p4 p5 some
def e107 {R:Type} (c:LB→L30→Int→Int→Int→L93→Option (L30×Int×Int×Int×L93)):Ent R:=fun args objs k=>
 oCons args fun a0 l0=>oC a0 fun x0=>cPtr 0 x0 <| oS l0 fun p0 l1=>oNil l1 <| oBox 0 129 objs fun b0 o0=>cCons b0 fun u0_0 v0=>cList 30 ty30 u0_0 fun p1=>cCons v0 fun u0_1 v1=>cInt .i64 u0_1 fun p2=>cCons v1 fun u0_2 v2=>cOwn 1002 u0_2 <| cCons v2 fun u0_3 v3=>cInt .i64 u0_3 fun p3=>cCons v3 fun u0_4 v4=>cInt .i64 u0_4 fun p4=>cNil v4 <| oRow 1002 93 ty93 o0 fun p5 o1=>oNilO o1 <| ob (c p0 p1 p2 p3 p4 p5) (K9 k)
abbrev Sp107 (c:LB→L30→Int→Int→Int→L93→Option (L30×Int×Int×Int×L93)):Prop:=∀ (p0:LB) (p1:L30) (p2:Int) (p3:Int) (p4:Int) (p5:L93) (y:L30×Int×Int×Int×L93),c p0 p1 p2 p3 p4 p5=some y→Spec Tryd.prog gl0 107 [.c (.ptr 0 0),.c (.str p0)] [(0,.box 129 [.list 30 ty30 p1,.int .i64 p2,.own 1002,.int .i64 p3,.int .i64 p4]),(1002,.row 93 ty93 p5)] (.tup []) [(0,.box 129 [.list 30 ty30 y.1,.int .i64 y.2.1,.own 1002,.int .i64 y.2.2.1,.int .i64 y.2.2.2.1]),(1002,.row 93 ty93 y.2.2.2.2)]
theorem ek107 {R:Type} {c:LB→L30→Int→Int→Int→L93→Option (L30×Int×Int×Int×L93)} (hs:Sp107 c):EOk 107 (e107 (R:=R) c):=fun args objs k r h=>by
 unfold e107 at h
 obtain ⟨a0,l0,rfl,q1⟩:=qal h
 obtain ⟨x0,rfl,q2⟩:=qa6 q1
 obtain ⟨rfl,q3⟩:=qa5 q2
 obtain ⟨p0,l1,rfl,q6⟩:=qa8 q3
 obtain ⟨rfl,q7⟩:=qa3 q6
 obtain ⟨b0,o0,rfl,q8⟩:=qa7 q7
 obtain ⟨u0_0,v0,rfl,q9⟩:=qab q8
 obtain ⟨p1,rfl,q10⟩:=qad q9
 obtain ⟨u0_1,v1,rfl,q11⟩:=qab q10
 obtain ⟨p2,rfl,q12⟩:=qaq q11
 obtain ⟨u0_2,v2,rfl,q13⟩:=qab q12
 obtain ⟨rfl,q14⟩:=qbi q13
 obtain ⟨u0_3,v3,rfl,q15⟩:=qab q14
 obtain ⟨p3,rfl,q16⟩:=qaq q15
 obtain ⟨u0_4,v4,rfl,q17⟩:=qab q16
 obtain ⟨p4,rfl,q18⟩:=qaq q17
 obtain ⟨rfl,q19⟩:=qar q18
 obtain ⟨p5,o1,rfl,q20⟩:=qbj q19
 obtain ⟨rfl,q21⟩:=qa0 q20
 exact qap (hs p0 p1 p2 p3 p4 p5) q21
theorem sf107 {c106:C106} {c74:C74} (h106:Sp106 c106) (h74:Sp74 c74):Sp107 (F107 c106 c74):=fun p0 p1 p2 p3 p4 p5 y hy=>by
 refine qaj (qae (ek106 h106) (qae (ek74 h74) qai)) 1000000 (fn:=Tryd.f107) (by kernel_rfl) (by kernel_rfl) (X:=X107) (by kernel_rfl) ?_
 rw [eq107]
 exact (nt107 Ops.std c106 c74 p0 p1 p2 p3 p4 p5 some (K9 k0)).trans (by show ob (F107 c106 c74 p0 p1 p2 p3 p4 p5) _=_;rw [hy];rfl)
noncomputable def M107:LB→L30→Int→Int→Int→L93→Option (L30×Int×Int×Int×L93):=F107 M106 M74
theorem sm107:Sp107 M107:=sf107 sm106 sm74
def X115:Aux:=⟨[],[(1,.lin (rg 0 28))]⟩
def T115 {R:Type} (B:Ops) (p0:LB) (p1:L30) (p2:Int) (p3:Int) (p4:L140) (k:(Bool×L30×Int×Int×L140)→Option R):Option R:=cond (B.inb p2 p1.length) (cond (B.eq ((p1.getD p2.toNat ty30.dflt).1) (4)) (cond (B.inb p2 p1.length) (k ((((p1.getD p2.toNat ty30.dflt).2).1 == p0,p1,p2,p3,p4))) none) (k ((false,p1,p2,p3,p4)))) none
abbrev K10 {R:Type} (k:AV→Objs→Option R) (y:(Bool×L30×Int×Int×L140)):Option R:=k (.c (.bool y.1)) [(0,.box 164 [.list 30 ty30 y.2.1,.int .i64 y.2.2.1,.own 1002,.int .i64 y.2.2.2.1]),(1002,.row 140 ty140 y.2.2.2.2)]
theorem eq115 {R:Type} (B:Ops) (p0:LB) (p1:L30) (p2:Int) (p3:Int) (p4:L140) (k:AV→Objs→Option R) (n:Nat):afun tau B gl0 X115 gnil ow Tryd.f115 [.c (.ptr 0 0),.c (.str p0)] [(0,.box 164 [.list 30 ty30 p1,.int .i64 p2,.own 1002,.int .i64 p3]),(1002,.row 140 ty140 p4)] k n=T115 B p0 p1 p2 p3 p4 (K10 k):=by kernel_rfl
theorem nt115 {R R':Type} (B:Ops) (p0:LB) (p1:L30) (p2:Int) (p3:Int) (p4:L140) (k0:(Bool×L30×Int×Int×L140)→Option R') (k:R'→Option R):T115 B p0 p1 p2 p3 p4 (fun y=>ob (k0 y) k)=ob (T115 B p0 p1 p2 p3 p4 k0) k:=by
 unfold T115
 repeat' first | exact rfl | apply qaf | (apply qao;intro)
def F115 (p0:LB) (p1:L30) (p2:Int) (p3:Int) (p4:L140):Option (Bool×L30×Int×Int×L140):=T115 Ops.std p0 p1 p2 p3 p4 some
def e115 {R:Type} (c:LB→L30→Int→Int→L140→Option (Bool×L30×Int×Int×L140)):Ent R:=fun args objs k=>
 oCons args fun a0 l0=>oC a0 fun x0=>cPtr 0 x0 <| oS l0 fun p0 l1=>oNil l1 <| oBox 0 164 objs fun b0 o0=>cCons b0 fun u0_0 v0=>cList 30 ty30 u0_0 fun p1=>cCons v0 fun u0_1 v1=>cInt .i64 u0_1 fun p2=>cCons v1 fun u0_2 v2=>cOwn 1002 u0_2 <| cCons v2 fun u0_3 v3=>cInt .i64 u0_3 fun p3=>cNil v3 <| oRow 1002 140 ty140 o0 fun p4 o1=>oNilO o1 <| ob (c p0 p1 p2 p3 p4) (K10 k)
abbrev Sp115 (c:LB→L30→Int→Int→L140→Option (Bool×L30×Int×Int×L140)):Prop:=∀ (p0:LB) (p1:L30) (p2:Int) (p3:Int) (p4:L140) (y:Bool×L30×Int×Int×L140),c p0 p1 p2 p3 p4=some y→Spec Tryd.prog gl0 115 [.c (.ptr 0 0),.c (.str p0)] [(0,.box 164 [.list 30 ty30 p1,.int .i64 p2,.own 1002,.int .i64 p3]),(1002,.row 140 ty140 p4)] (.c (.bool y.1)) [(0,.box 164 [.list 30 ty30 y.2.1,.int .i64 y.2.2.1,.own 1002,.int .i64 y.2.2.2.1]),(1002,.row 140 ty140 y.2.2.2.2)]
theorem ek115 {R:Type} {c:LB→L30→Int→Int→L140→Option (Bool×L30×Int×Int×L140)} (hs:Sp115 c):EOk 115 (e115 (R:=R) c):=fun args objs k r h=>by
 unfold e115 at h
 obtain ⟨a0,l0,rfl,q1⟩:=qal h
 obtain ⟨x0,rfl,q2⟩:=qa6 q1
 obtain ⟨rfl,q3⟩:=qa5 q2
 obtain ⟨p0,l1,rfl,q6⟩:=qa8 q3
 obtain ⟨rfl,q7⟩:=qa3 q6
 obtain ⟨b0,o0,rfl,q8⟩:=qa7 q7
 obtain ⟨u0_0,v0,rfl,q9⟩:=qab q8
 obtain ⟨p1,rfl,q10⟩:=qad q9
 obtain ⟨u0_1,v1,rfl,q11⟩:=qab q10
 obtain ⟨p2,rfl,q12⟩:=qaq q11
 obtain ⟨u0_2,v2,rfl,q13⟩:=qab q12
 obtain ⟨rfl,q14⟩:=qbi q13
 obtain ⟨u0_3,v3,rfl,q15⟩:=qab q14
 obtain ⟨p3,rfl,q16⟩:=qaq q15
 obtain ⟨rfl,q17⟩:=qar q16
 obtain ⟨p4,o1,rfl,q18⟩:=qbj q17
 obtain ⟨rfl,q19⟩:=qa0 q18
 exact qap (hs p0 p1 p2 p3 p4) q19
theorem sf115:Sp115 (F115):=fun p0 p1 p2 p3 p4 y hy=>by
 refine qaj qai 1000000 (fn:=Tryd.f115) (by kernel_rfl) (by kernel_rfl) (X:=X115) (by kernel_rfl) ?_
 rw [eq115]
 exact (nt115 Ops.std p0 p1 p2 p3 p4 some (K10 k0)).trans (by show ob (F115 p0 p1 p2 p3 p4) _=_;rw [hy];rfl)
noncomputable def M115:LB→L30→Int→Int→L140→Option (Bool×L30×Int×Int×L140):=F115
theorem sm115:Sp115 M115:=sf115
def X116:Aux:=⟨[],[]⟩
def T116 {R:Type} (B:Ops) (p0:L30) (p1:Int) (p2:Int) (p3:L140) (k:(L30×Int×Int×L140)→Option R):Option R:=cond (B.lt p2 (0)) (k ((p0,p1,p1,p3))) (k ((p0,p1,p2,p3)))
abbrev K11 {R:Type} (k:AV→Objs→Option R) (y:(L30×Int×Int×L140)):Option R:=k (.tup []) [(0,.box 164 [.list 30 ty30 y.1,.int .i64 y.2.1,.own 1002,.int .i64 y.2.2.1]),(1002,.row 140 ty140 y.2.2.2)]
theorem eq116 {R:Type} (B:Ops) (p0:L30) (p1:Int) (p2:Int) (p3:L140) (k:AV→Objs→Option R) (n:Nat):afun tau B gl0 X116 gnil ow Tryd.f116 [.c (.ptr 0 0)] [(0,.box 164 [.list 30 ty30 p0,.int .i64 p1,.own 1002,.int .i64 p2]),(1002,.row 140 ty140 p3)] k n=T116 B p0 p1 p2 p3 (K11 k):=by kernel_rfl
theorem nt116 {R R':Type} (B:Ops) (p0:L30) (p1:Int) (p2:Int) (p3:L140) (k0:(L30×Int×Int×L140)→Option R') (k:R'→Option R):T116 B p0 p1 p2 p3 (fun y=>ob (k0 y) k)=ob (T116 B p0 p1 p2 p3 k0) k:=by
 unfold T116
 repeat' first | exact rfl | apply qaf | (apply qao;intro)
def F116 (p0:L30) (p1:Int) (p2:Int) (p3:L140):Option (L30×Int×Int×L140):=T116 Ops.std p0 p1 p2 p3 some
def e116 {R:Type} (c:L30→Int→Int→L140→Option (L30×Int×Int×L140)):Ent R:=fun args objs k=>
 oCons args fun a0 l0=>oC a0 fun x0=>cPtr 0 x0 <| oNil l0 <| oBox 0 164 objs fun b0 o0=>cCons b0 fun u0_0 v0=>cList 30 ty30 u0_0 fun p0=>cCons v0 fun u0_1 v1=>cInt .i64 u0_1 fun p1=>cCons v1 fun u0_2 v2=>cOwn 1002 u0_2 <| cCons v2 fun u0_3 v3=>cInt .i64 u0_3 fun p2=>cNil v3 <| oRow 1002 140 ty140 o0 fun p3 o1=>oNilO o1 <| ob (c p0 p1 p2 p3) (K11 k)
abbrev Sp116 (c:L30→Int→Int→L140→Option (L30×Int×Int×L140)):Prop:=∀ (p0:L30) (p1:Int) (p2:Int) (p3:L140) (y:L30×Int×Int×L140),c p0 p1 p2 p3=some y→Spec Tryd.prog gl0 116 [.c (.ptr 0 0)] [(0,.box 164 [.list 30 ty30 p0,.int .i64 p1,.own 1002,.int .i64 p2]),(1002,.row 140 ty140 p3)] (.tup []) [(0,.box 164 [.list 30 ty30 y.1,.int .i64 y.2.1,.own 1002,.int .i64 y.2.2.1]),(1002,.row 140 ty140 y.2.2.2)]
theorem ek116 {R:Type} {c:L30→Int→Int→L140→Option (L30×Int×Int×L140)} (hs:Sp116 c):EOk 116 (e116 (R:=R) c):=fun args objs k r h=>by
 unfold e116 at h
 obtain ⟨a0,l0,rfl,q1⟩:=qal h
 obtain ⟨x0,rfl,q2⟩:=qa6 q1
 obtain ⟨rfl,q3⟩:=qa5 q2
 obtain ⟨rfl,q4⟩:=qa3 q3
 obtain ⟨b0,o0,rfl,q5⟩:=qa7 q4
 obtain ⟨u0_0,v0,rfl,q6⟩:=qab q5
 obtain ⟨p0,rfl,q7⟩:=qad q6
 obtain ⟨u0_1,v1,rfl,q8⟩:=qab q7
 obtain ⟨p1,rfl,q9⟩:=qaq q8
 obtain ⟨u0_2,v2,rfl,q10⟩:=qab q9
 obtain ⟨rfl,q11⟩:=qbi q10
 obtain ⟨u0_3,v3,rfl,q12⟩:=qab q11
 obtain ⟨p2,rfl,q13⟩:=qaq q12
 obtain ⟨rfl,q14⟩:=qar q13
 obtain ⟨p3,o1,rfl,q15⟩:=qbj q14
 obtain ⟨rfl,q16⟩:=qa0 q15
 exact qap (hs p0 p1 p2 p3) q16
theorem sf116:Sp116 (F116):=fun p0 p1 p2 p3 y hy=>by
 refine qaj qai 1000000 (fn:=Tryd.f116) (by kernel_rfl) (by kernel_rfl) (X:=X116) (by kernel_rfl) ?_
 rw [eq116]
 exact (nt116 Ops.std p0 p1 p2 p3 some (K11 k0)).trans (by show ob (F116 p0 p1 p2 p3) _=_;rw [hy];rfl)
noncomputable def M116:L30→Int→Int→L140→Option (L30×Int×Int×L140):=F116
theorem sm116:Sp116 M116:=sf116
def X111:Aux:=⟨[],[]⟩
def T111 {R:Type} (B:Ops) (p0:Int) (k:(Int)→Option R):Option R:=cond (B.eq p0 (16)) (k 1) (cond (B.eq p0 (15)) (k 2) (cond (B.eq p0 (9)) (k 3) (cond (B.eq p0 (10)) (k 3) (cond (B.eq p0 (11)) (k 3) (cond (B.eq p0 (12)) (k 3) (cond (B.eq p0 (13)) (k 3) (cond (B.eq p0 (14)) (k 3) (cond (B.eq p0 (7)) (k 4) (cond (B.eq p0 (8)) (k 4) (cond (B.eq p0 (6)) (k 5) (cond (B.eq p0 (4)) (k 6) (cond (B.eq p0 (5)) (k 6) (k 7)))))))))))))
theorem eq111 {R:Type} (B:Ops) (p0:Int) (k:AV→Objs→Option R) (n:Nat):afun tau B gl0 X111 gnil ow Tryd.f111 [.c (.int .i64 p0)] [] k n=T111 B p0 (K3 k):=by kernel_rfl
theorem nt111 {R R':Type} (B:Ops) (p0:Int) (k0:(Int)→Option R') (k:R'→Option R):T111 B p0 (fun y=>ob (k0 y) k)=ob (T111 B p0 k0) k:=by
 unfold T111
 repeat' first | exact rfl | apply qaf | (apply qao;intro)
def F111 (p0:Int):Option (Int):=T111 Ops.std p0 some
def e111 {R:Type} (c:Int→Option (Int)):Ent R:=fun args objs k=>
 oI args .i64 fun p0 l0=>oE l0 objs <| ob (c p0) (K3 k)
abbrev Sp111 (c:Int→Option (Int)):Prop:=∀ (p0:Int) (y:Int),c p0=some y→Spec Tryd.prog gl0 111 [.c (.int .i64 p0)] [] (.c (.int .i64 y)) []
theorem ek111 {R:Type} {c:Int→Option (Int)} (hs:Sp111 c):EOk 111 (e111 (R:=R) c):=fun args objs k r h=>by
 unfold e111 at h
 obtain ⟨p0,l0,rfl,q3⟩:=qau h
 obtain ⟨rfl,rfl,q5⟩:=qam q3
 exact qap (hs p0) q5
theorem sf111:Sp111 (F111):=fun p0 y hy=>by
 refine qaj qai 1000000 (fn:=Tryd.f111) (by kernel_rfl) (by kernel_rfl) (X:=X111) (by kernel_rfl) ?_
 rw [eq111]
 exact (nt111 Ops.std p0 some (K3 k0)).trans (by show ob (F111 p0) _=_;rw [hy];rfl)
noncomputable def M111:Int→Option (Int):=F111
theorem sm111:Sp111 M111:=sf111
def X114:Aux:=⟨[(5,([0,3,4]++rg 7 21))],[(7,.lin ([0,1,2,3,4,5,6,7,9,8,10,11]))]⟩
inductive S114 where
 | l0 (v1:Int)
abbrev C111:Type:=Int→Option (Int)
def T114 {R:Type} (B:Ops) (c111:C111) (p0:Int) (p1:LB) (p2:Int) (p3:Int) (p4:Int) (again:S114→Option R) (k:(Int)→Option R):Option S114→Option R | none=>cond (!B.eq p0 (4)) (k 0) (again (.l0 6)) | some (.l0 v1)=>cond (B.le v1 (16)) (cond (B.inb v1 (17)) (cond (List.getD ((mt UInt8)::(mt UInt8)::(mt UInt8)::(mt UInt8)::(mt UInt8)::(mt UInt8)::([42]:LB)::([43]:LB)::([45]:LB)::([60]:LB)::([60,61]:LB)::([62]:LB)::([62,61]:LB)::([61,61]:LB)::([33,61]:LB)::([38,38]:LB)::([124,124]:LB)::mt LB) v1.toNat (mt UInt8) == p1) (ob (c111 v1) fun y0=>cond (B.eq y0 p4) (k v1) (again (.l0 (IntKind.wrap .i64 (v1+1))))) (again (.l0 (IntKind.wrap .i64 (v1+1))))) none) (k 0)
def E114 (p0:Int) (p1:LB) (p2:Int) (p3:Int) (p4:Int):S114→List AV×Objs
 | .l0 v1=>(mk 28 [(1,.c (.int .i64 p4)),(2,.c (.ptr 2 0)),(5,.c (.ptr 5 0)),(6,.c (.int .i64 v1))],[(2,.box 30 [.int .i64 p0,.str p1,.int .i64 p2,.int .i64 p3]),(5,.box 106 [.str (mt UInt8),.str (mt UInt8),.str (mt UInt8),.str (mt UInt8),.str (mt UInt8),.str (mt UInt8),.str ([42]:LB),.str ([43]:LB),.str ([45]:LB),.str ([60]:LB),.str ([60,61]:LB),.str ([62]:LB),.str ([62,61]:LB),.str ([61,61]:LB),.str ([33,61]:LB),.str ([38,38]:LB),.str ([124,124]:LB)])])
def I114:S114→Nat
 | .l0 _=>0
theorem eq114 {R:Type} (B:Ops) (c111:C111) (p0:Int) (p1:LB) (p2:Int) (p3:Int) (p4:Int) (k:AV→Objs→Option R) (n:Nat):afun tau B gl0 X114 (ent 111 (e111 c111) gnil) ow Tryd.f114 [.agg [.int .i64 p0,.str p1,.int .i64 p2,.int .i64 p3],.c (.int .i64 p4)] [] k n=T114 B c111 p0 p1 p2 p3 p4 (fun s=>aloop tau B gl0 X114 (ent 111 (e111 c111) gnil) ow [] Tryd.f114 k (I114 s) (E114 p0 p1 p2 p3 p4 s) n) (K3 k) none:=by kernel_rfl
theorem el114 {R:Type} (B:Ops) (c111:C111) (p0:Int) (p1:LB) (p2:Int) (p3:Int) (p4:Int) (k:AV→Objs→Option R) (n:Nat):∀ s,aloop tau B gl0 X114 (ent 111 (e111 c111) gnil) ow [] Tryd.f114 k (I114 s) (E114 p0 p1 p2 p3 p4 s) (n+1)=T114 B c111 p0 p1 p2 p3 p4 (fun s=>aloop tau B gl0 X114 (ent 111 (e111 c111) gnil) ow [] Tryd.f114 k (I114 s) (E114 p0 p1 p2 p3 p4 s) n) (K3 k) (some s):=by
 intro s
 cases s<;>kernel_rfl
theorem nt114 {R R':Type} (B:Ops) (c111:C111) (p0:Int) (p1:LB) (p2:Int) (p3:Int) (p4:Int) (again:S114→Option R) (again':S114→Option R') (k0:(Int)→Option R') (k:R'→Option R) (h:∀ s,again s=ob (again' s) k):∀ s,T114 B c111 p0 p1 p2 p3 p4 again (fun y=>ob (k0 y) k) s=ob (T114 B c111 p0 p1 p2 p3 p4 again' k0 s) k:=by
 rintro (_ | x)
 all_goals try cases x
 all_goals (unfold T114;repeat' first | exact rfl | exact h _ | apply qaf | (apply qao;intro))
def R114 (c111:C111) (p0:Int) (p1:LB) (p2:Int) (p3:Int) (p4:Int):Nat→S114→Option (Int)
 | 0,_=>none
 | n+1,s=>T114 Ops.std c111 p0 p1 p2 p3 p4 (R114 c111 p0 p1 p2 p3 p4 n) some (some s)
theorem rr114 {R:Type} (c111:C111) (p0:Int) (p1:LB) (p2:Int) (p3:Int) (p4:Int) (k:AV→Objs→Option R):∀ (n:Nat) (s:S114),aloop tau Ops.std gl0 X114 (ent 111 (e111 c111) gnil) ow [] Tryd.f114 k (I114 s) (E114 p0 p1 p2 p3 p4 s) n=ob (R114 c111 p0 p1 p2 p3 p4 n s) (K3 k)
 | 0,s=>by cases s<;>rfl
 | n+1,s=>by rw [el114];exact nt114 Ops.std c111 p0 p1 p2 p3 p4 _ _ some (K3 k) (rr114 c111 p0 p1 p2 p3 p4 k n) (some s)
def F114 (c111:C111) (p0:Int) (p1:LB) (p2:Int) (p3:Int) (p4:Int):Option (Int):=T114 Ops.std c111 p0 p1 p2 p3 p4 (R114 c111 p0 p1 p2 p3 p4 1000000) some none
def e114 {R:Type} (c:Int→LB→Int→Int→Int→Option (Int)):Ent R:=fun args objs k=>
 oCons args fun a0 l0=>oAgg a0 fun x0=>cCons x0 fun z0_0 w0_0=>cInt .i64 z0_0 fun p0=>cCons w0_0 fun z0_1 w0_1=>cStr z0_1 fun p1=>cCons w0_1 fun z0_2 w0_2=>cInt .i64 z0_2 fun p2=>cCons w0_2 fun z0_3 w0_3=>cInt .i64 z0_3 fun p3=>cNil w0_3 <| oI l0 .i64 fun p4 l1=>oE l1 objs <| ob (c p0 p1 p2 p3 p4) (K3 k)
abbrev Sp114 (c:Int→LB→Int→Int→Int→Option (Int)):Prop:=∀ (p0:Int) (p1:LB) (p2:Int) (p3:Int) (p4:Int) (y:Int),c p0 p1 p2 p3 p4=some y→Spec Tryd.prog gl0 114 [.agg [.int .i64 p0,.str p1,.int .i64 p2,.int .i64 p3],.c (.int .i64 p4)] [] (.c (.int .i64 y)) []
theorem ek114 {R:Type} {c:Int→LB→Int→Int→Int→Option (Int)} (hs:Sp114 c):EOk 114 (e114 (R:=R) c):=fun args objs k r h=>by
 unfold e114 at h
 obtain ⟨a0,l0,rfl,q1⟩:=qal h
 obtain ⟨x0,rfl,q2⟩:=qav q1
 obtain ⟨z0_0,w0_0,rfl,q3⟩:=qab q2
 obtain ⟨p0,rfl,q4⟩:=qaq q3
 obtain ⟨z0_1,w0_1,rfl,q5⟩:=qab q4
 obtain ⟨p1,rfl,q6⟩:=qa9 q5
 obtain ⟨z0_2,w0_2,rfl,q7⟩:=qab q6
 obtain ⟨p2,rfl,q8⟩:=qaq q7
 obtain ⟨z0_3,w0_3,rfl,q9⟩:=qab q8
 obtain ⟨p3,rfl,q10⟩:=qaq q9
 obtain ⟨rfl,q11⟩:=qar q10
 obtain ⟨p4,l1,rfl,q14⟩:=qau q11
 obtain ⟨rfl,rfl,q16⟩:=qam q14
 exact qap (hs p0 p1 p2 p3 p4) q16
theorem sf114 {c111:C111} (h111:Sp111 c111):Sp114 (F114 c111):=fun p0 p1 p2 p3 p4 y hy=>by
 refine qaj (qae (ek111 h111) qai) 1000000 (fn:=Tryd.f114) (by kernel_rfl) (by kernel_rfl) (X:=X114) (by kernel_rfl) ?_
 rw [eq114]
 exact (nt114 Ops.std c111 p0 p1 p2 p3 p4 _ _ some (K3 k0) (rr114 c111 p0 p1 p2 p3 p4 k0 1000000) none).trans (by show ob (F114 c111 p0 p1 p2 p3 p4) _=_;rw [hy];rfl)
noncomputable def M114:Int→LB→Int→Int→Int→Option (Int):=F114 M111
theorem sm114:Sp114 M114:=sf114 sm111
def e110 {R:Type} (c:Int→L30→Int→Int→L140→Option (L30×Int×Int×L140)):Ent R:=fun args objs k=>
 oCons args fun a0 l0=>oC a0 fun x0=>cPtr 0 x0 <| oI l0 .i64 fun p0 l1=>oNil l1 <| oBox 0 164 objs fun b0 o0=>cCons b0 fun u0_0 v0=>cList 30 ty30 u0_0 fun p1=>cCons v0 fun u0_1 v1=>cInt .i64 u0_1 fun p2=>cCons v1 fun u0_2 v2=>cOwn 1002 u0_2 <| cCons v2 fun u0_3 v3=>cInt .i64 u0_3 fun p3=>cNil v3 <| oRow 1002 140 ty140 o0 fun p4 o1=>oNilO o1 <| ob (c p0 p1 p2 p3 p4) (K11 k)
abbrev Sp110 (c:Int→L30→Int→Int→L140→Option (L30×Int×Int×L140)):Prop:=∀ (p0:Int) (p1:L30) (p2:Int) (p3:Int) (p4:L140) (y:L30×Int×Int×L140),c p0 p1 p2 p3 p4=some y→Spec Tryd.prog gl0 110 [.c (.ptr 0 0),.c (.int .i64 p0)] [(0,.box 164 [.list 30 ty30 p1,.int .i64 p2,.own 1002,.int .i64 p3]),(1002,.row 140 ty140 p4)] (.tup []) [(0,.box 164 [.list 30 ty30 y.1,.int .i64 y.2.1,.own 1002,.int .i64 y.2.2.1]),(1002,.row 140 ty140 y.2.2.2)]
theorem ek110 {R:Type} {c:Int→L30→Int→Int→L140→Option (L30×Int×Int×L140)} (hs:Sp110 c):EOk 110 (e110 (R:=R) c):=fun args objs k r h=>by
 unfold e110 at h
 obtain ⟨a0,l0,rfl,q1⟩:=qal h
 obtain ⟨x0,rfl,q2⟩:=qa6 q1
 obtain ⟨rfl,q3⟩:=qa5 q2
 obtain ⟨p0,l1,rfl,q6⟩:=qau q3
 obtain ⟨rfl,q7⟩:=qa3 q6
 obtain ⟨b0,o0,rfl,q8⟩:=qa7 q7
 obtain ⟨u0_0,v0,rfl,q9⟩:=qab q8
 obtain ⟨p1,rfl,q10⟩:=qad q9
 obtain ⟨u0_1,v1,rfl,q11⟩:=qab q10
 obtain ⟨p2,rfl,q12⟩:=qaq q11
 obtain ⟨u0_2,v2,rfl,q13⟩:=qab q12
 obtain ⟨rfl,q14⟩:=qbi q13
 obtain ⟨u0_3,v3,rfl,q15⟩:=qab q14
 obtain ⟨p3,rfl,q16⟩:=qaq q15
 obtain ⟨rfl,q17⟩:=qar q16
 obtain ⟨p4,o1,rfl,q18⟩:=qbj q17
 obtain ⟨rfl,q19⟩:=qa0 q18
 exact qap (hs p0 p1 p2 p3 p4) q19
def e113 {R:Type} (c:L30→Int→Int→L140→Option (L30×Int×Int×L140)):Ent R:=fun args objs k=>
 oCons args fun a0 l0=>oC a0 fun x0=>cPtr 0 x0 <| oNil l0 <| oBox 0 164 objs fun b0 o0=>cCons b0 fun u0_0 v0=>cList 30 ty30 u0_0 fun p0=>cCons v0 fun u0_1 v1=>cInt .i64 u0_1 fun p1=>cCons v1 fun u0_2 v2=>cOwn 1002 u0_2 <| cCons v2 fun u0_3 v3=>cInt .i64 u0_3 fun p2=>cNil v3 <| oRow 1002 140 ty140 o0 fun p3 o1=>oNilO o1 <| ob (c p0 p1 p2 p3) (K11 k)
abbrev Sp113 (c:L30→Int→Int→L140→Option (L30×Int×Int×L140)):Prop:=∀ (p0:L30) (p1:Int) (p2:Int) (p3:L140) (y:L30×Int×Int×L140),c p0 p1 p2 p3=some y→Spec Tryd.prog gl0 113 [.c (.ptr 0 0)] [(0,.box 164 [.list 30 ty30 p0,.int .i64 p1,.own 1002,.int .i64 p2]),(1002,.row 140 ty140 p3)] (.tup []) [(0,.box 164 [.list 30 ty30 y.1,.int .i64 y.2.1,.own 1002,.int .i64 y.2.2.1]),(1002,.row 140 ty140 y.2.2.2)]
theorem ek113 {R:Type} {c:L30→Int→Int→L140→Option (L30×Int×Int×L140)} (hs:Sp113 c):EOk 113 (e113 (R:=R) c):=fun args objs k r h=>by
 unfold e113 at h
 obtain ⟨a0,l0,rfl,q1⟩:=qal h
 obtain ⟨x0,rfl,q2⟩:=qa6 q1
 obtain ⟨rfl,q3⟩:=qa5 q2
 obtain ⟨rfl,q4⟩:=qa3 q3
 obtain ⟨b0,o0,rfl,q5⟩:=qa7 q4
 obtain ⟨u0_0,v0,rfl,q6⟩:=qab q5
 obtain ⟨p0,rfl,q7⟩:=qad q6
 obtain ⟨u0_1,v1,rfl,q8⟩:=qab q7
 obtain ⟨p1,rfl,q9⟩:=qaq q8
 obtain ⟨u0_2,v2,rfl,q10⟩:=qab q9
 obtain ⟨rfl,q11⟩:=qbi q10
 obtain ⟨u0_3,v3,rfl,q12⟩:=qab q11
 obtain ⟨p2,rfl,q13⟩:=qaq q12
 obtain ⟨rfl,q14⟩:=qar q13
 obtain ⟨p3,o1,rfl,q15⟩:=qbj q14
 obtain ⟨rfl,q16⟩:=qa0 q15
 exact qap (hs p0 p1 p2 p3) q16
def X110:Aux:=⟨[(3,(rg 2 54))],[(4,.lin (rg 0 13))]⟩
inductive S110 where
 | l0 (v1:L30) (v2:Int) (v3:Int) (v4:L140)
abbrev C113:Type:=L30→Int→Int→L140→Option (L30×Int×Int×L140)
abbrev C110:Type:=Int→L30→Int→Int→L140→Option (L30×Int×Int×L140)
abbrev C114:Type:=Int→LB→Int→Int→Int→Option (Int)
def T110 {R:Type} (B:Ops) (c113:C113) (c110:C110) (c114:C114) (p0:Int) (p1:L30) (p2:Int) (p3:Int) (p4:L140) (again:S110→Option R) (k:(L30×Int×Int×L140)→Option R):Option S110→Option R | none=>cond (B.lt (5) p0) (ob (c113 p1 p2 p3 p4) fun y0=>k ((y0.1,y0.2.1,(y0.2.2).1,(y0.2.2).2))) (ob (c110 (IntKind.wrap .i64 (p0+1)) p1 p2 p3 p4) fun y0=>again (.l0 y0.1 y0.2.1 ((y0.2.2).1) ((y0.2.2).2))) | some (.l0 v1 v2 v3 v4)=>cond (B.lt v3 (0)) (cond (B.inb v2 v1.length) (ob (c114 ((v1.getD v2.toNat ty30.dflt).1) (((v1.getD v2.toNat ty30.dflt).2).1) ((((v1.getD v2.toNat ty30.dflt).2).2).1) ((((v1.getD v2.toNat ty30.dflt).2).2).2) p0) fun y0=>cond (B.eq y0 (0)) (k ((v1,v2,v3,v4))) (ob (c110 (IntKind.wrap .i64 (p0+1)) v1 (IntKind.wrap .i64 (v2+1)) v3 v4) fun y1=>cond (B.lim (List.length ((y1.2.2).2)+List.length ((y0,0,mt UInt8,mt UInt8)::mt (Ty.den ty140))) (48)) (cond (B.eq p0 (3)) (k ((y1.1,y1.2.1,(y1.2.2).1,(y1.2.2).2++(y0,0,mt UInt8,mt UInt8)::mt (Ty.den ty140)))) (again (.l0 y1.1 y1.2.1 ((y1.2.2).1) ((y1.2.2).2++(y0,0,mt UInt8,mt UInt8)::mt (Ty.den ty140))))) none)) none) (k ((v1,v2,v3,v4)))
def E110 (p0:Int) (p1:L30) (p2:Int) (p3:Int) (p4:L140):S110→List AV×Objs
 | .l0 v1 v2 v3 v4=>(mk 56 [(0,.c (.ptr 0 0)),(1,.c (.int .i64 p0))],[(0,.box 164 [.list 30 ty30 v1,.int .i64 v2,.own 1002,.int .i64 v3]),(1002,.row 140 ty140 v4)])
def I110:S110→Nat
 | .l0 _ _ _ _=>0
theorem eq110 {R:Type} (B:Ops) (c113:C113) (c110:C110) (c114:C114) (p0:Int) (p1:L30) (p2:Int) (p3:Int) (p4:L140) (k:AV→Objs→Option R) (n:Nat):afun tau B gl0 X110 (ent 113 (e113 c113) (ent 110 (e110 c110) (ent 114 (e114 c114) gnil))) ow Tryd.f110 [.c (.ptr 0 0),.c (.int .i64 p0)] [(0,.box 164 [.list 30 ty30 p1,.int .i64 p2,.own 1002,.int .i64 p3]),(1002,.row 140 ty140 p4)] k n=T110 B c113 c110 c114 p0 p1 p2 p3 p4 (fun s=>aloop tau B gl0 X110 (ent 113 (e113 c113) (ent 110 (e110 c110) (ent 114 (e114 c114) gnil))) ow [0] Tryd.f110 k (I110 s) (E110 p0 p1 p2 p3 p4 s) n) (K11 k) none:=by kernel_rfl
theorem el110 {R:Type} (B:Ops) (c113:C113) (c110:C110) (c114:C114) (p0:Int) (p1:L30) (p2:Int) (p3:Int) (p4:L140) (k:AV→Objs→Option R) (n:Nat):∀ s,aloop tau B gl0 X110 (ent 113 (e113 c113) (ent 110 (e110 c110) (ent 114 (e114 c114) gnil))) ow [0] Tryd.f110 k (I110 s) (E110 p0 p1 p2 p3 p4 s) (n+1)=T110 B c113 c110 c114 p0 p1 p2 p3 p4 (fun s=>aloop tau B gl0 X110 (ent 113 (e113 c113) (ent 110 (e110 c110) (ent 114 (e114 c114) gnil))) ow [0] Tryd.f110 k (I110 s) (E110 p0 p1 p2 p3 p4 s) n) (K11 k) (some s):=by
 intro s
 cases s<;>kernel_rfl
theorem nt110 {R R':Type} (B:Ops) (c113:C113) (c110:C110) (c114:C114) (p0:Int) (p1:L30) (p2:Int) (p3:Int) (p4:L140) (again:S110→Option R) (again':S110→Option R') (k0:(L30×Int×Int×L140)→Option R') (k:R'→Option R) (h:∀ s,again s=ob (again' s) k):∀ s,T110 B c113 c110 c114 p0 p1 p2 p3 p4 again (fun y=>ob (k0 y) k) s=ob (T110 B c113 c110 c114 p0 p1 p2 p3 p4 again' k0 s) k:=by
 rintro (_ | x)
 all_goals try cases x
 all_goals (unfold T110;repeat' first | exact rfl | exact h _ | apply qaf | (apply qao;intro))
def R110 (c113:C113) (c110:C110) (c114:C114) (p0:Int) (p1:L30) (p2:Int) (p3:Int) (p4:L140):Nat→S110→Option (L30×Int×Int×L140)
 | 0,_=>none
 | n+1,s=>T110 Ops.std c113 c110 c114 p0 p1 p2 p3 p4 (R110 c113 c110 c114 p0 p1 p2 p3 p4 n) some (some s)
theorem rr110 {R:Type} (c113:C113) (c110:C110) (c114:C114) (p0:Int) (p1:L30) (p2:Int) (p3:Int) (p4:L140) (k:AV→Objs→Option R):∀ (n:Nat) (s:S110),aloop tau Ops.std gl0 X110 (ent 113 (e113 c113) (ent 110 (e110 c110) (ent 114 (e114 c114) gnil))) ow [0] Tryd.f110 k (I110 s) (E110 p0 p1 p2 p3 p4 s) n=ob (R110 c113 c110 c114 p0 p1 p2 p3 p4 n s) (K11 k)
 | 0,s=>by cases s<;>rfl
 | n+1,s=>by rw [el110];exact nt110 Ops.std c113 c110 c114 p0 p1 p2 p3 p4 _ _ some (K11 k) (rr110 c113 c110 c114 p0 p1 p2 p3 p4 k n) (some s)
def F110 (c113:C113) (c110:C110) (c114:C114) (p0:Int) (p1:L30) (p2:Int) (p3:Int) (p4:L140):Option (L30×Int×Int×L140):=T110 Ops.std c113 c110 c114 p0 p1 p2 p3 p4 (R110 c113 c110 c114 p0 p1 p2 p3 p4 1000000) some none
theorem sf110 {c113:C113} {c110:C110} {c114:C114} (h113:Sp113 c113) (h110:Sp110 c110) (h114:Sp114 c114):Sp110 (F110 c113 c110 c114):=fun p0 p1 p2 p3 p4 y hy=>by
 refine qaj (qae (ek113 h113) (qae (ek110 h110) (qae (ek114 h114) qai))) 1000000 (fn:=Tryd.f110) (by kernel_rfl) (by kernel_rfl) (X:=X110) (by kernel_rfl) ?_
 rw [eq110]
 exact (nt110 Ops.std c113 c110 c114 p0 p1 p2 p3 p4 _ _ some (K11 k0) (rr110 c113 c110 c114 p0 p1 p2 p3 p4 k0 1000000) none).trans (by show ob (F110 c113 c110 c114 p0 p1 p2 p3 p4) _=_;rw [hy];rfl)
def X113:Aux:=⟨[(1000006,([1]++rg 3 167))],[(10,.lin (rg 0 12)),(14,.lin (rg 0 13)),(20,.lin (rg 0 12)),(23,.lin (rg 0 13)),(25,.lin (rg 0 11))]⟩
inductive S113 where
 | l1006 (v0:Int) (v1:L30) (v2:Int) (v3:Int) (v4:L140)
abbrev C115:Type:=LB→L30→Int→Int→L140→Option (Bool×L30×Int×Int×L140)
abbrev C116:Type:=L30→Int→Int→L140→Option (L30×Int×Int×L140)
def T113 {R:Type} (B:Ops) (c115:C115) (c113:C113) (c116:C116) (c110:C110) (p0:L30) (p1:Int) (p2:Int) (p3:L140) (again:S113→Option R) (k:(L30×Int×Int×L140)→Option R):Option S113→Option R | none=>cond (B.le (0) p2) (k ((p0,p1,p2,p3))) (ob (c115 ([33]:LB) p0 p1 p2 p3) fun y0=>cond y0.1 (again (.l1006 4 y0.2.1 ((y0.2.2).1) ((y0.2.2.2).1) ((y0.2.2.2).2))) (ob (c115 ([45]:LB) y0.2.1 ((y0.2.2).1) ((y0.2.2.2).1) ((y0.2.2.2).2)) fun y1=>cond y1.1 (again (.l1006 5 y1.2.1 ((y1.2.2).1) ((y1.2.2.2).1) ((y1.2.2.2).2))) (again (.l1006 0 y1.2.1 ((y1.2.2).1) ((y1.2.2.2).1) ((y1.2.2.2).2))))) | some (.l1006 v0 v1 v2 v3 v4)=>cond (!B.eq v0 (0)) (ob (c113 v1 (IntKind.wrap .i64 (v2+1)) v3 v4) fun y0=>cond (B.lim (List.length ((y0.2.2).2)+List.length ((v0,0,mt UInt8,mt UInt8)::mt (Ty.den ty140))) (48)) (k ((y0.1,y0.2.1,(y0.2.2).1,(y0.2.2).2++(v0,0,mt UInt8,mt UInt8)::mt (Ty.den ty140)))) none) (cond (B.inb v2 v1.length) (cond (B.eq ((v1.getD v2.toNat ty30.dflt).1) (1)) (cond (B.lim (List.length v4+List.length ((1,(((v1.getD v2.toNat ty30.dflt).2).2).1,mt UInt8,mt UInt8)::mt (Ty.den ty140))) (48)) (k ((v1,IntKind.wrap .i64 (v2+1),v3,v4++(1,(((v1.getD v2.toNat ty30.dflt).2).2).1,mt UInt8,mt UInt8)::mt (Ty.den ty140)))) none) (cond (B.eq ((v1.getD v2.toNat ty30.dflt).1) (2)) (ob (c115 ([64]:LB) v1 (IntKind.wrap .i64 (v2+1)) v3 v4) fun y0=>cond y0.1 (cond (B.inb (IntKind.wrap .i64 ((y0.2.2).1+1)) (List.length y0.2.1)) (cond (!B.eq ((List.getD y0.2.1 (Int.toNat (IntKind.wrap .i64 (y0.2.2.1+1))) ty30.dflt).1) (2)) (ob (c116 y0.2.1 (IntKind.wrap .i64 ((y0.2.2).1+1)) ((y0.2.2.2).1) ((y0.2.2.2).2)) fun y1=>k ((y1.1,y1.2.1,(y1.2.2).1,(y1.2.2).2))) (cond (B.inb (IntKind.wrap .i64 ((y0.2.2).1+1)) (List.length y0.2.1)) (cond (B.lim (List.length ((y0.2.2.2).2)+List.length ((3,0,((v1.getD v2.toNat ty30.dflt).2).1,((List.getD y0.2.1 (Int.toNat (IntKind.wrap .i64 (y0.2.2.1+1))) ty30.dflt).2).1)::mt (Ty.den ty140))) (48)) (k ((y0.2.1,IntKind.wrap .i64 (IntKind.wrap .i64 ((y0.2.2).1+1)+1),(y0.2.2.2).1,(y0.2.2.2).2++(3,0,((v1.getD v2.toNat ty30.dflt).2).1,((List.getD y0.2.1 (Int.toNat (IntKind.wrap .i64 (y0.2.2.1+1))) ty30.dflt).2).1)::mt (Ty.den ty140)))) none) none)) none) (cond (B.lim (List.length ((y0.2.2.2).2)+List.length ((2,0,((v1.getD v2.toNat ty30.dflt).2).1,mt UInt8)::mt (Ty.den ty140))) (48)) (k ((y0.2.1,(y0.2.2).1,(y0.2.2.2).1,(y0.2.2.2).2++(2,0,((v1.getD v2.toNat ty30.dflt).2).1,mt UInt8)::mt (Ty.den ty140)))) none)) (ob (c115 ([40]:LB) v1 v2 v3 v4) fun y0=>cond y0.1 (ob (c110 (1) y0.2.1 (IntKind.wrap .i64 ((y0.2.2).1+1)) ((y0.2.2.2).1) ((y0.2.2.2).2)) fun y1=>cond (B.le (0) ((y1.2.2).1)) (k ((y1.1,y1.2.1,(y1.2.2).1,(y1.2.2).2))) (ob (c115 ([41]:LB) y1.1 y1.2.1 ((y1.2.2).1) ((y1.2.2).2)) fun y2=>cond (!y2.1) (ob (c116 y2.2.1 ((y2.2.2).1) ((y2.2.2.2).1) ((y2.2.2.2).2)) fun y3=>k ((y3.1,y3.2.1,(y3.2.2).1,(y3.2.2).2))) (k ((y2.2.1,IntKind.wrap .i64 ((y2.2.2).1+1),(y2.2.2.2).1,(y2.2.2.2).2))))) (ob (c116 y0.2.1 ((y0.2.2).1) ((y0.2.2.2).1) ((y0.2.2.2).2)) fun y1=>k ((y1.1,y1.2.1,(y1.2.2).1,(y1.2.2).2)))))) none)
def E113 (p0:L30) (p1:Int) (p2:Int) (p3:L140):S113→List AV×Objs
 | .l1006 v0 v1 v2 v3 v4=>(mk 170 [(0,.c (.ptr 0 0)),(2,.c (.int .i64 v0))],[(0,.box 164 [.list 30 ty30 v1,.int .i64 v2,.own 1002,.int .i64 v3]),(1002,.row 140 ty140 v4)])
def I113:S113→Nat
 | .l1006 _ _ _ _ _=>1006
theorem eq113 {R:Type} (B:Ops) (c115:C115) (c113:C113) (c116:C116) (c110:C110) (p0:L30) (p1:Int) (p2:Int) (p3:L140) (k:AV→Objs→Option R) (n:Nat):afun tau B gl0 X113 (ent 115 (e115 c115) (ent 113 (e113 c113) (ent 116 (e116 c116) (ent 110 (e110 c110) gnil)))) ow Tryd.f113 [.c (.ptr 0 0)] [(0,.box 164 [.list 30 ty30 p0,.int .i64 p1,.own 1002,.int .i64 p2]),(1002,.row 140 ty140 p3)] k n=T113 B c115 c113 c116 c110 p0 p1 p2 p3 (fun s=>aloop tau B gl0 X113 (ent 115 (e115 c115) (ent 113 (e113 c113) (ent 116 (e116 c116) (ent 110 (e110 c110) gnil)))) ow [0] Tryd.f113 k (I113 s) (E113 p0 p1 p2 p3 s) n) (K11 k) none:=by kernel_rfl
theorem el113 {R:Type} (B:Ops) (c115:C115) (c113:C113) (c116:C116) (c110:C110) (p0:L30) (p1:Int) (p2:Int) (p3:L140) (k:AV→Objs→Option R) (n:Nat):∀ s,aloop tau B gl0 X113 (ent 115 (e115 c115) (ent 113 (e113 c113) (ent 116 (e116 c116) (ent 110 (e110 c110) gnil)))) ow [0] Tryd.f113 k (I113 s) (E113 p0 p1 p2 p3 s) (n+1)=T113 B c115 c113 c116 c110 p0 p1 p2 p3 (fun s=>aloop tau B gl0 X113 (ent 115 (e115 c115) (ent 113 (e113 c113) (ent 116 (e116 c116) (ent 110 (e110 c110) gnil)))) ow [0] Tryd.f113 k (I113 s) (E113 p0 p1 p2 p3 s) n) (K11 k) (some s):=by
 intro s
 cases s<;>kernel_rfl
theorem nt113 {R R':Type} (B:Ops) (c115:C115) (c113:C113) (c116:C116) (c110:C110) (p0:L30) (p1:Int) (p2:Int) (p3:L140) (again:S113→Option R) (again':S113→Option R') (k0:(L30×Int×Int×L140)→Option R') (k:R'→Option R) (h:∀ s,again s=ob (again' s) k):∀ s,T113 B c115 c113 c116 c110 p0 p1 p2 p3 again (fun y=>ob (k0 y) k) s=ob (T113 B c115 c113 c116 c110 p0 p1 p2 p3 again' k0 s) k:=by
 rintro (_ | x)
 all_goals try cases x
 all_goals (unfold T113;repeat' first | exact rfl | exact h _ | apply qaf | (apply qao;intro))
def R113 (c115:C115) (c113:C113) (c116:C116) (c110:C110) (p0:L30) (p1:Int) (p2:Int) (p3:L140):Nat→S113→Option (L30×Int×Int×L140)
 | 0,_=>none
 | n+1,s=>T113 Ops.std c115 c113 c116 c110 p0 p1 p2 p3 (R113 c115 c113 c116 c110 p0 p1 p2 p3 n) some (some s)
theorem rr113 {R:Type} (c115:C115) (c113:C113) (c116:C116) (c110:C110) (p0:L30) (p1:Int) (p2:Int) (p3:L140) (k:AV→Objs→Option R):∀ (n:Nat) (s:S113),aloop tau Ops.std gl0 X113 (ent 115 (e115 c115) (ent 113 (e113 c113) (ent 116 (e116 c116) (ent 110 (e110 c110) gnil)))) ow [0] Tryd.f113 k (I113 s) (E113 p0 p1 p2 p3 s) n=ob (R113 c115 c113 c116 c110 p0 p1 p2 p3 n s) (K11 k)
 | 0,s=>by cases s<;>rfl
 | n+1,s=>by rw [el113];exact nt113 Ops.std c115 c113 c116 c110 p0 p1 p2 p3 _ _ some (K11 k) (rr113 c115 c113 c116 c110 p0 p1 p2 p3 k n) (some s)
def F113 (c115:C115) (c113:C113) (c116:C116) (c110:C110) (p0:L30) (p1:Int) (p2:Int) (p3:L140):Option (L30×Int×Int×L140):=T113 Ops.std c115 c113 c116 c110 p0 p1 p2 p3 (R113 c115 c113 c116 c110 p0 p1 p2 p3 1000000) some none
theorem sf113 {c115:C115} {c113:C113} {c116:C116} {c110:C110} (h115:Sp115 c115) (h113:Sp113 c113) (h116:Sp116 c116) (h110:Sp110 c110):Sp113 (F113 c115 c113 c116 c110):=fun p0 p1 p2 p3 y hy=>by
 refine qaj (qae (ek115 h115) (qae (ek113 h113) (qae (ek116 h116) (qae (ek110 h110) qai)))) 1000000 (fn:=Tryd.f113) (by kernel_rfl) (by kernel_rfl) (X:=X113) (by kernel_rfl) ?_
 rw [eq113]
 exact (nt113 Ops.std c115 c113 c116 c110 p0 p1 p2 p3 _ _ some (K11 k0) (rr113 c115 c113 c116 c110 p0 p1 p2 p3 k0 1000000) none).trans (by show ob (F113 c115 c113 c116 c110 p0 p1 p2 p3) _=_;rw [hy];rfl)
noncomputable def Rec110:Nat→(Int→L30→Int→Int→L140→Option (L30×Int×Int×L140))×(L30→Int→Int→L140→Option (L30×Int×Int×L140))
 | 0=>(fun _ _ _ _ _=>none,fun _ _ _ _=>none)
 | d+1=>(F110 (Rec110 d).2 (Rec110 d).1 M114,F113 M115 (Rec110 d).2 M116 (Rec110 d).1)
theorem rec110:∀ d,Sp110 (Rec110 d).1∧Sp113 (Rec110 d).2
 | 0=>⟨(fun p0 p1 p2 p3 p4 y (h:(none:Option (L30×Int×Int×L140))=some y)=>by cases h),(fun p0 p1 p2 p3 y (h:(none:Option (L30×Int×Int×L140))=some y)=>by cases h)⟩
 | d+1=>⟨sf110 (rec110 d).2 (rec110 d).1 sm114,sf113 sm115 (rec110 d).2 sm116 (rec110 d).1⟩
noncomputable def M110:Int→L30→Int→Int→L140→Option (L30×Int×Int×L140):=(Rec110 1000000).1
theorem sm110:Sp110 M110:=(rec110 1000000).1
end Go.Proofs.YtfdlgmbbflmbgaaDoor.Av
