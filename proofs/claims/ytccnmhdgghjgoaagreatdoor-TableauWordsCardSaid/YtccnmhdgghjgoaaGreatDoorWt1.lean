/- Twins of functions,printed by gen.py. Conditions: none. -/
import Derived.Test.YtccnmhdgghjgoaaGreatDoorCl1
import Derived.Test.YtccnmhdgghjgoaaGreatDoorGrow
import Derived.KernelRfl
set_option linter.unusedSimpArgs false
set_option linter.unusedVariables false
set_option maxRecDepth 100000
set_option maxHeartbeats 8000000
namespace Go.Proofs.YtccnmhdgghjgoaaGreatDoor.Av
open Go
abbrev LB:=List UInt8
abbrev rg:=List.range'
abbrev L3:=List ty3.den
abbrev L4:=List ty4.den
abbrev L9:=List ty9.den
abbrev L22:=List ty22.den
abbrev L47:=List ty47.den
abbrev L66:=List ty66.den
abbrev L68:=List ty68.den
abbrev L94:=List ty94.den
abbrev L98:=List ty98.den
abbrev L103:=List ty103.den
abbrev L130:=List ty130.den
abbrev L150:=List ty150.den
abbrev L157:=List ty157.den
abbrev L210:=List ty210.den
abbrev oE {R:Type} (l:List AV) (o:Objs) (x:Option R):Option R:=oNil l <| oNilO o <| x
theorem qan {R:Type} {l:List AV} {o:Objs} {x:Option R} {r:R} (h:oE l o x=some r):l=[]∧o=[]∧x=some r:=by
 obtain ⟨rfl,q1⟩:=qay h
 obtain ⟨rfl,q2⟩:=qax q1
 exact ⟨rfl,rfl,q2⟩
abbrev oL {R:Type} (l:List AV) (n:Nat) (t:Ty) (f:List t.den→List AV→Option R):Option R:=oCons l fun a l=>oC a fun x=>cList n t x fun p=>f p l
theorem qaw {R:Type} {l:List AV} {n:Nat} {t:Ty} {f:List t.den→List AV→Option R} {r:R} (h:oL l n t f=some r):∃ p l',l=.c (.list n t p)::l'∧f p l'=some r:=by
 obtain ⟨a,l',rfl,q1⟩:=qai h
 obtain ⟨x,rfl,q2⟩:=qa6 q1
 obtain ⟨p,rfl,q3⟩:=qac q2
 exact ⟨p,l',rfl,q3⟩
abbrev oI {R:Type} (l:List AV) (n:IntKind) (f:Int→List AV→Option R):Option R:=oCons l fun a l=>oC a fun x=>cInt n x fun p=>f p l
theorem qau {R:Type} {l:List AV} {n:IntKind} {f:Int→List AV→Option R} {r:R} (h:oI l n f=some r):∃ p l',l=.c (.int n p)::l'∧f p l'=some r:=by
 obtain ⟨a,l',rfl,q1⟩:=qai h
 obtain ⟨x,rfl,q2⟩:=qa6 q1
 obtain ⟨p,rfl,q3⟩:=qar q2
 exact ⟨p,l',rfl,q3⟩
abbrev oS {R:Type} (l:List AV) (f:LB→List AV→Option R):Option R:=oCons l fun a l=>oC a fun x=>cStr x fun p=>f p l
theorem qa9 {R:Type} {l:List AV} {f:LB→List AV→Option R} {r:R} (h:oS l f=some r):∃ p l',l=.c (.str p)::l'∧f p l'=some r:=by
 obtain ⟨a,l',rfl,q1⟩:=qai h
 obtain ⟨x,rfl,q2⟩:=qa6 q1
 obtain ⟨p,rfl,q3⟩:=qa7 q2
 exact ⟨p,l',rfl,q3⟩
def X96:Aux:=⟨[],[]⟩
def T96 {R:Type} (B:Ops) (p0:Int) (k:(Int)→Option R):Option R:=cond (B.eq p0 (1)) (k 0) (cond (B.eq p0 (2)) (k 0) (cond (B.eq p0 (3)) (k 0) (cond (B.eq p0 (4)) (k 1) (cond (B.eq p0 (8)) (k 1) (cond (B.eq p0 (11)) (k 1) (cond (B.eq p0 (12)) (k 1) (cond (B.eq p0 (5)) (k 2) (cond (B.eq p0 (6)) (k 2) (cond (B.eq p0 (7)) (k 2) (cond (B.eq p0 (9)) (k 2) (cond (B.eq p0 (10)) (k 2) (k (-1)))))))))))))
abbrev K1 {R:Type} (k:AV→Objs→Option R) (y:(Int)):Option R:=k (.c (.int .i64 y)) []
theorem eq96 {R:Type} (B:Ops) (p0:Int) (k:AV→Objs→Option R) (n:Nat):afun tau B gl0 X96 gnil ow Tryz.f96 [.c (.int .i64 p0)] [] k n=T96 B p0 (K1 k):=by kernel_rfl
theorem nt96 {R R':Type} (B:Ops) (p0:Int) (k0:(Int)→Option R') (k:R'→Option R):T96 B p0 (fun y=>ob (k0 y) k)=ob (T96 B p0 k0) k:=by
 unfold T96
 repeat' first | exact rfl | apply qaf | (apply qao;intro)
def F96 (p0:Int):Option (Int):=T96 Ops.std p0 some
def e96 {R:Type} (c:Int→Option (Int)):Ent R:=fun args objs k=>
 oI args .i64 fun p0 l0=>oE l0 objs <| ob (c p0) (K1 k)
abbrev Sp96 (c:Int→Option (Int)):Prop:=∀ (p0:Int) (y:Int),c p0=some y→Spec Tryz.prog gl0 96 [.c (.int .i64 p0)] [] (.c (.int .i64 y)) []
theorem ek96 {R:Type} {c:Int→Option (Int)} (hs:Sp96 c):EOk 96 (e96 (R:=R) c):=fun args objs k r h=>by
 unfold e96 at h
 obtain ⟨p0,l0,rfl,q3⟩:=qau h
 obtain ⟨rfl,rfl,q5⟩:=qan q3
 exact qap (hs p0) q5
theorem sf96:Sp96 (F96):=fun p0 y hy=>by
 refine qak qaj 1000000 (fn:=Tryz.f96) (by kernel_rfl) (by kernel_rfl) (X:=X96) (by kernel_rfl) ?_
 rw [eq96]
 exact (nt96 Ops.std p0 some (K1 k0)).trans (by show ob (F96 p0) _=_;rw [hy];rfl)
noncomputable def M96:Int→Option (Int):=F96
theorem sm96:Sp96 M96:=sf96
def X117:Aux:=⟨[],[]⟩
def T117 {R:Type} (B:Ops) (p0:Int) (k:(Int)→Option R):Option R:=cond (B.lt p0 (1)) (k (-1)) (cond (B.lt (16) p0) (k (-1)) (cond (B.le p0 (3)) (k 0) (cond (B.le p0 (5)) (k 1) (k 2))))
theorem eq117 {R:Type} (B:Ops) (p0:Int) (k:AV→Objs→Option R) (n:Nat):afun tau B gl0 X117 gnil ow Tryz.f117 [.c (.int .i64 p0)] [] k n=T117 B p0 (K1 k):=by kernel_rfl
theorem nt117 {R R':Type} (B:Ops) (p0:Int) (k0:(Int)→Option R') (k:R'→Option R):T117 B p0 (fun y=>ob (k0 y) k)=ob (T117 B p0 k0) k:=by
 unfold T117
 repeat' first | exact rfl | apply qaf | (apply qao;intro)
def F117 (p0:Int):Option (Int):=T117 Ops.std p0 some
def e117 {R:Type} (c:Int→Option (Int)):Ent R:=fun args objs k=>
 oI args .i64 fun p0 l0=>oE l0 objs <| ob (c p0) (K1 k)
abbrev Sp117 (c:Int→Option (Int)):Prop:=∀ (p0:Int) (y:Int),c p0=some y→Spec Tryz.prog gl0 117 [.c (.int .i64 p0)] [] (.c (.int .i64 y)) []
theorem ek117 {R:Type} {c:Int→Option (Int)} (hs:Sp117 c):EOk 117 (e117 (R:=R) c):=fun args objs k r h=>by
 unfold e117 at h
 obtain ⟨p0,l0,rfl,q3⟩:=qau h
 obtain ⟨rfl,rfl,q5⟩:=qan q3
 exact qap (hs p0) q5
theorem sf117:Sp117 (F117):=fun p0 y hy=>by
 refine qak qaj 1000000 (fn:=Tryz.f117) (by kernel_rfl) (by kernel_rfl) (X:=X117) (by kernel_rfl) ?_
 rw [eq117]
 exact (nt117 Ops.std p0 some (K1 k0)).trans (by show ob (F117 p0) _=_;rw [hy];rfl)
noncomputable def M117:Int→Option (Int):=F117
theorem sm117:Sp117 M117:=sf117
def X187:Aux:=⟨[],[]⟩
def T187 {R:Type} (B:Ops) (p0:Int) (k:(Bool)→Option R):Option R:=cond (B.le (97) p0) (cond (B.le p0 (122)) (k true) (k (B.eq p0 (95)))) (k (B.eq p0 (95)))
abbrev K2 {R:Type} (k:AV→Objs→Option R) (y:(Bool)):Option R:=k (.c (.bool y)) []
theorem eq187 {R:Type} (B:Ops) (p0:Int) (k:AV→Objs→Option R) (n:Nat):afun tau B gl0 X187 gnil ow Tryz.f187 [.c (.int .u8 p0)] [] k n=T187 B p0 (K2 k):=by kernel_rfl
theorem nt187 {R R':Type} (B:Ops) (p0:Int) (k0:(Bool)→Option R') (k:R'→Option R):T187 B p0 (fun y=>ob (k0 y) k)=ob (T187 B p0 k0) k:=by
 unfold T187
 repeat' first | exact rfl | apply qaf | (apply qao;intro)
def F187 (p0:Int):Option (Bool):=T187 Ops.std p0 some
def e187 {R:Type} (c:Int→Option (Bool)):Ent R:=fun args objs k=>
 oI args .u8 fun p0 l0=>oE l0 objs <| ob (c p0) (K2 k)
abbrev Sp187 (c:Int→Option (Bool)):Prop:=∀ (p0:Int) (y:Bool),c p0=some y→Spec Tryz.prog gl0 187 [.c (.int .u8 p0)] [] (.c (.bool y)) []
theorem ek187 {R:Type} {c:Int→Option (Bool)} (hs:Sp187 c):EOk 187 (e187 (R:=R) c):=fun args objs k r h=>by
 unfold e187 at h
 obtain ⟨p0,l0,rfl,q3⟩:=qau h
 obtain ⟨rfl,rfl,q5⟩:=qan q3
 exact qap (hs p0) q5
theorem sf187:Sp187 (F187):=fun p0 y hy=>by
 refine qak qaj 1000000 (fn:=Tryz.f187) (by kernel_rfl) (by kernel_rfl) (X:=X187) (by kernel_rfl) ?_
 rw [eq187]
 exact (nt187 Ops.std p0 some (K2 k0)).trans (by show ob (F187 p0) _=_;rw [hy];rfl)
noncomputable def M187:Int→Option (Bool):=F187
theorem sm187:Sp187 M187:=sf187
def X192:Aux:=⟨[],[]⟩
def T192 {R:Type} (B:Ops) (p0:Int) (k:(Bool)→Option R):Option R:=cond (B.le (48) p0) (k (B.le p0 (57))) (k false)
theorem eq192 {R:Type} (B:Ops) (p0:Int) (k:AV→Objs→Option R) (n:Nat):afun tau B gl0 X192 gnil ow Tryz.f192 [.c (.int .u8 p0)] [] k n=T192 B p0 (K2 k):=by kernel_rfl
theorem nt192 {R R':Type} (B:Ops) (p0:Int) (k0:(Bool)→Option R') (k:R'→Option R):T192 B p0 (fun y=>ob (k0 y) k)=ob (T192 B p0 k0) k:=by
 unfold T192
 repeat' first | exact rfl | apply qaf | (apply qao;intro)
def F192 (p0:Int):Option (Bool):=T192 Ops.std p0 some
def e192 {R:Type} (c:Int→Option (Bool)):Ent R:=fun args objs k=>
 oI args .u8 fun p0 l0=>oE l0 objs <| ob (c p0) (K2 k)
abbrev Sp192 (c:Int→Option (Bool)):Prop:=∀ (p0:Int) (y:Bool),c p0=some y→Spec Tryz.prog gl0 192 [.c (.int .u8 p0)] [] (.c (.bool y)) []
theorem ek192 {R:Type} {c:Int→Option (Bool)} (hs:Sp192 c):EOk 192 (e192 (R:=R) c):=fun args objs k r h=>by
 unfold e192 at h
 obtain ⟨p0,l0,rfl,q3⟩:=qau h
 obtain ⟨rfl,rfl,q5⟩:=qan q3
 exact qap (hs p0) q5
theorem sf192:Sp192 (F192):=fun p0 y hy=>by
 refine qak qaj 1000000 (fn:=Tryz.f192) (by kernel_rfl) (by kernel_rfl) (X:=X192) (by kernel_rfl) ?_
 rw [eq192]
 exact (nt192 Ops.std p0 some (K2 k0)).trans (by show ob (F192 p0) _=_;rw [hy];rfl)
noncomputable def M192:Int→Option (Bool):=F192
theorem sm192:Sp192 M192:=sf192
def X189:Aux:=⟨[],[]⟩
abbrev C187:Type:=Int→Option (Bool)
abbrev C192:Type:=Int→Option (Bool)
def T189 {R:Type} (B:Ops) (c187:C187) (c192:C192) (p0:Int) (k:(Bool)→Option R):Option R:=ob (c187 p0) fun y0=>cond (y0) (k true) (ob (c192 p0) fun y1=>k y1)
theorem eq189 {R:Type} (B:Ops) (c187:C187) (c192:C192) (p0:Int) (k:AV→Objs→Option R) (n:Nat):afun tau B gl0 X189 (ent 187 (e187 c187) (ent 192 (e192 c192) gnil)) ow Tryz.f189 [.c (.int .u8 p0)] [] k n=T189 B c187 c192 p0 (K2 k):=by kernel_rfl
theorem nt189 {R R':Type} (B:Ops) (c187:C187) (c192:C192) (p0:Int) (k0:(Bool)→Option R') (k:R'→Option R):T189 B c187 c192 p0 (fun y=>ob (k0 y) k)=ob (T189 B c187 c192 p0 k0) k:=by
 unfold T189
 repeat' first | exact rfl | apply qaf | (apply qao;intro)
def F189 (c187:C187) (c192:C192) (p0:Int):Option (Bool):=T189 Ops.std c187 c192 p0 some
def e189 {R:Type} (c:Int→Option (Bool)):Ent R:=fun args objs k=>
 oI args .u8 fun p0 l0=>oE l0 objs <| ob (c p0) (K2 k)
abbrev Sp189 (c:Int→Option (Bool)):Prop:=∀ (p0:Int) (y:Bool),c p0=some y→Spec Tryz.prog gl0 189 [.c (.int .u8 p0)] [] (.c (.bool y)) []
theorem ek189 {R:Type} {c:Int→Option (Bool)} (hs:Sp189 c):EOk 189 (e189 (R:=R) c):=fun args objs k r h=>by
 unfold e189 at h
 obtain ⟨p0,l0,rfl,q3⟩:=qau h
 obtain ⟨rfl,rfl,q5⟩:=qan q3
 exact qap (hs p0) q5
theorem sf189 {c187:C187} {c192:C192} (h187:Sp187 c187) (h192:Sp192 c192):Sp189 (F189 c187 c192):=fun p0 y hy=>by
 refine qak (qae (ek187 h187) (qae (ek192 h192) qaj)) 1000000 (fn:=Tryz.f189) (by kernel_rfl) (by kernel_rfl) (X:=X189) (by kernel_rfl) ?_
 rw [eq189]
 exact (nt189 Ops.std c187 c192 p0 some (K2 k0)).trans (by show ob (F189 c187 c192 p0) _=_;rw [hy];rfl)
noncomputable def M189:Int→Option (Bool):=F189 M187 M192
theorem sm189:Sp189 M189:=sf189 sm187 sm192
def X188:Aux:=⟨[(2,([2,3,4]++rg 6 16))],[]⟩
inductive S188 where
 | l0 (v1:Int)
abbrev C189:Type:=Int→Option (Bool)
def T188 {R:Type} (B:Ops) (c189:C189) (p0:LB) (again:S188→Option R) (k:(LB)→Option R):Option S188→Option R | none=>again (.l0 0) | some (.l0 v1)=>cond (B.lt v1 (↑p0.length)) (cond (B.inb v1 p0.length) (ob (c189 (Nat.cast (UInt8.toNat (p0.getD v1.toNat (0))))) fun y0=>cond (y0) (again (.l0 (IntKind.wrap .i64 (v1+1)))) (cond (B.inb v1 (List.length p0+1)) (k (List.drop (0) (List.take v1.toNat p0))) none)) none) (cond (B.inb v1 (List.length p0+1)) (k (List.drop (0) (List.take v1.toNat p0))) none)
def E188 (p0:LB):S188→List AV×Objs
 | .l0 v1=>(mk 22 [(0,.c (.str p0)),(1,.fn 189 []),(5,.c (.int .i64 v1))],[])
def I188:S188→Nat
 | .l0 _=>0
abbrev K3 {R:Type} (k:AV→Objs→Option R) (y:(LB)):Option R:=k (.c (.str y)) []
theorem eq188 {R:Type} (B:Ops) (c189:C189) (p0:LB) (k:AV→Objs→Option R) (n:Nat):afun tau B gl0 X188 (ent 189 (e189 c189) gnil) ow Tryz.f188 [.c (.str p0),.fn 189 []] [] k n=T188 B c189 p0 (fun s=>aloop tau B gl0 X188 (ent 189 (e189 c189) gnil) ow [] Tryz.f188 k (I188 s) (E188 p0 s) n) (K3 k) none:=by kernel_rfl
theorem el188 {R:Type} (B:Ops) (c189:C189) (p0:LB) (k:AV→Objs→Option R) (n:Nat):∀ s,aloop tau B gl0 X188 (ent 189 (e189 c189) gnil) ow [] Tryz.f188 k (I188 s) (E188 p0 s) (n+1)=T188 B c189 p0 (fun s=>aloop tau B gl0 X188 (ent 189 (e189 c189) gnil) ow [] Tryz.f188 k (I188 s) (E188 p0 s) n) (K3 k) (some s):=by
 intro s
 cases s<;>kernel_rfl
theorem nt188 {R R':Type} (B:Ops) (c189:C189) (p0:LB) (again:S188→Option R) (again':S188→Option R') (k0:(LB)→Option R') (k:R'→Option R) (h:∀ s,again s=ob (again' s) k):∀ s,T188 B c189 p0 again (fun y=>ob (k0 y) k) s=ob (T188 B c189 p0 again' k0 s) k:=by
 rintro (_ | x)
 all_goals try cases x
 all_goals (unfold T188;repeat' first | exact rfl | exact h _ | apply qaf | (apply qao;intro))
def R188 (c189:C189) (p0:LB):Nat→S188→Option (LB)
 | 0,_=>none
 | n+1,s=>T188 Ops.std c189 p0 (R188 c189 p0 n) some (some s)
theorem rr188 {R:Type} (c189:C189) (p0:LB) (k:AV→Objs→Option R):∀ (n:Nat) (s:S188),aloop tau Ops.std gl0 X188 (ent 189 (e189 c189) gnil) ow [] Tryz.f188 k (I188 s) (E188 p0 s) n=ob (R188 c189 p0 n s) (K3 k)
 | 0,s=>by cases s<;>rfl
 | n+1,s=>by rw [el188];exact nt188 Ops.std c189 p0 _ _ some (K3 k) (rr188 c189 p0 k n) (some s)
def F188 (c189:C189) (p0:LB):Option (LB):=T188 Ops.std c189 p0 (R188 c189 p0 1000000) some none
def e188 {R:Type} (c:LB→Option (LB)):Ent R:=fun args objs k=>
 oS args fun p0 l0=>oCons l0 fun a1 l1=>oFn 189 a1 <| oE l1 objs <| ob (c p0) (K3 k)
abbrev Sp188 (c:LB→Option (LB)):Prop:=∀ (p0:LB) (y:LB),c p0=some y→Spec Tryz.prog gl0 188 [.c (.str p0),.fn 189 []] [] (.c (.str y)) []
theorem ek188 {R:Type} {c:LB→Option (LB)} (hs:Sp188 c):EOk 188 (e188 (R:=R) c):=fun args objs k r h=>by
 unfold e188 at h
 obtain ⟨p0,l0,rfl,q3⟩:=qa9 h
 obtain ⟨a1,l1,rfl,q4⟩:=qai q3
 obtain ⟨rfl,q5⟩:=oFn_some q4
 obtain ⟨rfl,rfl,q7⟩:=qan q5
 exact qap (hs p0) q7
theorem sf188 {c189:C189} (h189:Sp189 c189):Sp188 (F188 c189):=fun p0 y hy=>by
 refine qak (qae (ek189 h189) qaj) 1000000 (fn:=Tryz.f188) (by kernel_rfl) (by kernel_rfl) (X:=X188) (by kernel_rfl) ?_
 rw [eq188]
 exact (nt188 Ops.std c189 p0 _ _ some (K3 k0) (rr188 c189 p0 k0 1000000) none).trans (by show ob (F188 c189 p0) _=_;rw [hy];rfl)
noncomputable def M188:LB→Option (LB):=F188 M189
theorem sm188:Sp188 M188:=sf188 sm189
def X217:Aux:=⟨[(2,([2,3,4]++rg 6 16))],[]⟩
inductive S217 where
 | l0 (v1:Int)
def T217 {R:Type} (B:Ops) (c192:C192) (p0:LB) (again:S217→Option R) (k:(LB)→Option R):Option S217→Option R | none=>again (.l0 0) | some (.l0 v1)=>cond (B.lt v1 (↑p0.length)) (cond (B.inb v1 p0.length) (ob (c192 (Nat.cast (UInt8.toNat (p0.getD v1.toNat (0))))) fun y0=>cond (y0) (again (.l0 (IntKind.wrap .i64 (v1+1)))) (cond (B.inb v1 (List.length p0+1)) (k (List.drop (0) (List.take v1.toNat p0))) none)) none) (cond (B.inb v1 (List.length p0+1)) (k (List.drop (0) (List.take v1.toNat p0))) none)
def E217 (p0:LB):S217→List AV×Objs
 | .l0 v1=>(mk 22 [(0,.c (.str p0)),(1,.fn 192 []),(5,.c (.int .i64 v1))],[])
def I217:S217→Nat
 | .l0 _=>0
theorem eq217 {R:Type} (B:Ops) (c192:C192) (p0:LB) (k:AV→Objs→Option R) (n:Nat):afun tau B gl0 X217 (ent 192 (e192 c192) gnil) ow Tryz.f188 [.c (.str p0),.fn 192 []] [] k n=T217 B c192 p0 (fun s=>aloop tau B gl0 X217 (ent 192 (e192 c192) gnil) ow [] Tryz.f188 k (I217 s) (E217 p0 s) n) (K3 k) none:=by kernel_rfl
theorem el217 {R:Type} (B:Ops) (c192:C192) (p0:LB) (k:AV→Objs→Option R) (n:Nat):∀ s,aloop tau B gl0 X217 (ent 192 (e192 c192) gnil) ow [] Tryz.f188 k (I217 s) (E217 p0 s) (n+1)=T217 B c192 p0 (fun s=>aloop tau B gl0 X217 (ent 192 (e192 c192) gnil) ow [] Tryz.f188 k (I217 s) (E217 p0 s) n) (K3 k) (some s):=by
 intro s
 cases s<;>kernel_rfl
theorem nt217 {R R':Type} (B:Ops) (c192:C192) (p0:LB) (again:S217→Option R) (again':S217→Option R') (k0:(LB)→Option R') (k:R'→Option R) (h:∀ s,again s=ob (again' s) k):∀ s,T217 B c192 p0 again (fun y=>ob (k0 y) k) s=ob (T217 B c192 p0 again' k0 s) k:=by
 rintro (_ | x)
 all_goals try cases x
 all_goals (unfold T217;repeat' first | exact rfl | exact h _ | apply qaf | (apply qao;intro))
def R217 (c192:C192) (p0:LB):Nat→S217→Option (LB)
 | 0,_=>none
 | n+1,s=>T217 Ops.std c192 p0 (R217 c192 p0 n) some (some s)
theorem rr217 {R:Type} (c192:C192) (p0:LB) (k:AV→Objs→Option R):∀ (n:Nat) (s:S217),aloop tau Ops.std gl0 X217 (ent 192 (e192 c192) gnil) ow [] Tryz.f188 k (I217 s) (E217 p0 s) n=ob (R217 c192 p0 n s) (K3 k)
 | 0,s=>by cases s<;>rfl
 | n+1,s=>by rw [el217];exact nt217 Ops.std c192 p0 _ _ some (K3 k) (rr217 c192 p0 k n) (some s)
def F217 (c192:C192) (p0:LB):Option (LB):=T217 Ops.std c192 p0 (R217 c192 p0 1000000) some none
def e217 {R:Type} (c:LB→Option (LB)):Ent R:=fun args objs k=>
 oS args fun p0 l0=>oCons l0 fun a1 l1=>oFn 192 a1 <| oE l1 objs <| ob (c p0) (K3 k)
abbrev Sp217 (c:LB→Option (LB)):Prop:=∀ (p0:LB) (y:LB),c p0=some y→Spec Tryz.prog gl0 188 [.c (.str p0),.fn 192 []] [] (.c (.str y)) []
theorem ek217 {R:Type} {c:LB→Option (LB)} (hs:Sp217 c):EOk 188 (e217 (R:=R) c):=fun args objs k r h=>by
 unfold e217 at h
 obtain ⟨p0,l0,rfl,q3⟩:=qa9 h
 obtain ⟨a1,l1,rfl,q4⟩:=qai q3
 obtain ⟨rfl,q5⟩:=oFn_some q4
 obtain ⟨rfl,rfl,q7⟩:=qan q5
 exact qap (hs p0) q7
theorem sf217 {c192:C192} (h192:Sp192 c192):Sp217 (F217 c192):=fun p0 y hy=>by
 refine qak (qae (ek192 h192) qaj) 1000000 (fn:=Tryz.f188) (by kernel_rfl) (by kernel_rfl) (X:=X217) (by kernel_rfl) ?_
 rw [eq217]
 exact (nt217 Ops.std c192 p0 _ _ some (K3 k0) (rr217 c192 p0 k0 1000000) none).trans (by show ob (F217 c192 p0) _=_;rw [hy];rfl)
noncomputable def M217:LB→Option (LB):=F217 M192
theorem sm217:Sp217 M217:=sf217 sm192
def X185:Aux:=⟨[],[]⟩
abbrev C188:Type:=LB→Option (LB)
abbrev C217:Type:=LB→Option (LB)
def T185 {R:Type} (B:Ops) (c187:C187) (c188:C188) (c217:C217) (c189:C189) (p0:LB) (k:(Bool)→Option R):Option R:=cond (!p0 == mt UInt8) (cond (B.le (↑p0.length) (8)) (cond (B.inb (0) p0.length) (ob (c187 (Nat.cast (UInt8.toNat (p0.getD (Int.toNat (0)) (0))))) fun y0=>cond (y0) (ob (c188 p0) fun y1=>k (y1 == p0)) (k false)) none) (k false)) (k false)
theorem eq185 {R:Type} (B:Ops) (c187:C187) (c188:C188) (c217:C217) (c189:C189) (p0:LB) (k:AV→Objs→Option R) (n:Nat):afun tau B gl0 X185 (ent 187 (e187 c187) (ent 188 (eAlt 1 189 (e188 c188) (e217 c217)) (ent 189 (e189 c189) gnil))) ow Tryz.f185 [.c (.str p0)] [] k n=T185 B c187 c188 c217 c189 p0 (K2 k):=by kernel_rfl
theorem nt185 {R R':Type} (B:Ops) (c187:C187) (c188:C188) (c217:C217) (c189:C189) (p0:LB) (k0:(Bool)→Option R') (k:R'→Option R):T185 B c187 c188 c217 c189 p0 (fun y=>ob (k0 y) k)=ob (T185 B c187 c188 c217 c189 p0 k0) k:=by
 unfold T185
 repeat' first | exact rfl | apply qaf | (apply qao;intro)
def F185 (c187:C187) (c188:C188) (c217:C217) (c189:C189) (p0:LB):Option (Bool):=T185 Ops.std c187 c188 c217 c189 p0 some
def e185 {R:Type} (c:LB→Option (Bool)):Ent R:=fun args objs k=>
 oS args fun p0 l0=>oE l0 objs <| ob (c p0) (K2 k)
abbrev Sp185 (c:LB→Option (Bool)):Prop:=∀ (p0:LB) (y:Bool),c p0=some y→Spec Tryz.prog gl0 185 [.c (.str p0)] [] (.c (.bool y)) []
theorem ek185 {R:Type} {c:LB→Option (Bool)} (hs:Sp185 c):EOk 185 (e185 (R:=R) c):=fun args objs k r h=>by
 unfold e185 at h
 obtain ⟨p0,l0,rfl,q3⟩:=qa9 h
 obtain ⟨rfl,rfl,q5⟩:=qan q3
 exact qap (hs p0) q5
theorem sf185 {c187:C187} {c188:C188} {c217:C217} {c189:C189} (h187:Sp187 c187) (h188:Sp188 c188) (h217:Sp217 c217) (h189:Sp189 c189):Sp185 (F185 c187 c188 c217 c189):=fun p0 y hy=>by
 refine qak (G:=ent 187 (e187 c187) (ent 188 (eAlt 1 189 (e188 c188) (e217 c217)) (ent 189 (e189 c189) gnil))) (qae (ek187 h187) (qae (eAlt_ok (ek188 h188) (ek217 h217)) (qae (ek189 h189) qaj))) 1000000 (fn:=Tryz.f185) (by kernel_rfl) (by kernel_rfl) (X:=X185) (by kernel_rfl) ?_
 rw [eq185]
 exact (nt185 Ops.std c187 c188 c217 c189 p0 some (K2 k0)).trans (by show ob (F185 c187 c188 c217 c189 p0) _=_;rw [hy];rfl)
noncomputable def M185:LB→Option (Bool):=F185 M187 M188 M217 M189
theorem sm185:Sp185 M185:=sf185 sm187 sm188 sm217 sm189
def X183:Aux:=⟨[],[]⟩
abbrev C185:Type:=LB→Option (Bool)
abbrev C117:Type:=Int→Option (Int)
def T183 {R:Type} (B:Ops) (c185:C185) (c117:C117) (p0:Int) (p1:Int) (p2:LB) (p3:LB) (k:(Bool)→Option R):Option R:=cond (B.eq p0 (1)) (cond (B.le (0) p1) (cond (B.le p1 (999)) (cond (p2 == mt UInt8) (k (p3 == mt UInt8)) (k false)) (k false)) (k false)) (cond (B.eq p0 (2)) (cond (B.eq p1 (0)) (ob (c185 p2) fun y0=>cond (y0) (k (p3 == mt UInt8)) (k false)) (k false)) (cond (B.eq p0 (3)) (cond (B.eq p1 (0)) (ob (c185 p2) fun y0=>cond (y0) (ob (c185 p3) fun y1=>k y1) (k false)) (k false)) (ob (c117 p0) fun y0=>cond (B.lt (0) y0) (cond (B.eq p1 (0)) (cond (p2 == mt UInt8) (k (p3 == mt UInt8)) (k false)) (k false)) (k false))))
theorem eq183 {R:Type} (B:Ops) (c185:C185) (c117:C117) (p0:Int) (p1:Int) (p2:LB) (p3:LB) (k:AV→Objs→Option R) (n:Nat):afun tau B gl0 X183 (ent 185 (e185 c185) (ent 117 (e117 c117) gnil)) ow Tryz.f183 [.agg [.int .i64 p0,.int .i64 p1,.str p2,.str p3]] [] k n=T183 B c185 c117 p0 p1 p2 p3 (K2 k):=by kernel_rfl
theorem nt183 {R R':Type} (B:Ops) (c185:C185) (c117:C117) (p0:Int) (p1:Int) (p2:LB) (p3:LB) (k0:(Bool)→Option R') (k:R'→Option R):T183 B c185 c117 p0 p1 p2 p3 (fun y=>ob (k0 y) k)=ob (T183 B c185 c117 p0 p1 p2 p3 k0) k:=by
 unfold T183
 repeat' first | exact rfl | apply qaf | (apply qao;intro)
def F183 (c185:C185) (c117:C117) (p0:Int) (p1:Int) (p2:LB) (p3:LB):Option (Bool):=T183 Ops.std c185 c117 p0 p1 p2 p3 some
def e183 {R:Type} (c:Int→Int→LB→LB→Option (Bool)):Ent R:=fun args objs k=>
 oCons args fun a0 l0=>oAgg a0 fun x0=>cCons x0 fun z0_0 w0_0=>cInt .i64 z0_0 fun p0=>cCons w0_0 fun z0_1 w0_1=>cInt .i64 z0_1 fun p1=>cCons w0_1 fun z0_2 w0_2=>cStr z0_2 fun p2=>cCons w0_2 fun z0_3 w0_3=>cStr z0_3 fun p3=>cNil w0_3 <| oE l0 objs <| ob (c p0 p1 p2 p3) (K2 k)
abbrev Sp183 (c:Int→Int→LB→LB→Option (Bool)):Prop:=∀ (p0:Int) (p1:Int) (p2:LB) (p3:LB) (y:Bool),c p0 p1 p2 p3=some y→Spec Tryz.prog gl0 183 [.agg [.int .i64 p0,.int .i64 p1,.str p2,.str p3]] [] (.c (.bool y)) []
theorem ek183 {R:Type} {c:Int→Int→LB→LB→Option (Bool)} (hs:Sp183 c):EOk 183 (e183 (R:=R) c):=fun args objs k r h=>by
 unfold e183 at h
 obtain ⟨a0,l0,rfl,q1⟩:=qai h
 obtain ⟨x0,rfl,q2⟩:=qas q1
 obtain ⟨z0_0,w0_0,rfl,q3⟩:=qaa q2
 obtain ⟨p0,rfl,q4⟩:=qar q3
 obtain ⟨z0_1,w0_1,rfl,q5⟩:=qaa q4
 obtain ⟨p1,rfl,q6⟩:=qar q5
 obtain ⟨z0_2,w0_2,rfl,q7⟩:=qaa q6
 obtain ⟨p2,rfl,q8⟩:=qa7 q7
 obtain ⟨z0_3,w0_3,rfl,q9⟩:=qaa q8
 obtain ⟨p3,rfl,q10⟩:=qa7 q9
 obtain ⟨rfl,q11⟩:=qam q10
 obtain ⟨rfl,rfl,q13⟩:=qan q11
 exact qap (hs p0 p1 p2 p3) q13
theorem sf183 {c185:C185} {c117:C117} (h185:Sp185 c185) (h117:Sp117 c117):Sp183 (F183 c185 c117):=fun p0 p1 p2 p3 y hy=>by
 refine qak (qae (ek185 h185) (qae (ek117 h117) qaj)) 1000000 (fn:=Tryz.f183) (by kernel_rfl) (by kernel_rfl) (X:=X183) (by kernel_rfl) ?_
 rw [eq183]
 exact (nt183 Ops.std c185 c117 p0 p1 p2 p3 some (K2 k0)).trans (by show ob (F183 c185 c117 p0 p1 p2 p3) _=_;rw [hy];rfl)
noncomputable def M183:Int→Int→LB→LB→Option (Bool):=F183 M185 M117
theorem sm183:Sp183 M183:=sf183 sm185 sm117
def X156:Aux:=⟨[(3,([1,2,4,5,6]++rg 10 26))],[]⟩
inductive S156 where
 | l0 (v1:Int) (v3:Int) (v4:Int)
abbrev C183:Type:=Int→Int→LB→LB→Option (Bool)
def T156 {R:Type} (B:Ops) (c117:C117) (c183:C183) (p0:L150) (again:S156→Option R) (k:(Bool)→Option R):Option S156→Option R | none=>again (.l0 0 (↑p0.length) 0) | some (.l0 v1 v3 v4)=>cond (B.lt v4 v3) (cond (B.inb v4 p0.length) (ob (c117 ((p0.getD v4.toNat ty150.dflt).1)) fun y0=>ob (c183 ((p0.getD v4.toNat ty150.dflt).1) (((p0.getD v4.toNat ty150.dflt).2).1) ((((p0.getD v4.toNat ty150.dflt).2).2).1) ((((p0.getD v4.toNat ty150.dflt).2).2).2)) fun y1=>cond (!y1) (k false) (cond (B.lt v1 y0) (k false) (again (.l0 (IntKind.wrap .i64 (v1+IntKind.wrap .i64 (1-y0))) v3 (IntKind.wrap .i64 (v4+1)))))) none) (cond (B.eq v1 (1)) (k (B.le (↑p0.length) (30))) (k false))
def E156 (p0:L150):S156→List AV×Objs
 | .l0 v1 v3 v4=>(mk 36 [(0,.c (.list 150 ty150 p0)),(3,.c (.int .i64 v1)),(7,.c (.list 150 ty150 p0)),(8,.c (.int .i64 v3)),(9,.c (.int .i64 v4))],[])
def I156:S156→Nat
 | .l0 _ _ _=>0
theorem eq156 {R:Type} (B:Ops) (c117:C117) (c183:C183) (p0:L150) (k:AV→Objs→Option R) (n:Nat):afun tau B gl0 X156 (ent 117 (e117 c117) (ent 183 (e183 c183) gnil)) ow Tryz.f156 [.c (.list 150 ty150 p0)] [] k n=T156 B c117 c183 p0 (fun s=>aloop tau B gl0 X156 (ent 117 (e117 c117) (ent 183 (e183 c183) gnil)) ow [] Tryz.f156 k (I156 s) (E156 p0 s) n) (K2 k) none:=by kernel_rfl
theorem el156 {R:Type} (B:Ops) (c117:C117) (c183:C183) (p0:L150) (k:AV→Objs→Option R) (n:Nat):∀ s,aloop tau B gl0 X156 (ent 117 (e117 c117) (ent 183 (e183 c183) gnil)) ow [] Tryz.f156 k (I156 s) (E156 p0 s) (n+1)=T156 B c117 c183 p0 (fun s=>aloop tau B gl0 X156 (ent 117 (e117 c117) (ent 183 (e183 c183) gnil)) ow [] Tryz.f156 k (I156 s) (E156 p0 s) n) (K2 k) (some s):=by
 intro s
 cases s<;>kernel_rfl
theorem nt156 {R R':Type} (B:Ops) (c117:C117) (c183:C183) (p0:L150) (again:S156→Option R) (again':S156→Option R') (k0:(Bool)→Option R') (k:R'→Option R) (h:∀ s,again s=ob (again' s) k):∀ s,T156 B c117 c183 p0 again (fun y=>ob (k0 y) k) s=ob (T156 B c117 c183 p0 again' k0 s) k:=by
 rintro (_ | x)
 all_goals try cases x
 all_goals (unfold T156;repeat' first | exact rfl | exact h _ | apply qaf | (apply qao;intro))
def R156 (c117:C117) (c183:C183) (p0:L150):Nat→S156→Option (Bool)
 | 0,_=>none
 | n+1,s=>T156 Ops.std c117 c183 p0 (R156 c117 c183 p0 n) some (some s)
theorem rr156 {R:Type} (c117:C117) (c183:C183) (p0:L150) (k:AV→Objs→Option R):∀ (n:Nat) (s:S156),aloop tau Ops.std gl0 X156 (ent 117 (e117 c117) (ent 183 (e183 c183) gnil)) ow [] Tryz.f156 k (I156 s) (E156 p0 s) n=ob (R156 c117 c183 p0 n s) (K2 k)
 | 0,s=>by cases s<;>rfl
 | n+1,s=>by rw [el156];exact nt156 Ops.std c117 c183 p0 _ _ some (K2 k) (rr156 c117 c183 p0 k n) (some s)
def F156 (c117:C117) (c183:C183) (p0:L150):Option (Bool):=T156 Ops.std c117 c183 p0 (R156 c117 c183 p0 1000000) some none
def e156 {R:Type} (c:L150→Option (Bool)):Ent R:=fun args objs k=>
 oL args 150 ty150 fun p0 l0=>oE l0 objs <| ob (c p0) (K2 k)
abbrev Sp156 (c:L150→Option (Bool)):Prop:=∀ (p0:L150) (y:Bool),c p0=some y→Spec Tryz.prog gl0 156 [.c (.list 150 ty150 p0)] [] (.c (.bool y)) []
theorem ek156 {R:Type} {c:L150→Option (Bool)} (hs:Sp156 c):EOk 156 (e156 (R:=R) c):=fun args objs k r h=>by
 unfold e156 at h
 obtain ⟨p0,l0,rfl,q3⟩:=qaw h
 obtain ⟨rfl,rfl,q5⟩:=qan q3
 exact qap (hs p0) q5
theorem sf156 {c117:C117} {c183:C183} (h117:Sp117 c117) (h183:Sp183 c183):Sp156 (F156 c117 c183):=fun p0 y hy=>by
 refine qak (qae (ek117 h117) (qae (ek183 h183) qaj)) 1000000 (fn:=Tryz.f156) (by kernel_rfl) (by kernel_rfl) (X:=X156) (by kernel_rfl) ?_
 rw [eq156]
 exact (nt156 Ops.std c117 c183 p0 _ _ some (K2 k0) (rr156 c117 c183 p0 k0 1000000) none).trans (by show ob (F156 c117 c183 p0) _=_;rw [hy];rfl)
noncomputable def M156:L150→Option (Bool):=F156 M117 M183
theorem sm156:Sp156 M156:=sf156 sm117 sm183
def X95:Aux:=⟨[(3,([1,2,4,5,6]++rg 10 47))],[]⟩
inductive S95 where
 | l0 (v1:Int) (v3:Int) (v4:Int)
abbrev C96:Type:=Int→Option (Int)
abbrev C156:Type:=L150→Option (Bool)
def T95 {R:Type} (B:Ops) (c96:C96) (c156:C156) (p0:L66) (again:S95→Option R) (k:(Bool)→Option R):Option S95→Option R | none=>again (.l0 0 (↑p0.length) 0) | some (.l0 v1 v3 v4)=>cond (B.lt v4 v3) (cond (B.inb v4 p0.length) (ob (c96 ((p0.getD v4.toNat ty66.dflt).1)) fun y0=>cond (B.lt y0 (0)) (k false) (cond (B.lt v1 y0) (k false) (cond (B.eq ((p0.getD v4.toNat ty66.dflt).1) (3)) (ob (c156 ((p0.getD v4.toNat ty66.dflt).2)) fun y1=>cond (!y1) (k false) (cond (!B.eq ((p0.getD v4.toNat ty66.dflt).1) (3)) (cond (B.lt (0) (Nat.cast (List.length ((p0.getD v4.toNat ty66.dflt).2)))) (k false) (again (.l0 (IntKind.wrap .i64 (v1+IntKind.wrap .i64 (1-y0))) v3 (IntKind.wrap .i64 (v4+1))))) (again (.l0 (IntKind.wrap .i64 (v1+IntKind.wrap .i64 (1-y0))) v3 (IntKind.wrap .i64 (v4+1)))))) (cond (!B.eq ((p0.getD v4.toNat ty66.dflt).1) (3)) (cond (B.lt (0) (Nat.cast (List.length ((p0.getD v4.toNat ty66.dflt).2)))) (k false) (again (.l0 (IntKind.wrap .i64 (v1+IntKind.wrap .i64 (1-y0))) v3 (IntKind.wrap .i64 (v4+1))))) (again (.l0 (IntKind.wrap .i64 (v1+IntKind.wrap .i64 (1-y0))) v3 (IntKind.wrap .i64 (v4+1)))))))) none) (cond (B.eq v1 (1)) (k (B.le (↑p0.length) (60))) (k false))
def E95 (p0:L66):S95→List AV×Objs
 | .l0 v1 v3 v4=>(mk 57 [(0,.c (.list 66 ty66 p0)),(3,.c (.int .i64 v1)),(7,.c (.list 66 ty66 p0)),(8,.c (.int .i64 v3)),(9,.c (.int .i64 v4))],[])
def I95:S95→Nat
 | .l0 _ _ _=>0
theorem eq95 {R:Type} (B:Ops) (c96:C96) (c156:C156) (p0:L66) (k:AV→Objs→Option R) (n:Nat):afun tau B gl0 X95 (ent 96 (e96 c96) (ent 156 (e156 c156) gnil)) ow Tryz.f95 [.c (.list 66 ty66 p0)] [] k n=T95 B c96 c156 p0 (fun s=>aloop tau B gl0 X95 (ent 96 (e96 c96) (ent 156 (e156 c156) gnil)) ow [] Tryz.f95 k (I95 s) (E95 p0 s) n) (K2 k) none:=by kernel_rfl
theorem el95 {R:Type} (B:Ops) (c96:C96) (c156:C156) (p0:L66) (k:AV→Objs→Option R) (n:Nat):∀ s,aloop tau B gl0 X95 (ent 96 (e96 c96) (ent 156 (e156 c156) gnil)) ow [] Tryz.f95 k (I95 s) (E95 p0 s) (n+1)=T95 B c96 c156 p0 (fun s=>aloop tau B gl0 X95 (ent 96 (e96 c96) (ent 156 (e156 c156) gnil)) ow [] Tryz.f95 k (I95 s) (E95 p0 s) n) (K2 k) (some s):=by
 intro s
 cases s<;>kernel_rfl
theorem nt95 {R R':Type} (B:Ops) (c96:C96) (c156:C156) (p0:L66) (again:S95→Option R) (again':S95→Option R') (k0:(Bool)→Option R') (k:R'→Option R) (h:∀ s,again s=ob (again' s) k):∀ s,T95 B c96 c156 p0 again (fun y=>ob (k0 y) k) s=ob (T95 B c96 c156 p0 again' k0 s) k:=by
 rintro (_ | x)
 all_goals try cases x
 all_goals (unfold T95;repeat' first | exact rfl | exact h _ | apply qaf | (apply qao;intro))
def R95 (c96:C96) (c156:C156) (p0:L66):Nat→S95→Option (Bool)
 | 0,_=>none
 | n+1,s=>T95 Ops.std c96 c156 p0 (R95 c96 c156 p0 n) some (some s)
theorem rr95 {R:Type} (c96:C96) (c156:C156) (p0:L66) (k:AV→Objs→Option R):∀ (n:Nat) (s:S95),aloop tau Ops.std gl0 X95 (ent 96 (e96 c96) (ent 156 (e156 c156) gnil)) ow [] Tryz.f95 k (I95 s) (E95 p0 s) n=ob (R95 c96 c156 p0 n s) (K2 k)
 | 0,s=>by cases s<;>rfl
 | n+1,s=>by rw [el95];exact nt95 Ops.std c96 c156 p0 _ _ some (K2 k) (rr95 c96 c156 p0 k n) (some s)
def F95 (c96:C96) (c156:C156) (p0:L66):Option (Bool):=T95 Ops.std c96 c156 p0 (R95 c96 c156 p0 1000000) some none
def e95 {R:Type} (c:L66→Option (Bool)):Ent R:=fun args objs k=>
 oL args 66 ty66 fun p0 l0=>oE l0 objs <| ob (c p0) (K2 k)
abbrev Sp95 (c:L66→Option (Bool)):Prop:=∀ (p0:L66) (y:Bool),c p0=some y→Spec Tryz.prog gl0 95 [.c (.list 66 ty66 p0)] [] (.c (.bool y)) []
theorem ek95 {R:Type} {c:L66→Option (Bool)} (hs:Sp95 c):EOk 95 (e95 (R:=R) c):=fun args objs k r h=>by
 unfold e95 at h
 obtain ⟨p0,l0,rfl,q3⟩:=qaw h
 obtain ⟨rfl,rfl,q5⟩:=qan q3
 exact qap (hs p0) q5
theorem sf95 {c96:C96} {c156:C156} (h96:Sp96 c96) (h156:Sp156 c156):Sp95 (F95 c96 c156):=fun p0 y hy=>by
 refine qak (qae (ek96 h96) (qae (ek156 h156) qaj)) 1000000 (fn:=Tryz.f95) (by kernel_rfl) (by kernel_rfl) (X:=X95) (by kernel_rfl) ?_
 rw [eq95]
 exact (nt95 Ops.std c96 c156 p0 _ _ some (K2 k0) (rr95 c96 c156 p0 k0 1000000) none).trans (by show ob (F95 c96 c156 p0) _=_;rw [hy];rfl)
noncomputable def M95:L66→Option (Bool):=F95 M96 M156
theorem sm95:Sp95 M95:=sf95 sm96 sm156
abbrev K4 {R:Type} (k:AV→Objs→Option R) (y:(L3)):Option R:=k (.c (.own 500)) [(500,.row 3 ty3 y)]
def e97 {R:Type} (c:L3→Option (L3)):Ent R:=fun args objs k=>
 oL args 3 ty3 fun p0 l0=>oE l0 objs <| ob (c p0) (K4 k)
abbrev Sp97 (c:L3→Option (L3)):Prop:=∀ (p0:L3) (y:L3),c p0=some y→Spec Tryz.prog gl0 97 [.c (.list 3 ty3 p0)] [] (.c (.own 500)) [(500,.row 3 ty3 y)]
theorem ek97 {R:Type} {c:L3→Option (L3)} (hs:Sp97 c):EOk 97 (e97 (R:=R) c):=fun args objs k r h=>by
 unfold e97 at h
 obtain ⟨p0,l0,rfl,q3⟩:=qaw h
 obtain ⟨rfl,rfl,q5⟩:=qan q3
 exact qap (hs p0) q5
def M97:L3→Option (L3):=cloneF (t:=ty3) 8
theorem sm97:Sp97 M97:=by
 have h:∀ (B:Ops) (xs:List (Ty.den ty3)) (k:AV→Objs→Option AO),afun tau B gl0 X0 gnil ow Tryz.f97 [.c (.list 3 ty3 xs)] [] k 1=cloneT B 3 8 ty3 xs k:=fun B xs k=>by kernel_rfl
 refine clone_sp (fun xs v o h0=>?_) fun b=>?_
 ·exact qak (G:=gnil) qaj 1 (fn:=Tryz.f97) (by kernel_rfl) (by kernel_rfl) (X:=X0) (by kernel_rfl) ((h _ _ _).trans h0)
 ·cases b<;>exact qak (G:=gnil) qaj 1 (fn:=Tryz.f97) (by kernel_rfl) (by kernel_rfl) (X:=X0) (by kernel_rfl) (by kernel_rfl)
def X52:Aux:=⟨[(6,([0,1,2,5,6,7,8,9,10]++rg 14 25))],[]⟩
inductive S52 where
 | l0 (v1:Int) (v2:Int) (v3:L22) (v4:L3)
abbrev C95:Type:=L66→Option (Bool)
abbrev C97:Type:=L3→Option (L3)
def T52 {R:Type} (B:Ops) (c95:C95) (c96:C96) (c97:C97) (p0:L66) (again:S52→Option R) (k:(L22)→Option R):Option S52→Option R | none=>ob (c95 p0) fun y0=>cond (!y0) (k (mt (Ty.den ty22))) (again (.l0 (↑p0.length) 0 (mt (Ty.den ty22)) (mt (Ty.den (Ty.int .i64))))) | some (.l0 v1 v2 v3 v4)=>cond (B.lt v2 v1) (cond (B.inb v2 p0.length) (ob (c96 ((p0.getD v2.toNat ty66.dflt).1)) fun y0=>cond (B.inb (IntKind.wrap .i64 (Nat.cast v4.length-y0)) (List.length v4+1)) (ob (c97 (List.drop (Int.toNat (IntKind.wrap .i64 (Nat.cast v4.length-y0))) (List.take v4.length v4))) fun y1=>cond (B.lim (List.length v3+List.length (y1::mt (Ty.den ty22))) (24)) (cond (B.inb (IntKind.wrap .i64 (Nat.cast v4.length-y0)) (List.length v4+1)) (cond (B.lim (List.length (List.take (Int.toNat (IntKind.wrap .i64 (Nat.cast v4.length-y0))) v4)+List.length (v2::mt (Ty.den (Ty.int .i64)))) (8)) (again (.l0 v1 (IntKind.wrap .i64 (v2+1)) (v3++y1::mt (Ty.den ty22)) (List.take (Int.toNat (IntKind.wrap .i64 (Nat.cast v4.length-y0))) v4++v2::mt (Ty.den (Ty.int .i64))))) none) none) none) none) none) (k v3)
def E52 (p0:L66):S52→List AV×Objs
 | .l0 v1 v2 v3 v4=>(mk 39 [(3,.c (.own 3)),(4,.c (.own 4)),(11,.c (.list 66 ty66 p0)),(12,.c (.int .i64 v1)),(13,.c (.int .i64 v2))],[(3,.row 22 ty22 v3),(4,.row 3 ty3 v4)])
def I52:S52→Nat
 | .l0 _ _ _ _=>0
abbrev K5 {R:Type} (k:AV→Objs→Option R) (y:(L22)):Option R:=k (.c (.own 500)) [(500,.row 22 ty22 y)]
theorem eq52 {R:Type} (B:Ops) (c95:C95) (c96:C96) (c97:C97) (p0:L66) (k:AV→Objs→Option R) (n:Nat):afun tau B gl0 X52 (ent 95 (e95 c95) (ent 96 (e96 c96) (ent 97 (e97 c97) gnil))) ow Tryz.f52 [.c (.list 66 ty66 p0)] [] k n=T52 B c95 c96 c97 p0 (fun s=>aloop tau B gl0 X52 (ent 95 (e95 c95) (ent 96 (e96 c96) (ent 97 (e97 c97) gnil))) ow [] Tryz.f52 k (I52 s) (E52 p0 s) n) (K5 k) none:=by kernel_rfl
theorem el52 {R:Type} (B:Ops) (c95:C95) (c96:C96) (c97:C97) (p0:L66) (k:AV→Objs→Option R) (n:Nat):∀ s,aloop tau B gl0 X52 (ent 95 (e95 c95) (ent 96 (e96 c96) (ent 97 (e97 c97) gnil))) ow [] Tryz.f52 k (I52 s) (E52 p0 s) (n+1)=T52 B c95 c96 c97 p0 (fun s=>aloop tau B gl0 X52 (ent 95 (e95 c95) (ent 96 (e96 c96) (ent 97 (e97 c97) gnil))) ow [] Tryz.f52 k (I52 s) (E52 p0 s) n) (K5 k) (some s):=by
 intro s
 cases s<;>kernel_rfl
theorem nt52 {R R':Type} (B:Ops) (c95:C95) (c96:C96) (c97:C97) (p0:L66) (again:S52→Option R) (again':S52→Option R') (k0:(L22)→Option R') (k:R'→Option R) (h:∀ s,again s=ob (again' s) k):∀ s,T52 B c95 c96 c97 p0 again (fun y=>ob (k0 y) k) s=ob (T52 B c95 c96 c97 p0 again' k0 s) k:=by
 rintro (_ | x)
 all_goals try cases x
 all_goals (unfold T52;repeat' first | exact rfl | exact h _ | apply qaf | (apply qao;intro))
def R52 (c95:C95) (c96:C96) (c97:C97) (p0:L66):Nat→S52→Option (L22)
 | 0,_=>none
 | n+1,s=>T52 Ops.std c95 c96 c97 p0 (R52 c95 c96 c97 p0 n) some (some s)
theorem rr52 {R:Type} (c95:C95) (c96:C96) (c97:C97) (p0:L66) (k:AV→Objs→Option R):∀ (n:Nat) (s:S52),aloop tau Ops.std gl0 X52 (ent 95 (e95 c95) (ent 96 (e96 c96) (ent 97 (e97 c97) gnil))) ow [] Tryz.f52 k (I52 s) (E52 p0 s) n=ob (R52 c95 c96 c97 p0 n s) (K5 k)
 | 0,s=>by cases s<;>rfl
 | n+1,s=>by rw [el52];exact nt52 Ops.std c95 c96 c97 p0 _ _ some (K5 k) (rr52 c95 c96 c97 p0 k n) (some s)
def F52 (c95:C95) (c96:C96) (c97:C97) (p0:L66):Option (L22):=T52 Ops.std c95 c96 c97 p0 (R52 c95 c96 c97 p0 1000000) some none
def e52 {R:Type} (c:L66→Option (L22)):Ent R:=fun args objs k=>
 oL args 66 ty66 fun p0 l0=>oE l0 objs <| ob (c p0) (K5 k)
abbrev Sp52 (c:L66→Option (L22)):Prop:=∀ (p0:L66) (y:L22),c p0=some y→Spec Tryz.prog gl0 52 [.c (.list 66 ty66 p0)] [] (.c (.own 500)) [(500,.row 22 ty22 y)]
theorem ek52 {R:Type} {c:L66→Option (L22)} (hs:Sp52 c):EOk 52 (e52 (R:=R) c):=fun args objs k r h=>by
 unfold e52 at h
 obtain ⟨p0,l0,rfl,q3⟩:=qaw h
 obtain ⟨rfl,rfl,q5⟩:=qan q3
 exact qap (hs p0) q5
theorem sf52 {c95:C95} {c96:C96} {c97:C97} (h95:Sp95 c95) (h96:Sp96 c96) (h97:Sp97 c97):Sp52 (F52 c95 c96 c97):=fun p0 y hy=>by
 refine qak (qae (ek95 h95) (qae (ek96 h96) (qae (ek97 h97) qaj))) 1000000 (fn:=Tryz.f52) (by kernel_rfl) (by kernel_rfl) (X:=X52) (by kernel_rfl) ?_
 rw [eq52]
 exact (nt52 Ops.std c95 c96 c97 p0 _ _ some (K5 k0) (rr52 c95 c96 c97 p0 k0 1000000) none).trans (by show ob (F52 c95 c96 c97 p0) _=_;rw [hy];rfl)
noncomputable def M52:L66→Option (L22):=F52 M95 M96 M97
theorem sm52:Sp52 M52:=sf52 sm95 sm96 sm97
def X51:Aux:=⟨[(3,([1,2,4,5,6,7]++rg 11 32))],[]⟩
inductive S51 where
 | l0 (v2:Int) (v3:Int) (v4:L22)
abbrev C52:Type:=L66→Option (L22)
def T51 {R:Type} (B:Ops) (c52:C52) (p0:L66) (again:S51→Option R) (k:(Bool)→Option R):Option S51→Option R | none=>ob (c52 p0) fun y0=>again (.l0 (↑p0.length) 0 y0) | some (.l0 v2 v3 v4)=>cond (B.lt v3 v2) (cond (B.inb v3 p0.length) (cond (B.eq ((p0.getD v3.toNat ty66.dflt).1) (7)) (k false) (cond (B.eq ((p0.getD v3.toNat ty66.dflt).1) (11)) (k false) (cond (B.eq ((p0.getD v3.toNat ty66.dflt).1) (12)) (k false) (cond (B.eq ((p0.getD v3.toNat ty66.dflt).1) (4)) (cond (B.eq (↑v4.length) (0)) (k false) (cond (B.inb v3 v4.length) (cond (B.inb (0) (List.length (v4.getD v3.toNat ty22.dflt))) (cond (B.inb (List.getD (v4.getD v3.toNat ty22.dflt) (Int.toNat (0)) (Ty.dflt (Ty.int .i64))) p0.length) (cond (!B.eq ((p0.getD (Int.toNat (List.getD (v4.getD v3.toNat ty22.dflt) (Int.toNat (0)) (Ty.dflt (Ty.int .i64)))) ty66.dflt).1) (3)) (k false) (again (.l0 v2 (IntKind.wrap .i64 (v3+1)) v4))) none) none) none)) (again (.l0 v2 (IntKind.wrap .i64 (v3+1)) v4)))))) none) (k (B.lt (0) (↑v4.length)))
def E51 (p0:L66):S51→List AV×Objs
 | .l0 v2 v3 v4=>(mk 43 [(0,.c (.list 66 ty66 p0)),(3,.c (.own 3)),(8,.c (.list 66 ty66 p0)),(9,.c (.int .i64 v2)),(10,.c (.int .i64 v3))],[(3,.row 22 ty22 v4)])
def I51:S51→Nat
 | .l0 _ _ _=>0
theorem eq51 {R:Type} (B:Ops) (c52:C52) (p0:L66) (k:AV→Objs→Option R) (n:Nat):afun tau B gl0 X51 (ent 52 (e52 c52) gnil) ow Tryz.f51 [.c (.list 66 ty66 p0)] [] k n=T51 B c52 p0 (fun s=>aloop tau B gl0 X51 (ent 52 (e52 c52) gnil) ow [] Tryz.f51 k (I51 s) (E51 p0 s) n) (K2 k) none:=by kernel_rfl
theorem el51 {R:Type} (B:Ops) (c52:C52) (p0:L66) (k:AV→Objs→Option R) (n:Nat):∀ s,aloop tau B gl0 X51 (ent 52 (e52 c52) gnil) ow [] Tryz.f51 k (I51 s) (E51 p0 s) (n+1)=T51 B c52 p0 (fun s=>aloop tau B gl0 X51 (ent 52 (e52 c52) gnil) ow [] Tryz.f51 k (I51 s) (E51 p0 s) n) (K2 k) (some s):=by
 intro s
 cases s<;>kernel_rfl
theorem nt51 {R R':Type} (B:Ops) (c52:C52) (p0:L66) (again:S51→Option R) (again':S51→Option R') (k0:(Bool)→Option R') (k:R'→Option R) (h:∀ s,again s=ob (again' s) k):∀ s,T51 B c52 p0 again (fun y=>ob (k0 y) k) s=ob (T51 B c52 p0 again' k0 s) k:=by
 rintro (_ | x)
 all_goals try cases x
 all_goals (unfold T51;repeat' first | exact rfl | exact h _ | apply qaf | (apply qao;intro))
def R51 (c52:C52) (p0:L66):Nat→S51→Option (Bool)
 | 0,_=>none
 | n+1,s=>T51 Ops.std c52 p0 (R51 c52 p0 n) some (some s)
theorem rr51 {R:Type} (c52:C52) (p0:L66) (k:AV→Objs→Option R):∀ (n:Nat) (s:S51),aloop tau Ops.std gl0 X51 (ent 52 (e52 c52) gnil) ow [] Tryz.f51 k (I51 s) (E51 p0 s) n=ob (R51 c52 p0 n s) (K2 k)
 | 0,s=>by cases s<;>rfl
 | n+1,s=>by rw [el51];exact nt51 Ops.std c52 p0 _ _ some (K2 k) (rr51 c52 p0 k n) (some s)
def F51 (c52:C52) (p0:L66):Option (Bool):=T51 Ops.std c52 p0 (R51 c52 p0 1000000) some none
def e51 {R:Type} (c:L66→Option (Bool)):Ent R:=fun args objs k=>
 oL args 66 ty66 fun p0 l0=>oE l0 objs <| ob (c p0) (K2 k)
abbrev Sp51 (c:L66→Option (Bool)):Prop:=∀ (p0:L66) (y:Bool),c p0=some y→Spec Tryz.prog gl0 51 [.c (.list 66 ty66 p0)] [] (.c (.bool y)) []
theorem ek51 {R:Type} {c:L66→Option (Bool)} (hs:Sp51 c):EOk 51 (e51 (R:=R) c):=fun args objs k r h=>by
 unfold e51 at h
 obtain ⟨p0,l0,rfl,q3⟩:=qaw h
 obtain ⟨rfl,rfl,q5⟩:=qan q3
 exact qap (hs p0) q5
theorem sf51 {c52:C52} (h52:Sp52 c52):Sp51 (F51 c52):=fun p0 y hy=>by
 refine qak (qae (ek52 h52) qaj) 1000000 (fn:=Tryz.f51) (by kernel_rfl) (by kernel_rfl) (X:=X51) (by kernel_rfl) ?_
 rw [eq51]
 exact (nt51 Ops.std c52 p0 _ _ some (K2 k0) (rr51 c52 p0 k0 1000000) none).trans (by show ob (F51 c52 p0) _=_;rw [hy];rfl)
noncomputable def M51:L66→Option (Bool):=F51 M52
theorem sm51:Sp51 M51:=sf51 sm52
def X164:Aux:=⟨[],[]⟩
def T164 {R:Type} (B:Ops) (p0:LB) (p1:Int) (p2:Int) (p3:Int) (p4:LB) (k:(Bool×LB)→Option R):Option R:=k ((p0 == p4,p4))
abbrev K6 {R:Type} (k:AV→Objs→Option R) (y:(Bool×LB)):Option R:=k (.c (.bool y.1)) [(1,.box 9 [.str y.2])]
theorem eq164 {R:Type} (B:Ops) (p0:LB) (p1:Int) (p2:Int) (p3:Int) (p4:LB) (k:AV→Objs→Option R) (n:Nat):afun tau B gl0 X164 gnil ow Tryz.f164 [.agg [.str p0,.int .i64 p1,.int .i64 p2,.int .i64 p3],.c (.ptr 1 0)] [(1,.box 9 [.str p4])] k n=T164 B p0 p1 p2 p3 p4 (K6 k):=by kernel_rfl
theorem nt164 {R R':Type} (B:Ops) (p0:LB) (p1:Int) (p2:Int) (p3:Int) (p4:LB) (k0:(Bool×LB)→Option R') (k:R'→Option R):T164 B p0 p1 p2 p3 p4 (fun y=>ob (k0 y) k)=ob (T164 B p0 p1 p2 p3 p4 k0) k:=by
 unfold T164
 repeat' first | exact rfl | apply qaf | (apply qao;intro)
def F164 (p0:LB) (p1:Int) (p2:Int) (p3:Int) (p4:LB):Option (Bool×LB):=T164 Ops.std p0 p1 p2 p3 p4 some
def e164 {R:Type} (c:LB→Int→Int→Int→LB→Option (Bool×LB)):Ent R:=fun args objs k=>
 oCons args fun a0 l0=>oAgg a0 fun x0=>cCons x0 fun z0_0 w0_0=>cStr z0_0 fun p0=>cCons w0_0 fun z0_1 w0_1=>cInt .i64 z0_1 fun p1=>cCons w0_1 fun z0_2 w0_2=>cInt .i64 z0_2 fun p2=>cCons w0_2 fun z0_3 w0_3=>cInt .i64 z0_3 fun p3=>cNil w0_3 <| oCons l0 fun a1 l1=>oC a1 fun x1=>cPtr 1 x1 <| oNil l1 <| oBox 1 9 objs fun b0 o0=>cCons b0 fun u0_0 v0=>cStr u0_0 fun p4=>cNil v0 <| oNilO o0 <| ob (c p0 p1 p2 p3 p4) (K6 k)
abbrev Sp164 (c:LB→Int→Int→Int→LB→Option (Bool×LB)):Prop:=∀ (p0:LB) (p1:Int) (p2:Int) (p3:Int) (p4:LB) (y:Bool×LB),c p0 p1 p2 p3 p4=some y→Spec Tryz.prog gl0 164 [.agg [.str p0,.int .i64 p1,.int .i64 p2,.int .i64 p3],.c (.ptr 1 0)] [(1,.box 9 [.str p4])] (.c (.bool y.1)) [(1,.box 9 [.str y.2])]
theorem ek164 {R:Type} {c:LB→Int→Int→Int→LB→Option (Bool×LB)} (hs:Sp164 c):EOk 164 (e164 (R:=R) c):=fun args objs k r h=>by
 unfold e164 at h
 obtain ⟨a0,l0,rfl,q1⟩:=qai h
 obtain ⟨x0,rfl,q2⟩:=qas q1
 obtain ⟨z0_0,w0_0,rfl,q3⟩:=qaa q2
 obtain ⟨p0,rfl,q4⟩:=qa7 q3
 obtain ⟨z0_1,w0_1,rfl,q5⟩:=qaa q4
 obtain ⟨p1,rfl,q6⟩:=qar q5
 obtain ⟨z0_2,w0_2,rfl,q7⟩:=qaa q6
 obtain ⟨p2,rfl,q8⟩:=qar q7
 obtain ⟨z0_3,w0_3,rfl,q9⟩:=qaa q8
 obtain ⟨p3,rfl,q10⟩:=qar q9
 obtain ⟨rfl,q11⟩:=qam q10
 obtain ⟨a1,l1,rfl,q12⟩:=qai q11
 obtain ⟨x1,rfl,q13⟩:=qa6 q12
 obtain ⟨rfl,q14⟩:=qa1 q13
 obtain ⟨rfl,q15⟩:=qay q14
 obtain ⟨b0,o0,rfl,q16⟩:=qa2 q15
 obtain ⟨u0_0,v0,rfl,q17⟩:=qaa q16
 obtain ⟨p4,rfl,q18⟩:=qa7 q17
 obtain ⟨rfl,q19⟩:=qam q18
 obtain ⟨rfl,q20⟩:=qax q19
 exact qap (hs p0 p1 p2 p3 p4) q20
theorem sf164:Sp164 (F164):=fun p0 p1 p2 p3 p4 y hy=>by
 refine qak qaj 1000000 (fn:=Tryz.f164) (by kernel_rfl) (by kernel_rfl) (X:=X164) (by kernel_rfl) ?_
 rw [eq164]
 exact (nt164 Ops.std p0 p1 p2 p3 p4 some (K6 k0)).trans (by show ob (F164 p0 p1 p2 p3 p4) _=_;rw [hy];rfl)
noncomputable def M164:LB→Int→Int→Int→LB→Option (Bool×LB):=F164
theorem sm164:Sp164 M164:=sf164
def X166:Aux:=⟨[],[]⟩
def T166 {R:Type} (B:Ops) (p0:LB) (p1:L9) (p2:LB) (k:(Bool×LB)→Option R):Option R:=k ((p0 == p2,p2))
theorem eq166 {R:Type} (B:Ops) (p0:LB) (p1:L9) (p2:LB) (k:AV→Objs→Option R) (n:Nat):afun tau B gl0 X166 gnil ow Tryz.f166 [.agg [.str p0,.list 9 ty9 p1],.c (.ptr 1 0)] [(1,.box 9 [.str p2])] k n=T166 B p0 p1 p2 (K6 k):=by kernel_rfl
theorem nt166 {R R':Type} (B:Ops) (p0:LB) (p1:L9) (p2:LB) (k0:(Bool×LB)→Option R') (k:R'→Option R):T166 B p0 p1 p2 (fun y=>ob (k0 y) k)=ob (T166 B p0 p1 p2 k0) k:=by
 unfold T166
 repeat' first | exact rfl | apply qaf | (apply qao;intro)
def F166 (p0:LB) (p1:L9) (p2:LB):Option (Bool×LB):=T166 Ops.std p0 p1 p2 some
def e166 {R:Type} (c:LB→L9→LB→Option (Bool×LB)):Ent R:=fun args objs k=>
 oCons args fun a0 l0=>oAgg a0 fun x0=>cCons x0 fun z0_0 w0_0=>cStr z0_0 fun p0=>cCons w0_0 fun z0_1 w0_1=>cList 9 ty9 z0_1 fun p1=>cNil w0_1 <| oCons l0 fun a1 l1=>oC a1 fun x1=>cPtr 1 x1 <| oNil l1 <| oBox 1 9 objs fun b0 o0=>cCons b0 fun u0_0 v0=>cStr u0_0 fun p2=>cNil v0 <| oNilO o0 <| ob (c p0 p1 p2) (K6 k)
abbrev Sp166 (c:LB→L9→LB→Option (Bool×LB)):Prop:=∀ (p0:LB) (p1:L9) (p2:LB) (y:Bool×LB),c p0 p1 p2=some y→Spec Tryz.prog gl0 166 [.agg [.str p0,.list 9 ty9 p1],.c (.ptr 1 0)] [(1,.box 9 [.str p2])] (.c (.bool y.1)) [(1,.box 9 [.str y.2])]
theorem ek166 {R:Type} {c:LB→L9→LB→Option (Bool×LB)} (hs:Sp166 c):EOk 166 (e166 (R:=R) c):=fun args objs k r h=>by
 unfold e166 at h
 obtain ⟨a0,l0,rfl,q1⟩:=qai h
 obtain ⟨x0,rfl,q2⟩:=qas q1
 obtain ⟨z0_0,w0_0,rfl,q3⟩:=qaa q2
 obtain ⟨p0,rfl,q4⟩:=qa7 q3
 obtain ⟨z0_1,w0_1,rfl,q5⟩:=qaa q4
 obtain ⟨p1,rfl,q6⟩:=qac q5
 obtain ⟨rfl,q7⟩:=qam q6
 obtain ⟨a1,l1,rfl,q8⟩:=qai q7
 obtain ⟨x1,rfl,q9⟩:=qa6 q8
 obtain ⟨rfl,q10⟩:=qa1 q9
 obtain ⟨rfl,q11⟩:=qay q10
 obtain ⟨b0,o0,rfl,q12⟩:=qa2 q11
 obtain ⟨u0_0,v0,rfl,q13⟩:=qaa q12
 obtain ⟨p2,rfl,q14⟩:=qa7 q13
 obtain ⟨rfl,q15⟩:=qam q14
 obtain ⟨rfl,q16⟩:=qax q15
 exact qap (hs p0 p1 p2) q16
theorem sf166:Sp166 (F166):=fun p0 p1 p2 y hy=>by
 refine qak qaj 1000000 (fn:=Tryz.f166) (by kernel_rfl) (by kernel_rfl) (X:=X166) (by kernel_rfl) ?_
 rw [eq166]
 exact (nt166 Ops.std p0 p1 p2 some (K6 k0)).trans (by show ob (F166 p0 p1 p2) _=_;rw [hy];rfl)
noncomputable def M166:LB→L9→LB→Option (Bool×LB):=F166
theorem sm166:Sp166 M166:=sf166
def X167:Aux:=⟨[(2,([2,3,4,5,6]++rg 9 10))],[]⟩
inductive S167 where
 | l0 (v2:Int) (v3:Int)
def T167 {R:Type} (B:Ops) (p0:L9) (p1:LB) (again:S167→Option R) (k:(Int)→Option R):Option S167→Option R | none=>again (.l0 (↑p0.length) 0) | some (.l0 v2 v3)=>cond (B.lt v3 v2) (cond (B.inb v3 p0.length) (cond (p1 == p0.getD v3.toNat ty9.dflt) (k v3) (again (.l0 v2 (IntKind.wrap .i64 (v3+1))))) none) (k (-1))
def E167 (p0:L9) (p1:LB):S167→List AV×Objs
 | .l0 v2 v3=>(mk 19 [(0,.c (.list 9 ty9 p0)),(1,.c (.str p1)),(7,.c (.int .i64 v2)),(8,.c (.int .i64 v3))],[])
def I167:S167→Nat
 | .l0 _ _=>0
theorem eq167 {R:Type} (B:Ops) (p0:L9) (p1:LB) (k:AV→Objs→Option R) (n:Nat):afun tau B gl0 X167 gnil ow Tryz.f167 [.c (.list 9 ty9 p0),.c (.str p1)] [] k n=T167 B p0 p1 (fun s=>aloop tau B gl0 X167 gnil ow [] Tryz.f167 k (I167 s) (E167 p0 p1 s) n) (K1 k) none:=by kernel_rfl
theorem el167 {R:Type} (B:Ops) (p0:L9) (p1:LB) (k:AV→Objs→Option R) (n:Nat):∀ s,aloop tau B gl0 X167 gnil ow [] Tryz.f167 k (I167 s) (E167 p0 p1 s) (n+1)=T167 B p0 p1 (fun s=>aloop tau B gl0 X167 gnil ow [] Tryz.f167 k (I167 s) (E167 p0 p1 s) n) (K1 k) (some s):=by
 intro s
 cases s<;>kernel_rfl
theorem nt167 {R R':Type} (B:Ops) (p0:L9) (p1:LB) (again:S167→Option R) (again':S167→Option R') (k0:(Int)→Option R') (k:R'→Option R) (h:∀ s,again s=ob (again' s) k):∀ s,T167 B p0 p1 again (fun y=>ob (k0 y) k) s=ob (T167 B p0 p1 again' k0 s) k:=by
 rintro (_ | x)
 all_goals try cases x
 all_goals (unfold T167;repeat' first | exact rfl | exact h _ | apply qaf | (apply qao;intro))
def R167 (p0:L9) (p1:LB):Nat→S167→Option (Int)
 | 0,_=>none
 | n+1,s=>T167 Ops.std p0 p1 (R167 p0 p1 n) some (some s)
theorem rr167 {R:Type} (p0:L9) (p1:LB) (k:AV→Objs→Option R):∀ (n:Nat) (s:S167),aloop tau Ops.std gl0 X167 gnil ow [] Tryz.f167 k (I167 s) (E167 p0 p1 s) n=ob (R167 p0 p1 n s) (K1 k)
 | 0,s=>by cases s<;>rfl
 | n+1,s=>by rw [el167];exact nt167 Ops.std p0 p1 _ _ some (K1 k) (rr167 p0 p1 k n) (some s)
def F167 (p0:L9) (p1:LB):Option (Int):=T167 Ops.std p0 p1 (R167 p0 p1 1000000) some none
def e167 {R:Type} (c:L9→LB→Option (Int)):Ent R:=fun args objs k=>
 oL args 9 ty9 fun p0 l0=>oS l0 fun p1 l1=>oE l1 objs <| ob (c p0 p1) (K1 k)
abbrev Sp167 (c:L9→LB→Option (Int)):Prop:=∀ (p0:L9) (p1:LB) (y:Int),c p0 p1=some y→Spec Tryz.prog gl0 167 [.c (.list 9 ty9 p0),.c (.str p1)] [] (.c (.int .i64 y)) []
theorem ek167 {R:Type} {c:L9→LB→Option (Int)} (hs:Sp167 c):EOk 167 (e167 (R:=R) c):=fun args objs k r h=>by
 unfold e167 at h
 obtain ⟨p0,l0,rfl,q3⟩:=qaw h
 obtain ⟨p1,l1,rfl,q6⟩:=qa9 q3
 obtain ⟨rfl,rfl,q8⟩:=qan q6
 exact qap (hs p0 p1) q8
theorem sf167:Sp167 (F167):=fun p0 p1 y hy=>by
 refine qak qaj 1000000 (fn:=Tryz.f167) (by kernel_rfl) (by kernel_rfl) (X:=X167) (by kernel_rfl) ?_
 rw [eq167]
 exact (nt167 Ops.std p0 p1 _ _ some (K1 k0) (rr167 p0 p1 k0 1000000) none).trans (by show ob (F167 p0 p1) _=_;rw [hy];rfl)
noncomputable def M167:L9→LB→Option (Int):=F167
theorem sm167:Sp167 M167:=sf167
def X118:Aux:=⟨[],[]⟩
def T118 {R:Type} (B:Ops) (p0:Int) (k:(Int)→Option R):Option R:=k (bif true then bif B.lt (-99999) (bif false then bif B.lt p0 (99999) then 99999 else p0 else bif B.lt (99999) p0 then 99999 else p0) then bif false then bif B.lt p0 (99999) then 99999 else p0 else bif B.lt (99999) p0 then 99999 else p0 else -99999 else bif B.lt (bif false then bif B.lt p0 (99999) then 99999 else p0 else bif B.lt (99999) p0 then 99999 else p0) (-99999) then bif false then bif B.lt p0 (99999) then 99999 else p0 else bif B.lt (99999) p0 then 99999 else p0 else -99999)
theorem eq118 {R:Type} (B:Ops) (p0:Int) (k:AV→Objs→Option R) (n:Nat):afun tau B gl0 X118 gnil ow Tryz.f118 [.c (.int .i64 p0)] [] k n=T118 B p0 (K1 k):=by kernel_rfl
theorem nt118 {R R':Type} (B:Ops) (p0:Int) (k0:(Int)→Option R') (k:R'→Option R):T118 B p0 (fun y=>ob (k0 y) k)=ob (T118 B p0 k0) k:=by
 unfold T118
 repeat' first | exact rfl | apply qaf | (apply qao;intro)
def F118 (p0:Int):Option (Int):=T118 Ops.std p0 some
def e118 {R:Type} (c:Int→Option (Int)):Ent R:=fun args objs k=>
 oI args .i64 fun p0 l0=>oE l0 objs <| ob (c p0) (K1 k)
abbrev Sp118 (c:Int→Option (Int)):Prop:=∀ (p0:Int) (y:Int),c p0=some y→Spec Tryz.prog gl0 118 [.c (.int .i64 p0)] [] (.c (.int .i64 y)) []
theorem ek118 {R:Type} {c:Int→Option (Int)} (hs:Sp118 c):EOk 118 (e118 (R:=R) c):=fun args objs k r h=>by
 unfold e118 at h
 obtain ⟨p0,l0,rfl,q3⟩:=qau h
 obtain ⟨rfl,rfl,q5⟩:=qan q3
 exact qap (hs p0) q5
theorem sf118:Sp118 (F118):=fun p0 y hy=>by
 refine qak qaj 1000000 (fn:=Tryz.f118) (by kernel_rfl) (by kernel_rfl) (X:=X118) (by kernel_rfl) ?_
 rw [eq118]
 exact (nt118 Ops.std p0 some (K1 k0)).trans (by show ob (F118 p0) _=_;rw [hy];rfl)
noncomputable def M118:Int→Option (Int):=F118
theorem sm118:Sp118 M118:=sf118
def X121:Aux:=⟨[],[]⟩
def T121 {R:Type} (B:Ops) (p0:Bool) (k:(Int)→Option R):Option R:=cond (p0) (k 1) (k 0)
theorem eq121 {R:Type} (B:Ops) (p0:Bool) (k:AV→Objs→Option R) (n:Nat):afun tau B gl0 X121 gnil ow Tryz.f121 [.c (.bool p0)] [] k n=T121 B p0 (K1 k):=by kernel_rfl
theorem nt121 {R R':Type} (B:Ops) (p0:Bool) (k0:(Int)→Option R') (k:R'→Option R):T121 B p0 (fun y=>ob (k0 y) k)=ob (T121 B p0 k0) k:=by
 unfold T121
 repeat' first | exact rfl | apply qaf | (apply qao;intro)
def F121 (p0:Bool):Option (Int):=T121 Ops.std p0 some
def e121 {R:Type} (c:Bool→Option (Int)):Ent R:=fun args objs k=>
 oCons args fun a0 l0=>oC a0 fun x0=>cBool x0 fun p0=>oE l0 objs <| ob (c p0) (K1 k)
abbrev Sp121 (c:Bool→Option (Int)):Prop:=∀ (p0:Bool) (y:Int),c p0=some y→Spec Tryz.prog gl0 121 [.c (.bool p0)] [] (.c (.int .i64 y)) []
theorem ek121 {R:Type} {c:Bool→Option (Int)} (hs:Sp121 c):EOk 121 (e121 (R:=R) c):=fun args objs k r h=>by
 unfold e121 at h
 obtain ⟨a0,l0,rfl,q1⟩:=qai h
 obtain ⟨x0,rfl,q2⟩:=qa6 q1
 obtain ⟨p0,rfl,q3⟩:=qbq q2
 obtain ⟨rfl,rfl,q5⟩:=qan q3
 exact qap (hs p0) q5
theorem sf121:Sp121 (F121):=fun p0 y hy=>by
 refine qak qaj 1000000 (fn:=Tryz.f121) (by kernel_rfl) (by kernel_rfl) (X:=X121) (by kernel_rfl) ?_
 rw [eq121]
 exact (nt121 Ops.std p0 some (K1 k0)).trans (by show ob (F121 p0) _=_;rw [hy];rfl)
noncomputable def M121:Bool→Option (Int):=F121
theorem sm121:Sp121 M121:=sf121
def X122:Aux:=⟨[],[]⟩
abbrev C118:Type:=Int→Option (Int)
abbrev C121:Type:=Bool→Option (Int)
def T122 {R:Type} (B:Ops) (c118:C118) (c121:C121) (p0:Int) (p1:Int) (p2:Int) (k:(Int)→Option R):Option R:=cond (B.eq p0 (6)) (ob (c118 (IntKind.wrap .i64 (p1*p2))) fun y0=>k y0) (cond (B.eq p0 (7)) (ob (c118 (IntKind.wrap .i64 (p1+p2))) fun y0=>k y0) (cond (B.eq p0 (8)) (ob (c118 (IntKind.wrap .i64 (p1-p2))) fun y0=>k y0) (cond (B.eq p0 (9)) (ob (c121 (B.lt p1 p2)) fun y0=>k y0) (cond (B.eq p0 (10)) (ob (c121 (B.le p1 p2)) fun y0=>k y0) (cond (B.eq p0 (11)) (ob (c121 (B.lt p2 p1)) fun y0=>k y0) (cond (B.eq p0 (12)) (ob (c121 (B.le p2 p1)) fun y0=>k y0) (cond (B.eq p0 (13)) (ob (c121 (B.eq p1 p2)) fun y0=>k y0) (cond (B.eq p0 (14)) (ob (c121 !B.eq p1 p2) fun y0=>k y0) (cond (B.eq p0 (15)) (cond (!B.eq p1 (0)) (ob (c121 !B.eq p2 (0)) fun y0=>k y0) (ob (c121 false) fun y0=>k y0)) (cond (!B.eq p1 (0)) (ob (c121 true) fun y0=>k y0) (ob (c121 !B.eq p2 (0)) fun y0=>k y0)))))))))))
theorem eq122 {R:Type} (B:Ops) (c118:C118) (c121:C121) (p0:Int) (p1:Int) (p2:Int) (k:AV→Objs→Option R) (n:Nat):afun tau B gl0 X122 (ent 118 (e118 c118) (ent 121 (e121 c121) gnil)) ow Tryz.f122 [.c (.int .i64 p0),.c (.int .i64 p1),.c (.int .i64 p2)] [] k n=T122 B c118 c121 p0 p1 p2 (K1 k):=by kernel_rfl
theorem nt122 {R R':Type} (B:Ops) (c118:C118) (c121:C121) (p0:Int) (p1:Int) (p2:Int) (k0:(Int)→Option R') (k:R'→Option R):T122 B c118 c121 p0 p1 p2 (fun y=>ob (k0 y) k)=ob (T122 B c118 c121 p0 p1 p2 k0) k:=by
 unfold T122
 repeat' first | exact rfl | apply qaf | (apply qao;intro)
def F122 (c118:C118) (c121:C121) (p0:Int) (p1:Int) (p2:Int):Option (Int):=T122 Ops.std c118 c121 p0 p1 p2 some
def e122 {R:Type} (c:Int→Int→Int→Option (Int)):Ent R:=fun args objs k=>
 oI args .i64 fun p0 l0=>oI l0 .i64 fun p1 l1=>oI l1 .i64 fun p2 l2=>oE l2 objs <| ob (c p0 p1 p2) (K1 k)
abbrev Sp122 (c:Int→Int→Int→Option (Int)):Prop:=∀ (p0:Int) (p1:Int) (p2:Int) (y:Int),c p0 p1 p2=some y→Spec Tryz.prog gl0 122 [.c (.int .i64 p0),.c (.int .i64 p1),.c (.int .i64 p2)] [] (.c (.int .i64 y)) []
theorem ek122 {R:Type} {c:Int→Int→Int→Option (Int)} (hs:Sp122 c):EOk 122 (e122 (R:=R) c):=fun args objs k r h=>by
 unfold e122 at h
 obtain ⟨p0,l0,rfl,q3⟩:=qau h
 obtain ⟨p1,l1,rfl,q6⟩:=qau q3
 obtain ⟨p2,l2,rfl,q9⟩:=qau q6
 obtain ⟨rfl,rfl,q11⟩:=qan q9
 exact qap (hs p0 p1 p2) q11
theorem sf122 {c118:C118} {c121:C121} (h118:Sp118 c118) (h121:Sp121 c121):Sp122 (F122 c118 c121):=fun p0 p1 p2 y hy=>by
 refine qak (qae (ek118 h118) (qae (ek121 h121) qaj)) 1000000 (fn:=Tryz.f122) (by kernel_rfl) (by kernel_rfl) (X:=X122) (by kernel_rfl) ?_
 rw [eq122]
 exact (nt122 Ops.std c118 c121 p0 p1 p2 some (K1 k0)).trans (by show ob (F122 c118 c121 p0 p1 p2) _=_;rw [hy];rfl)
noncomputable def M122:Int→Int→Int→Option (Int):=F122 M118 M121
theorem sm122:Sp122 M122:=sf122 sm118 sm121
def X163:Aux:=⟨[(2,([2,3,4,5,6]++rg 9 10))],[]⟩
inductive S163 where
 | l0 (v1:Int) (v2:Int) (v3:LB)
abbrev C164:Type:=LB→Int→Int→Int→LB→Option (Bool×LB)
def T163 {R:Type} (B:Ops) (c164:C164) (p0:L94) (p1:LB) (again:S163→Option R) (k:(Int×LB)→Option R):Option S163→Option R | none=>again (.l0 (↑p0.length) 0 p1) | some (.l0 v1 v2 v3)=>cond (B.lt v2 v1) (cond (B.inb v2 p0.length) (ob (c164 ((p0.getD v2.toNat ty94.dflt).1) (((p0.getD v2.toNat ty94.dflt).2).1) ((((p0.getD v2.toNat ty94.dflt).2).2).1) ((((p0.getD v2.toNat ty94.dflt).2).2).2) v3) fun y0=>cond y0.1 (k ((v2,y0.2))) (again (.l0 v1 (IntKind.wrap .i64 (v2+1)) y0.2))) none) (k ((-1,v3)))
def E163 (p0:L94) (p1:LB):S163→List AV×Objs
 | .l0 v1 v2 v3=>(mk 19 [(0,.c (.list 94 ty94 p0)),(1,.fn 164 [.ptr 2500 0]),(7,.c (.int .i64 v1)),(8,.c (.int .i64 v2))],[(2500,.box 9 [.str v3])])
def I163:S163→Nat
 | .l0 _ _ _=>0
abbrev K7 {R:Type} (k:AV→Objs→Option R) (y:(Int×LB)):Option R:=k (.c (.int .i64 y.1)) [(2500,.box 9 [.str y.2])]
theorem eq163 {R:Type} (B:Ops) (c164:C164) (p0:L94) (p1:LB) (k:AV→Objs→Option R) (n:Nat):afun tau B gl0 X163 (ent 164 (e164 c164) gnil) ow Tryz.f163 [.c (.list 94 ty94 p0),.fn 164 [.ptr 2500 0]] [(2500,.box 9 [.str p1])] k n=T163 B c164 p0 p1 (fun s=>aloop tau B gl0 X163 (ent 164 (e164 c164) gnil) ow [2500] Tryz.f163 k (I163 s) (E163 p0 p1 s) n) (K7 k) none:=by kernel_rfl
theorem el163 {R:Type} (B:Ops) (c164:C164) (p0:L94) (p1:LB) (k:AV→Objs→Option R) (n:Nat):∀ s,aloop tau B gl0 X163 (ent 164 (e164 c164) gnil) ow [2500] Tryz.f163 k (I163 s) (E163 p0 p1 s) (n+1)=T163 B c164 p0 p1 (fun s=>aloop tau B gl0 X163 (ent 164 (e164 c164) gnil) ow [2500] Tryz.f163 k (I163 s) (E163 p0 p1 s) n) (K7 k) (some s):=by
 intro s
 cases s<;>kernel_rfl
theorem nt163 {R R':Type} (B:Ops) (c164:C164) (p0:L94) (p1:LB) (again:S163→Option R) (again':S163→Option R') (k0:(Int×LB)→Option R') (k:R'→Option R) (h:∀ s,again s=ob (again' s) k):∀ s,T163 B c164 p0 p1 again (fun y=>ob (k0 y) k) s=ob (T163 B c164 p0 p1 again' k0 s) k:=by
 rintro (_ | x)
 all_goals try cases x
 all_goals (unfold T163;repeat' first | exact rfl | exact h _ | apply qaf | (apply qao;intro))
def R163 (c164:C164) (p0:L94) (p1:LB):Nat→S163→Option (Int×LB)
 | 0,_=>none
 | n+1,s=>T163 Ops.std c164 p0 p1 (R163 c164 p0 p1 n) some (some s)
theorem rr163 {R:Type} (c164:C164) (p0:L94) (p1:LB) (k:AV→Objs→Option R):∀ (n:Nat) (s:S163),aloop tau Ops.std gl0 X163 (ent 164 (e164 c164) gnil) ow [2500] Tryz.f163 k (I163 s) (E163 p0 p1 s) n=ob (R163 c164 p0 p1 n s) (K7 k)
 | 0,s=>by cases s<;>rfl
 | n+1,s=>by rw [el163];exact nt163 Ops.std c164 p0 p1 _ _ some (K7 k) (rr163 c164 p0 p1 k n) (some s)
def F163 (c164:C164) (p0:L94) (p1:LB):Option (Int×LB):=T163 Ops.std c164 p0 p1 (R163 c164 p0 p1 1000000) some none
def e163 {R:Type} (c:L94→LB→Option (Int×LB)):Ent R:=fun args objs k=>
 oL args 94 ty94 fun p0 l0=>oCons l0 fun a1 l1=>oFnC 164 a1 fun x1=>cCons x1 fun z1_0 w1_0=>cPtr 2500 z1_0 <| cNil w1_0 <| oNil l1 <| oBox 2500 9 objs fun b0 o0=>cCons b0 fun u0_0 v0=>cStr u0_0 fun p1=>cNil v0 <| oNilO o0 <| ob (c p0 p1) (K7 k)
abbrev Sp163 (c:L94→LB→Option (Int×LB)):Prop:=∀ (p0:L94) (p1:LB) (y:Int×LB),c p0 p1=some y→Spec Tryz.prog gl0 163 [.c (.list 94 ty94 p0),.fn 164 [.ptr 2500 0]] [(2500,.box 9 [.str p1])] (.c (.int .i64 y.1)) [(2500,.box 9 [.str y.2])]
theorem ek163 {R:Type} {c:L94→LB→Option (Int×LB)} (hs:Sp163 c):EOk 163 (e163 (R:=R) c):=fun args objs k r h=>by
 unfold e163 at h
 obtain ⟨p0,l0,rfl,q3⟩:=qaw h
 obtain ⟨a1,l1,rfl,q4⟩:=qai q3
 obtain ⟨x1,rfl,q5⟩:=qdh q4
 obtain ⟨z1_0,w1_0,rfl,q6⟩:=qaa q5
 obtain ⟨rfl,q7⟩:=qa1 q6
 obtain ⟨rfl,q8⟩:=qam q7
 obtain ⟨rfl,q9⟩:=qay q8
 obtain ⟨b0,o0,rfl,q10⟩:=qa2 q9
 obtain ⟨u0_0,v0,rfl,q11⟩:=qaa q10
 obtain ⟨p1,rfl,q12⟩:=qa7 q11
 obtain ⟨rfl,q13⟩:=qam q12
 obtain ⟨rfl,q14⟩:=qax q13
 exact qap (hs p0 p1) q14
theorem sf163 {c164:C164} (h164:Sp164 c164):Sp163 (F163 c164):=fun p0 p1 y hy=>by
 refine qak (qae (ek164 h164) qaj) 1000000 (fn:=Tryz.f163) (by kernel_rfl) (by kernel_rfl) (X:=X163) (by kernel_rfl) ?_
 rw [eq163]
 exact (nt163 Ops.std c164 p0 p1 _ _ some (K7 k0) (rr163 c164 p0 p1 k0 1000000) none).trans (by show ob (F163 c164 p0 p1) _=_;rw [hy];rfl)
noncomputable def M163:L94→LB→Option (Int×LB):=F163 M164
theorem sm163:Sp163 M163:=sf163 sm164
def X119:Aux:=⟨[],[]⟩
abbrev C163:Type:=L94→LB→Option (Int×LB)
def T119 {R:Type} (B:Ops) (c164:C164) (c163:C163) (p0:L94) (p1:L98) (p2:L103) (p3:LB) (k:(Int)→Option R):Option R:=ob (c163 p0 p3) fun y0=>k y0.1
theorem eq119 {R:Type} (B:Ops) (c164:C164) (c163:C163) (p0:L94) (p1:L98) (p2:L103) (p3:LB) (k:AV→Objs→Option R) (n:Nat):afun tau B gl0 X119 (ent 164 (e164 c164) (ent 163 (e163 c163) gnil)) ow Tryz.f119 [.agg [.list 94 ty94 p0,.list 98 ty98 p1,.list 103 ty103 p2],.c (.str p3)] [] k n=T119 B c164 c163 p0 p1 p2 p3 (K1 k):=by kernel_rfl
theorem nt119 {R R':Type} (B:Ops) (c164:C164) (c163:C163) (p0:L94) (p1:L98) (p2:L103) (p3:LB) (k0:(Int)→Option R') (k:R'→Option R):T119 B c164 c163 p0 p1 p2 p3 (fun y=>ob (k0 y) k)=ob (T119 B c164 c163 p0 p1 p2 p3 k0) k:=by
 unfold T119
 repeat' first | exact rfl | apply qaf | (apply qao;intro)
def F119 (c164:C164) (c163:C163) (p0:L94) (p1:L98) (p2:L103) (p3:LB):Option (Int):=T119 Ops.std c164 c163 p0 p1 p2 p3 some
def e119 {R:Type} (c:L94→L98→L103→LB→Option (Int)):Ent R:=fun args objs k=>
 oCons args fun a0 l0=>oAgg a0 fun x0=>cCons x0 fun z0_0 w0_0=>cList 94 ty94 z0_0 fun p0=>cCons w0_0 fun z0_1 w0_1=>cList 98 ty98 z0_1 fun p1=>cCons w0_1 fun z0_2 w0_2=>cList 103 ty103 z0_2 fun p2=>cNil w0_2 <| oS l0 fun p3 l1=>oE l1 objs <| ob (c p0 p1 p2 p3) (K1 k)
abbrev Sp119 (c:L94→L98→L103→LB→Option (Int)):Prop:=∀ (p0:L94) (p1:L98) (p2:L103) (p3:LB) (y:Int),c p0 p1 p2 p3=some y→Spec Tryz.prog gl0 119 [.agg [.list 94 ty94 p0,.list 98 ty98 p1,.list 103 ty103 p2],.c (.str p3)] [] (.c (.int .i64 y)) []
theorem ek119 {R:Type} {c:L94→L98→L103→LB→Option (Int)} (hs:Sp119 c):EOk 119 (e119 (R:=R) c):=fun args objs k r h=>by
 unfold e119 at h
 obtain ⟨a0,l0,rfl,q1⟩:=qai h
 obtain ⟨x0,rfl,q2⟩:=qas q1
 obtain ⟨z0_0,w0_0,rfl,q3⟩:=qaa q2
 obtain ⟨p0,rfl,q4⟩:=qac q3
 obtain ⟨z0_1,w0_1,rfl,q5⟩:=qaa q4
 obtain ⟨p1,rfl,q6⟩:=qac q5
 obtain ⟨z0_2,w0_2,rfl,q7⟩:=qaa q6
 obtain ⟨p2,rfl,q8⟩:=qac q7
 obtain ⟨rfl,q9⟩:=qam q8
 obtain ⟨p3,l1,rfl,q12⟩:=qa9 q9
 obtain ⟨rfl,rfl,q14⟩:=qan q12
 exact qap (hs p0 p1 p2 p3) q14
theorem sf119 {c164:C164} {c163:C163} (h164:Sp164 c164) (h163:Sp163 c163):Sp119 (F119 c164 c163):=fun p0 p1 p2 p3 y hy=>by
 refine qak (qae (ek164 h164) (qae (ek163 h163) qaj)) 1000000 (fn:=Tryz.f119) (by kernel_rfl) (by kernel_rfl) (X:=X119) (by kernel_rfl) ?_
 rw [eq119]
 exact (nt119 Ops.std c164 c163 p0 p1 p2 p3 some (K1 k0)).trans (by show ob (F119 c164 c163 p0 p1 p2 p3) _=_;rw [hy];rfl)
noncomputable def M119:L94→L98→L103→LB→Option (Int):=F119 M164 M163
theorem sm119:Sp119 M119:=sf119 sm164 sm163
def X165:Aux:=⟨[(2,([2,3,4,5,6]++rg 9 10))],[]⟩
inductive S165 where
 | l0 (v1:Int) (v2:Int) (v3:LB)
abbrev C166:Type:=LB→L9→LB→Option (Bool×LB)
def T165 {R:Type} (B:Ops) (c166:C166) (p0:L98) (p1:LB) (again:S165→Option R) (k:(Int×LB)→Option R):Option S165→Option R | none=>again (.l0 (↑p0.length) 0 p1) | some (.l0 v1 v2 v3)=>cond (B.lt v2 v1) (cond (B.inb v2 p0.length) (ob (c166 ((p0.getD v2.toNat ty98.dflt).1) ((p0.getD v2.toNat ty98.dflt).2) v3) fun y0=>cond y0.1 (k ((v2,y0.2))) (again (.l0 v1 (IntKind.wrap .i64 (v2+1)) y0.2))) none) (k ((-1,v3)))
def E165 (p0:L98) (p1:LB):S165→List AV×Objs
 | .l0 v1 v2 v3=>(mk 19 [(0,.c (.list 98 ty98 p0)),(1,.fn 166 [.ptr 2500 0]),(7,.c (.int .i64 v1)),(8,.c (.int .i64 v2))],[(2500,.box 9 [.str v3])])
def I165:S165→Nat
 | .l0 _ _ _=>0
theorem eq165 {R:Type} (B:Ops) (c166:C166) (p0:L98) (p1:LB) (k:AV→Objs→Option R) (n:Nat):afun tau B gl0 X165 (ent 166 (e166 c166) gnil) ow Tryz.f165 [.c (.list 98 ty98 p0),.fn 166 [.ptr 2500 0]] [(2500,.box 9 [.str p1])] k n=T165 B c166 p0 p1 (fun s=>aloop tau B gl0 X165 (ent 166 (e166 c166) gnil) ow [2500] Tryz.f165 k (I165 s) (E165 p0 p1 s) n) (K7 k) none:=by kernel_rfl
theorem el165 {R:Type} (B:Ops) (c166:C166) (p0:L98) (p1:LB) (k:AV→Objs→Option R) (n:Nat):∀ s,aloop tau B gl0 X165 (ent 166 (e166 c166) gnil) ow [2500] Tryz.f165 k (I165 s) (E165 p0 p1 s) (n+1)=T165 B c166 p0 p1 (fun s=>aloop tau B gl0 X165 (ent 166 (e166 c166) gnil) ow [2500] Tryz.f165 k (I165 s) (E165 p0 p1 s) n) (K7 k) (some s):=by
 intro s
 cases s<;>kernel_rfl
theorem nt165 {R R':Type} (B:Ops) (c166:C166) (p0:L98) (p1:LB) (again:S165→Option R) (again':S165→Option R') (k0:(Int×LB)→Option R') (k:R'→Option R) (h:∀ s,again s=ob (again' s) k):∀ s,T165 B c166 p0 p1 again (fun y=>ob (k0 y) k) s=ob (T165 B c166 p0 p1 again' k0 s) k:=by
 rintro (_ | x)
 all_goals try cases x
 all_goals (unfold T165;repeat' first | exact rfl | exact h _ | apply qaf | (apply qao;intro))
def R165 (c166:C166) (p0:L98) (p1:LB):Nat→S165→Option (Int×LB)
 | 0,_=>none
 | n+1,s=>T165 Ops.std c166 p0 p1 (R165 c166 p0 p1 n) some (some s)
theorem rr165 {R:Type} (c166:C166) (p0:L98) (p1:LB) (k:AV→Objs→Option R):∀ (n:Nat) (s:S165),aloop tau Ops.std gl0 X165 (ent 166 (e166 c166) gnil) ow [2500] Tryz.f165 k (I165 s) (E165 p0 p1 s) n=ob (R165 c166 p0 p1 n s) (K7 k)
 | 0,s=>by cases s<;>rfl
 | n+1,s=>by rw [el165];exact nt165 Ops.std c166 p0 p1 _ _ some (K7 k) (rr165 c166 p0 p1 k n) (some s)
def F165 (c166:C166) (p0:L98) (p1:LB):Option (Int×LB):=T165 Ops.std c166 p0 p1 (R165 c166 p0 p1 1000000) some none
def e165 {R:Type} (c:L98→LB→Option (Int×LB)):Ent R:=fun args objs k=>
 oL args 98 ty98 fun p0 l0=>oCons l0 fun a1 l1=>oFnC 166 a1 fun x1=>cCons x1 fun z1_0 w1_0=>cPtr 2500 z1_0 <| cNil w1_0 <| oNil l1 <| oBox 2500 9 objs fun b0 o0=>cCons b0 fun u0_0 v0=>cStr u0_0 fun p1=>cNil v0 <| oNilO o0 <| ob (c p0 p1) (K7 k)
abbrev Sp165 (c:L98→LB→Option (Int×LB)):Prop:=∀ (p0:L98) (p1:LB) (y:Int×LB),c p0 p1=some y→Spec Tryz.prog gl0 165 [.c (.list 98 ty98 p0),.fn 166 [.ptr 2500 0]] [(2500,.box 9 [.str p1])] (.c (.int .i64 y.1)) [(2500,.box 9 [.str y.2])]
theorem ek165 {R:Type} {c:L98→LB→Option (Int×LB)} (hs:Sp165 c):EOk 165 (e165 (R:=R) c):=fun args objs k r h=>by
 unfold e165 at h
 obtain ⟨p0,l0,rfl,q3⟩:=qaw h
 obtain ⟨a1,l1,rfl,q4⟩:=qai q3
 obtain ⟨x1,rfl,q5⟩:=qdh q4
 obtain ⟨z1_0,w1_0,rfl,q6⟩:=qaa q5
 obtain ⟨rfl,q7⟩:=qa1 q6
 obtain ⟨rfl,q8⟩:=qam q7
 obtain ⟨rfl,q9⟩:=qay q8
 obtain ⟨b0,o0,rfl,q10⟩:=qa2 q9
 obtain ⟨u0_0,v0,rfl,q11⟩:=qaa q10
 obtain ⟨p1,rfl,q12⟩:=qa7 q11
 obtain ⟨rfl,q13⟩:=qam q12
 obtain ⟨rfl,q14⟩:=qax q13
 exact qap (hs p0 p1) q14
theorem sf165 {c166:C166} (h166:Sp166 c166):Sp165 (F165 c166):=fun p0 p1 y hy=>by
 refine qak (qae (ek166 h166) qaj) 1000000 (fn:=Tryz.f165) (by kernel_rfl) (by kernel_rfl) (X:=X165) (by kernel_rfl) ?_
 rw [eq165]
 exact (nt165 Ops.std c166 p0 p1 _ _ some (K7 k0) (rr165 c166 p0 p1 k0 1000000) none).trans (by show ob (F165 c166 p0 p1) _=_;rw [hy];rfl)
noncomputable def M165:L98→LB→Option (Int×LB):=F165 M166
theorem sm165:Sp165 M165:=sf165 sm166
def X120:Aux:=⟨[],[]⟩
abbrev C165:Type:=L98→LB→Option (Int×LB)
abbrev C167:Type:=L9→LB→Option (Int)
def T120 {R:Type} (B:Ops) (c166:C166) (c165:C165) (c167:C167) (p0:L94) (p1:L98) (p2:L103) (p3:LB) (p4:LB) (k:(Int×Int)→Option R):Option R:=ob (c165 p1 p3) fun y0=>cond (B.lt y0.1 (0)) (k ((-1,-1))) (cond (B.inb y0.1 p1.length) (ob (c167 ((p1.getD (Int.toNat y0.1) ty98.dflt).2) p4) fun y1=>k ((y0.1,y1))) none)
abbrev K8 {R:Type} (k:AV→Objs→Option R) (y:(Int×Int)):Option R:=k (.tup [(false,[.int .i64 y.1]),(false,[.int .i64 y.2])]) []
theorem eq120 {R:Type} (B:Ops) (c166:C166) (c165:C165) (c167:C167) (p0:L94) (p1:L98) (p2:L103) (p3:LB) (p4:LB) (k:AV→Objs→Option R) (n:Nat):afun tau B gl0 X120 (ent 166 (e166 c166) (ent 165 (e165 c165) (ent 167 (e167 c167) gnil))) ow Tryz.f120 [.agg [.list 94 ty94 p0,.list 98 ty98 p1,.list 103 ty103 p2],.c (.str p3),.c (.str p4)] [] k n=T120 B c166 c165 c167 p0 p1 p2 p3 p4 (K8 k):=by kernel_rfl
theorem nt120 {R R':Type} (B:Ops) (c166:C166) (c165:C165) (c167:C167) (p0:L94) (p1:L98) (p2:L103) (p3:LB) (p4:LB) (k0:(Int×Int)→Option R') (k:R'→Option R):T120 B c166 c165 c167 p0 p1 p2 p3 p4 (fun y=>ob (k0 y) k)=ob (T120 B c166 c165 c167 p0 p1 p2 p3 p4 k0) k:=by
 unfold T120
 repeat' first | exact rfl | apply qaf | (apply qao;intro)
def F120 (c166:C166) (c165:C165) (c167:C167) (p0:L94) (p1:L98) (p2:L103) (p3:LB) (p4:LB):Option (Int×Int):=T120 Ops.std c166 c165 c167 p0 p1 p2 p3 p4 some
def e120 {R:Type} (c:L94→L98→L103→LB→LB→Option (Int×Int)):Ent R:=fun args objs k=>
 oCons args fun a0 l0=>oAgg a0 fun x0=>cCons x0 fun z0_0 w0_0=>cList 94 ty94 z0_0 fun p0=>cCons w0_0 fun z0_1 w0_1=>cList 98 ty98 z0_1 fun p1=>cCons w0_1 fun z0_2 w0_2=>cList 103 ty103 z0_2 fun p2=>cNil w0_2 <| oS l0 fun p3 l1=>oS l1 fun p4 l2=>oE l2 objs <| ob (c p0 p1 p2 p3 p4) (K8 k)
abbrev Sp120 (c:L94→L98→L103→LB→LB→Option (Int×Int)):Prop:=∀ (p0:L94) (p1:L98) (p2:L103) (p3:LB) (p4:LB) (y:Int×Int),c p0 p1 p2 p3 p4=some y→Spec Tryz.prog gl0 120 [.agg [.list 94 ty94 p0,.list 98 ty98 p1,.list 103 ty103 p2],.c (.str p3),.c (.str p4)] [] (.tup [(false,[.int .i64 y.1]),(false,[.int .i64 y.2])]) []
theorem ek120 {R:Type} {c:L94→L98→L103→LB→LB→Option (Int×Int)} (hs:Sp120 c):EOk 120 (e120 (R:=R) c):=fun args objs k r h=>by
 unfold e120 at h
 obtain ⟨a0,l0,rfl,q1⟩:=qai h
 obtain ⟨x0,rfl,q2⟩:=qas q1
 obtain ⟨z0_0,w0_0,rfl,q3⟩:=qaa q2
 obtain ⟨p0,rfl,q4⟩:=qac q3
 obtain ⟨z0_1,w0_1,rfl,q5⟩:=qaa q4
 obtain ⟨p1,rfl,q6⟩:=qac q5
 obtain ⟨z0_2,w0_2,rfl,q7⟩:=qaa q6
 obtain ⟨p2,rfl,q8⟩:=qac q7
 obtain ⟨rfl,q9⟩:=qam q8
 obtain ⟨p3,l1,rfl,q12⟩:=qa9 q9
 obtain ⟨p4,l2,rfl,q15⟩:=qa9 q12
 obtain ⟨rfl,rfl,q17⟩:=qan q15
 exact qap (hs p0 p1 p2 p3 p4) q17
theorem sf120 {c166:C166} {c165:C165} {c167:C167} (h166:Sp166 c166) (h165:Sp165 c165) (h167:Sp167 c167):Sp120 (F120 c166 c165 c167):=fun p0 p1 p2 p3 p4 y hy=>by
 refine qak (qae (ek166 h166) (qae (ek165 h165) (qae (ek167 h167) qaj))) 1000000 (fn:=Tryz.f120) (by kernel_rfl) (by kernel_rfl) (X:=X120) (by kernel_rfl) ?_
 rw [eq120]
 exact (nt120 Ops.std c166 c165 c167 p0 p1 p2 p3 p4 some (K8 k0)).trans (by show ob (F120 c166 c165 c167 p0 p1 p2 p3 p4) _=_;rw [hy];rfl)
noncomputable def M120:L94→L98→L103→LB→LB→Option (Int×Int):=F120 M166 M165 M167
theorem sm120:Sp120 M120:=sf120 sm166 sm165 sm167
def X116:Aux:=⟨[(2,([0,3,4,5,6,7,8]++rg 12 28))],[]⟩
inductive S116 where
 | l0 (v2:Int) (v3:Int)
abbrev C119:Type:=L94→L98→L103→LB→Option (Int)
abbrev C120:Type:=L94→L98→L103→LB→LB→Option (Int×Int)
def T116 {R:Type} (B:Ops) (c119:C119) (c120:C120) (c156:C156) (p0:L94) (p1:L98) (p2:L103) (p3:L150) (again:S116→Option R) (k:(Bool)→Option R):Option S116→Option R | none=>again (.l0 (↑p3.length) 0) | some (.l0 v2 v3)=>cond (B.lt v3 v2) (cond (B.inb v3 p3.length) (cond (B.eq ((p3.getD v3.toNat ty150.dflt).1) (2)) (ob (c119 p0 p1 p2 ((((p3.getD v3.toNat ty150.dflt).2).2).1)) fun y0=>cond (B.lt y0 (0)) (k false) (again (.l0 v2 (IntKind.wrap .i64 (v3+1))))) (cond (B.eq ((p3.getD v3.toNat ty150.dflt).1) (3)) (ob (c120 p0 p1 p2 ((((p3.getD v3.toNat ty150.dflt).2).2).1) ((((p3.getD v3.toNat ty150.dflt).2).2).2)) fun y0=>cond (B.lt y0.2 (0)) (k false) (again (.l0 v2 (IntKind.wrap .i64 (v3+1))))) (again (.l0 v2 (IntKind.wrap .i64 (v3+1)))))) none) (ob (c156 p3) fun y0=>k y0)
def E116 (p0:L94) (p1:L98) (p2:L103) (p3:L150):S116→List AV×Objs
 | .l0 v2 v3=>(mk 40 [(1,.c (.list 150 ty150 p3)),(2,.c (.ptr 2 0)),(9,.c (.list 150 ty150 p3)),(10,.c (.int .i64 v2)),(11,.c (.int .i64 v3))],[(2,.box 31 [.list 94 ty94 p0,.list 98 ty98 p1,.list 103 ty103 p2])])
def I116:S116→Nat
 | .l0 _ _=>0
theorem eq116 {R:Type} (B:Ops) (c119:C119) (c120:C120) (c156:C156) (p0:L94) (p1:L98) (p2:L103) (p3:L150) (k:AV→Objs→Option R) (n:Nat):afun tau B gl0 X116 (ent 119 (e119 c119) (ent 120 (e120 c120) (ent 156 (e156 c156) gnil))) ow Tryz.f116 [.agg [.list 94 ty94 p0,.list 98 ty98 p1,.list 103 ty103 p2],.c (.list 150 ty150 p3)] [] k n=T116 B c119 c120 c156 p0 p1 p2 p3 (fun s=>aloop tau B gl0 X116 (ent 119 (e119 c119) (ent 120 (e120 c120) (ent 156 (e156 c156) gnil))) ow [] Tryz.f116 k (I116 s) (E116 p0 p1 p2 p3 s) n) (K2 k) none:=by kernel_rfl
theorem el116 {R:Type} (B:Ops) (c119:C119) (c120:C120) (c156:C156) (p0:L94) (p1:L98) (p2:L103) (p3:L150) (k:AV→Objs→Option R) (n:Nat):∀ s,aloop tau B gl0 X116 (ent 119 (e119 c119) (ent 120 (e120 c120) (ent 156 (e156 c156) gnil))) ow [] Tryz.f116 k (I116 s) (E116 p0 p1 p2 p3 s) (n+1)=T116 B c119 c120 c156 p0 p1 p2 p3 (fun s=>aloop tau B gl0 X116 (ent 119 (e119 c119) (ent 120 (e120 c120) (ent 156 (e156 c156) gnil))) ow [] Tryz.f116 k (I116 s) (E116 p0 p1 p2 p3 s) n) (K2 k) (some s):=by
 intro s
 cases s<;>kernel_rfl
theorem nt116 {R R':Type} (B:Ops) (c119:C119) (c120:C120) (c156:C156) (p0:L94) (p1:L98) (p2:L103) (p3:L150) (again:S116→Option R) (again':S116→Option R') (k0:(Bool)→Option R') (k:R'→Option R) (h:∀ s,again s=ob (again' s) k):∀ s,T116 B c119 c120 c156 p0 p1 p2 p3 again (fun y=>ob (k0 y) k) s=ob (T116 B c119 c120 c156 p0 p1 p2 p3 again' k0 s) k:=by
 rintro (_ | x)
 all_goals try cases x
 all_goals (unfold T116;repeat' first | exact rfl | exact h _ | apply qaf | (apply qao;intro))
def R116 (c119:C119) (c120:C120) (c156:C156) (p0:L94) (p1:L98) (p2:L103) (p3:L150):Nat→S116→Option (Bool)
 | 0,_=>none
 | n+1,s=>T116 Ops.std c119 c120 c156 p0 p1 p2 p3 (R116 c119 c120 c156 p0 p1 p2 p3 n) some (some s)
theorem rr116 {R:Type} (c119:C119) (c120:C120) (c156:C156) (p0:L94) (p1:L98) (p2:L103) (p3:L150) (k:AV→Objs→Option R):∀ (n:Nat) (s:S116),aloop tau Ops.std gl0 X116 (ent 119 (e119 c119) (ent 120 (e120 c120) (ent 156 (e156 c156) gnil))) ow [] Tryz.f116 k (I116 s) (E116 p0 p1 p2 p3 s) n=ob (R116 c119 c120 c156 p0 p1 p2 p3 n s) (K2 k)
 | 0,s=>by cases s<;>rfl
 | n+1,s=>by rw [el116];exact nt116 Ops.std c119 c120 c156 p0 p1 p2 p3 _ _ some (K2 k) (rr116 c119 c120 c156 p0 p1 p2 p3 k n) (some s)
def F116 (c119:C119) (c120:C120) (c156:C156) (p0:L94) (p1:L98) (p2:L103) (p3:L150):Option (Bool):=T116 Ops.std c119 c120 c156 p0 p1 p2 p3 (R116 c119 c120 c156 p0 p1 p2 p3 1000000) some none
def e116 {R:Type} (c:L94→L98→L103→L150→Option (Bool)):Ent R:=fun args objs k=>
 oCons args fun a0 l0=>oAgg a0 fun x0=>cCons x0 fun z0_0 w0_0=>cList 94 ty94 z0_0 fun p0=>cCons w0_0 fun z0_1 w0_1=>cList 98 ty98 z0_1 fun p1=>cCons w0_1 fun z0_2 w0_2=>cList 103 ty103 z0_2 fun p2=>cNil w0_2 <| oL l0 150 ty150 fun p3 l1=>oE l1 objs <| ob (c p0 p1 p2 p3) (K2 k)
abbrev Sp116 (c:L94→L98→L103→L150→Option (Bool)):Prop:=∀ (p0:L94) (p1:L98) (p2:L103) (p3:L150) (y:Bool),c p0 p1 p2 p3=some y→Spec Tryz.prog gl0 116 [.agg [.list 94 ty94 p0,.list 98 ty98 p1,.list 103 ty103 p2],.c (.list 150 ty150 p3)] [] (.c (.bool y)) []
theorem ek116 {R:Type} {c:L94→L98→L103→L150→Option (Bool)} (hs:Sp116 c):EOk 116 (e116 (R:=R) c):=fun args objs k r h=>by
 unfold e116 at h
 obtain ⟨a0,l0,rfl,q1⟩:=qai h
 obtain ⟨x0,rfl,q2⟩:=qas q1
 obtain ⟨z0_0,w0_0,rfl,q3⟩:=qaa q2
 obtain ⟨p0,rfl,q4⟩:=qac q3
 obtain ⟨z0_1,w0_1,rfl,q5⟩:=qaa q4
 obtain ⟨p1,rfl,q6⟩:=qac q5
 obtain ⟨z0_2,w0_2,rfl,q7⟩:=qaa q6
 obtain ⟨p2,rfl,q8⟩:=qac q7
 obtain ⟨rfl,q9⟩:=qam q8
 obtain ⟨p3,l1,rfl,q12⟩:=qaw q9
 obtain ⟨rfl,rfl,q14⟩:=qan q12
 exact qap (hs p0 p1 p2 p3) q14
theorem sf116 {c119:C119} {c120:C120} {c156:C156} (h119:Sp119 c119) (h120:Sp120 c120) (h156:Sp156 c156):Sp116 (F116 c119 c120 c156):=fun p0 p1 p2 p3 y hy=>by
 refine qak (qae (ek119 h119) (qae (ek120 h120) (qae (ek156 h156) qaj))) 1000000 (fn:=Tryz.f116) (by kernel_rfl) (by kernel_rfl) (X:=X116) (by kernel_rfl) ?_
 rw [eq116]
 exact (nt116 Ops.std c119 c120 c156 p0 p1 p2 p3 _ _ some (K2 k0) (rr116 c119 c120 c156 p0 p1 p2 p3 k0 1000000) none).trans (by show ob (F116 c119 c120 c156 p0 p1 p2 p3) _=_;rw [hy];rfl)
noncomputable def M116:L94→L98→L103→L150→Option (Bool):=F116 M119 M120 M156
theorem sm116:Sp116 M116:=sf116 sm119 sm120 sm156
def X68:Aux:=⟨[(5,([0,1,2,5,6]++rg 8 28++rg 39 83))],[(14,.lin (rg 0 10)),(10,.lin (rg 0 13))]⟩
inductive S68 where
 | l0 (v1:Int) (v2:Int) (v8:L3)
abbrev C116:Type:=L94→L98→L103→L150→Option (Bool)
abbrev C122:Type:=Int→Int→Int→Option (Int)
def T68 {R:Type} (B:Ops) (c116:C116) (c117:C117) (c119:C119) (c118:C118) (c120:C120) (c121:C121) (c122:C122) (p0:L94) (p1:L98) (p2:L103) (p3:L3) (p4:L3) (p5:L150) (again:S68→Option R) (k:(Int)→Option R):Option S68→Option R | none=>ob (c116 p0 p1 p2 p5) fun y0=>cond (!y0) (k 0) (cond (!B.eq (↑p3.length) (↑p1.length)) (k 0) (cond (!B.eq (↑p4.length) (↑p0.length)) (k 0) (again (.l0 (↑p5.length) 0 (mt (Ty.den (Ty.int .i64))))))) | some (.l0 v1 v2 v8)=>cond (B.lt v2 v1) (cond (B.inb v2 p5.length) (ob (c117 ((p5.getD v2.toNat ty150.dflt).1)) fun y0=>cond (B.eq ((p5.getD v2.toNat ty150.dflt).1) (1)) (cond (B.inb (IntKind.wrap .i64 (Nat.cast v8.length-y0)) (List.length v8+1)) (cond (B.lim (List.length (List.take (Int.toNat (IntKind.wrap .i64 (Nat.cast v8.length-y0))) v8)+List.length (((p5.getD v2.toNat ty150.dflt).2).1::mt (Ty.den (Ty.int .i64)))) (8)) (again (.l0 v1 (IntKind.wrap .i64 (v2+1)) (List.take (Int.toNat (IntKind.wrap .i64 (Nat.cast v8.length-y0))) v8++((p5.getD v2.toNat ty150.dflt).2).1::mt (Ty.den (Ty.int .i64))))) none) none) (cond (B.eq ((p5.getD v2.toNat ty150.dflt).1) (2)) (ob (c119 p0 p1 p2 ((((p5.getD v2.toNat ty150.dflt).2).2).1)) fun y1=>cond (B.inb y1 p4.length) (ob (c118 (p4.getD y1.toNat ty3.dflt)) fun y2=>cond (B.inb (IntKind.wrap .i64 (Nat.cast v8.length-y0)) (List.length v8+1)) (cond (B.lim (List.length (List.take (Int.toNat (IntKind.wrap .i64 (Nat.cast v8.length-y0))) v8)+List.length (y2::mt (Ty.den (Ty.int .i64)))) (8)) (again (.l0 v1 (IntKind.wrap .i64 (v2+1)) (List.take (Int.toNat (IntKind.wrap .i64 (Nat.cast v8.length-y0))) v8++y2::mt (Ty.den (Ty.int .i64))))) none) none) none) (cond (B.eq ((p5.getD v2.toNat ty150.dflt).1) (3)) (ob (c120 p0 p1 p2 ((((p5.getD v2.toNat ty150.dflt).2).2).1) ((((p5.getD v2.toNat ty150.dflt).2).2).2)) fun y1=>cond (B.inb y1.1 p3.length) (ob (c121 (B.eq (p3.getD (Int.toNat y1.1) ty3.dflt) y1.2)) fun y2=>cond (B.inb (IntKind.wrap .i64 (Nat.cast v8.length-y0)) (List.length v8+1)) (cond (B.lim (List.length (List.take (Int.toNat (IntKind.wrap .i64 (Nat.cast v8.length-y0))) v8)+List.length (y2::mt (Ty.den (Ty.int .i64)))) (8)) (again (.l0 v1 (IntKind.wrap .i64 (v2+1)) (List.take (Int.toNat (IntKind.wrap .i64 (Nat.cast v8.length-y0))) v8++y2::mt (Ty.den (Ty.int .i64))))) none) none) none) (cond (B.eq ((p5.getD v2.toNat ty150.dflt).1) (4)) (cond (B.inb (IntKind.wrap .i64 (Nat.cast v8.length-y0)) v8.length) (ob (c121 (B.eq (v8.getD (Int.toNat (IntKind.wrap .i64 (Nat.cast v8.length-y0))) ty3.dflt) (0))) fun y1=>cond (B.inb (IntKind.wrap .i64 (Nat.cast v8.length-y0)) (List.length v8+1)) (cond (B.lim (List.length (List.take (Int.toNat (IntKind.wrap .i64 (Nat.cast v8.length-y0))) v8)+List.length (y1::mt (Ty.den (Ty.int .i64)))) (8)) (again (.l0 v1 (IntKind.wrap .i64 (v2+1)) (List.take (Int.toNat (IntKind.wrap .i64 (Nat.cast v8.length-y0))) v8++y1::mt (Ty.den (Ty.int .i64))))) none) none) none) (cond (B.eq ((p5.getD v2.toNat ty150.dflt).1) (5)) (cond (B.inb (IntKind.wrap .i64 (Nat.cast v8.length-y0)) v8.length) (ob (c118 (IntKind.wrap .i64 (0-v8.getD (Int.toNat (IntKind.wrap .i64 (Nat.cast v8.length-y0))) ty3.dflt))) fun y1=>cond (B.inb (IntKind.wrap .i64 (Nat.cast v8.length-y0)) (List.length v8+1)) (cond (B.lim (List.length (List.take (Int.toNat (IntKind.wrap .i64 (Nat.cast v8.length-y0))) v8)+List.length (y1::mt (Ty.den (Ty.int .i64)))) (8)) (again (.l0 v1 (IntKind.wrap .i64 (v2+1)) (List.take (Int.toNat (IntKind.wrap .i64 (Nat.cast v8.length-y0))) v8++y1::mt (Ty.den (Ty.int .i64))))) none) none) none) (cond (B.inb (IntKind.wrap .i64 (Nat.cast v8.length-y0)) v8.length) (cond (B.inb (IntKind.wrap .i64 (IntKind.wrap .i64 (Nat.cast v8.length-y0)+1)) v8.length) (ob (c122 ((p5.getD v2.toNat ty150.dflt).1) (v8.getD (Int.toNat (IntKind.wrap .i64 (Nat.cast v8.length-y0))) ty3.dflt) (v8.getD (Int.toNat (IntKind.wrap .i64 (IntKind.wrap .i64 (Nat.cast v8.length-y0)+1))) ty3.dflt)) fun y1=>cond (B.inb (IntKind.wrap .i64 (Nat.cast v8.length-y0)) (List.length v8+1)) (cond (B.lim (List.length (List.take (Int.toNat (IntKind.wrap .i64 (Nat.cast v8.length-y0))) v8)+List.length (y1::mt (Ty.den (Ty.int .i64)))) (8)) (again (.l0 v1 (IntKind.wrap .i64 (v2+1)) (List.take (Int.toNat (IntKind.wrap .i64 (Nat.cast v8.length-y0))) v8++y1::mt (Ty.den (Ty.int .i64))))) none) none) none) none)))))) none) (cond (B.inb (0) v8.length) (k (v8.getD (Int.toNat (0)) ty3.dflt)) none)
def E68 (p0:L94) (p1:L98) (p2:L103) (p3:L3) (p4:L3) (p5:L150):S68→List AV×Objs
 | .l0 v1 v2 v8=>(mk 122 [(3,.c (.ptr 3 0)),(4,.c (.ptr 4 0)),(7,.c (.own 7)),(36,.c (.list 150 ty150 p5)),(37,.c (.int .i64 v1)),(38,.c (.int .i64 v2))],[(3,.box 31 [.list 94 ty94 p0,.list 98 ty98 p1,.list 103 ty103 p2]),(4,.box 57 [.list 3 ty3 p3,.list 3 ty3 p4]),(7,.row 3 ty3 v8)])
def I68:S68→Nat
 | .l0 _ _ _=>0
theorem eq68 {R:Type} (B:Ops) (c116:C116) (c117:C117) (c119:C119) (c118:C118) (c120:C120) (c121:C121) (c122:C122) (p0:L94) (p1:L98) (p2:L103) (p3:L3) (p4:L3) (p5:L150) (k:AV→Objs→Option R) (n:Nat):afun tau B gl0 X68 (ent 116 (e116 c116) (ent 117 (e117 c117) (ent 119 (e119 c119) (ent 118 (e118 c118) (ent 120 (e120 c120) (ent 121 (e121 c121) (ent 122 (e122 c122) gnil))))))) ow Tryz.f68 [.agg [.list 94 ty94 p0,.list 98 ty98 p1,.list 103 ty103 p2],.agg [.list 3 ty3 p3,.list 3 ty3 p4],.c (.list 150 ty150 p5)] [] k n=T68 B c116 c117 c119 c118 c120 c121 c122 p0 p1 p2 p3 p4 p5 (fun s=>aloop tau B gl0 X68 (ent 116 (e116 c116) (ent 117 (e117 c117) (ent 119 (e119 c119) (ent 118 (e118 c118) (ent 120 (e120 c120) (ent 121 (e121 c121) (ent 122 (e122 c122) gnil))))))) ow [] Tryz.f68 k (I68 s) (E68 p0 p1 p2 p3 p4 p5 s) n) (K1 k) none:=by kernel_rfl
theorem el68 {R:Type} (B:Ops) (c116:C116) (c117:C117) (c119:C119) (c118:C118) (c120:C120) (c121:C121) (c122:C122) (p0:L94) (p1:L98) (p2:L103) (p3:L3) (p4:L3) (p5:L150) (k:AV→Objs→Option R) (n:Nat):∀ s,aloop tau B gl0 X68 (ent 116 (e116 c116) (ent 117 (e117 c117) (ent 119 (e119 c119) (ent 118 (e118 c118) (ent 120 (e120 c120) (ent 121 (e121 c121) (ent 122 (e122 c122) gnil))))))) ow [] Tryz.f68 k (I68 s) (E68 p0 p1 p2 p3 p4 p5 s) (n+1)=T68 B c116 c117 c119 c118 c120 c121 c122 p0 p1 p2 p3 p4 p5 (fun s=>aloop tau B gl0 X68 (ent 116 (e116 c116) (ent 117 (e117 c117) (ent 119 (e119 c119) (ent 118 (e118 c118) (ent 120 (e120 c120) (ent 121 (e121 c121) (ent 122 (e122 c122) gnil))))))) ow [] Tryz.f68 k (I68 s) (E68 p0 p1 p2 p3 p4 p5 s) n) (K1 k) (some s):=by
 intro s
 cases s<;>kernel_rfl
theorem nt68 {R R':Type} (B:Ops) (c116:C116) (c117:C117) (c119:C119) (c118:C118) (c120:C120) (c121:C121) (c122:C122) (p0:L94) (p1:L98) (p2:L103) (p3:L3) (p4:L3) (p5:L150) (again:S68→Option R) (again':S68→Option R') (k0:(Int)→Option R') (k:R'→Option R) (h:∀ s,again s=ob (again' s) k):∀ s,T68 B c116 c117 c119 c118 c120 c121 c122 p0 p1 p2 p3 p4 p5 again (fun y=>ob (k0 y) k) s=ob (T68 B c116 c117 c119 c118 c120 c121 c122 p0 p1 p2 p3 p4 p5 again' k0 s) k:=by
 rintro (_ | x)
 all_goals try cases x
 all_goals (unfold T68;repeat' first | exact rfl | exact h _ | apply qaf | (apply qao;intro))
def R68 (c116:C116) (c117:C117) (c119:C119) (c118:C118) (c120:C120) (c121:C121) (c122:C122) (p0:L94) (p1:L98) (p2:L103) (p3:L3) (p4:L3) (p5:L150):Nat→S68→Option (Int)
 | 0,_=>none
 | n+1,s=>T68 Ops.std c116 c117 c119 c118 c120 c121 c122 p0 p1 p2 p3 p4 p5 (R68 c116 c117 c119 c118 c120 c121 c122 p0 p1 p2 p3 p4 p5 n) some (some s)
theorem rr68 {R:Type} (c116:C116) (c117:C117) (c119:C119) (c118:C118) (c120:C120) (c121:C121) (c122:C122) (p0:L94) (p1:L98) (p2:L103) (p3:L3) (p4:L3) (p5:L150) (k:AV→Objs→Option R):∀ (n:Nat) (s:S68),aloop tau Ops.std gl0 X68 (ent 116 (e116 c116) (ent 117 (e117 c117) (ent 119 (e119 c119) (ent 118 (e118 c118) (ent 120 (e120 c120) (ent 121 (e121 c121) (ent 122 (e122 c122) gnil))))))) ow [] Tryz.f68 k (I68 s) (E68 p0 p1 p2 p3 p4 p5 s) n=ob (R68 c116 c117 c119 c118 c120 c121 c122 p0 p1 p2 p3 p4 p5 n s) (K1 k)
 | 0,s=>by cases s<;>rfl
 | n+1,s=>by rw [el68];exact nt68 Ops.std c116 c117 c119 c118 c120 c121 c122 p0 p1 p2 p3 p4 p5 _ _ some (K1 k) (rr68 c116 c117 c119 c118 c120 c121 c122 p0 p1 p2 p3 p4 p5 k n) (some s)
def F68 (c116:C116) (c117:C117) (c119:C119) (c118:C118) (c120:C120) (c121:C121) (c122:C122) (p0:L94) (p1:L98) (p2:L103) (p3:L3) (p4:L3) (p5:L150):Option (Int):=T68 Ops.std c116 c117 c119 c118 c120 c121 c122 p0 p1 p2 p3 p4 p5 (R68 c116 c117 c119 c118 c120 c121 c122 p0 p1 p2 p3 p4 p5 1000000) some none
def e68 {R:Type} (c:L94→L98→L103→L3→L3→L150→Option (Int)):Ent R:=fun args objs k=>
 oCons args fun a0 l0=>oAgg a0 fun x0=>cCons x0 fun z0_0 w0_0=>cList 94 ty94 z0_0 fun p0=>cCons w0_0 fun z0_1 w0_1=>cList 98 ty98 z0_1 fun p1=>cCons w0_1 fun z0_2 w0_2=>cList 103 ty103 z0_2 fun p2=>cNil w0_2 <| oCons l0 fun a1 l1=>oAgg a1 fun x1=>cCons x1 fun z1_0 w1_0=>cList 3 ty3 z1_0 fun p3=>cCons w1_0 fun z1_1 w1_1=>cList 3 ty3 z1_1 fun p4=>cNil w1_1 <| oL l1 150 ty150 fun p5 l2=>oE l2 objs <| ob (c p0 p1 p2 p3 p4 p5) (K1 k)
abbrev Sp68 (c:L94→L98→L103→L3→L3→L150→Option (Int)):Prop:=∀ (p0:L94) (p1:L98) (p2:L103) (p3:L3) (p4:L3) (p5:L150) (y:Int),c p0 p1 p2 p3 p4 p5=some y→Spec Tryz.prog gl0 68 [.agg [.list 94 ty94 p0,.list 98 ty98 p1,.list 103 ty103 p2],.agg [.list 3 ty3 p3,.list 3 ty3 p4],.c (.list 150 ty150 p5)] [] (.c (.int .i64 y)) []
theorem ek68 {R:Type} {c:L94→L98→L103→L3→L3→L150→Option (Int)} (hs:Sp68 c):EOk 68 (e68 (R:=R) c):=fun args objs k r h=>by
 unfold e68 at h
 obtain ⟨a0,l0,rfl,q1⟩:=qai h
 obtain ⟨x0,rfl,q2⟩:=qas q1
 obtain ⟨z0_0,w0_0,rfl,q3⟩:=qaa q2
 obtain ⟨p0,rfl,q4⟩:=qac q3
 obtain ⟨z0_1,w0_1,rfl,q5⟩:=qaa q4
 obtain ⟨p1,rfl,q6⟩:=qac q5
 obtain ⟨z0_2,w0_2,rfl,q7⟩:=qaa q6
 obtain ⟨p2,rfl,q8⟩:=qac q7
 obtain ⟨rfl,q9⟩:=qam q8
 obtain ⟨a1,l1,rfl,q10⟩:=qai q9
 obtain ⟨x1,rfl,q11⟩:=qas q10
 obtain ⟨z1_0,w1_0,rfl,q12⟩:=qaa q11
 obtain ⟨p3,rfl,q13⟩:=qac q12
 obtain ⟨z1_1,w1_1,rfl,q14⟩:=qaa q13
 obtain ⟨p4,rfl,q15⟩:=qac q14
 obtain ⟨rfl,q16⟩:=qam q15
 obtain ⟨p5,l2,rfl,q19⟩:=qaw q16
 obtain ⟨rfl,rfl,q21⟩:=qan q19
 exact qap (hs p0 p1 p2 p3 p4 p5) q21
theorem sf68 {c116:C116} {c117:C117} {c119:C119} {c118:C118} {c120:C120} {c121:C121} {c122:C122} (h116:Sp116 c116) (h117:Sp117 c117) (h119:Sp119 c119) (h118:Sp118 c118) (h120:Sp120 c120) (h121:Sp121 c121) (h122:Sp122 c122):Sp68 (F68 c116 c117 c119 c118 c120 c121 c122):=fun p0 p1 p2 p3 p4 p5 y hy=>by
 refine qak (qae (ek116 h116) (qae (ek117 h117) (qae (ek119 h119) (qae (ek118 h118) (qae (ek120 h120) (qae (ek121 h121) (qae (ek122 h122) qaj))))))) 1000000 (fn:=Tryz.f68) (by kernel_rfl) (by kernel_rfl) (X:=X68) (by kernel_rfl) ?_
 rw [eq68]
 exact (nt68 Ops.std c116 c117 c119 c118 c120 c121 c122 p0 p1 p2 p3 p4 p5 _ _ some (K1 k0) (rr68 c116 c117 c119 c118 c120 c121 c122 p0 p1 p2 p3 p4 p5 k0 1000000) none).trans (by show ob (F68 c116 c117 c119 c118 c120 c121 c122 p0 p1 p2 p3 p4 p5) _=_;rw [hy];rfl)
noncomputable def M68:L94→L98→L103→L3→L3→L150→Option (Int):=F68 M116 M117 M119 M118 M120 M121 M122
theorem sm68:Sp68 M68:=sf68 sm116 sm117 sm119 sm118 sm120 sm121 sm122
def X65:Aux:=⟨[],[]⟩
def T65 {R:Type} (B:Ops) (p0:L68) (p1:L68) (p2:Int) (k:(L3×L3×L3)→Option R):Option R:=cond (B.lt p2 (↑p0.length)) (cond (B.inb p2 p0.length) (k ((((p0.getD p2.toNat ty68.dflt).1).1,((p0.getD p2.toNat ty68.dflt).1).2,(p0.getD p2.toNat ty68.dflt).2))) none) (cond (B.inb (IntKind.wrap .i64 (p2-Nat.cast p0.length)) p1.length) (k ((((p1.getD (Int.toNat (IntKind.wrap .i64 (p2-Nat.cast p0.length))) ty68.dflt).1).1,((p1.getD (Int.toNat (IntKind.wrap .i64 (p2-Nat.cast p0.length))) ty68.dflt).1).2,(p1.getD (Int.toNat (IntKind.wrap .i64 (p2-Nat.cast p0.length))) ty68.dflt).2))) none)
abbrev K9 {R:Type} (k:AV→Objs→Option R) (y:(L3×L3×L3)):Option R:=k (.agg [.list 3 ty3 y.1,.list 3 ty3 y.2.1,.list 3 ty3 y.2.2]) []
theorem eq65 {R:Type} (B:Ops) (p0:L68) (p1:L68) (p2:Int) (k:AV→Objs→Option R) (n:Nat):afun tau B gl0 X65 gnil ow Tryz.f65 [.agg [.list 68 ty68 p0,.list 68 ty68 p1],.c (.int .i64 p2)] [] k n=T65 B p0 p1 p2 (K9 k):=by kernel_rfl
theorem nt65 {R R':Type} (B:Ops) (p0:L68) (p1:L68) (p2:Int) (k0:(L3×L3×L3)→Option R') (k:R'→Option R):T65 B p0 p1 p2 (fun y=>ob (k0 y) k)=ob (T65 B p0 p1 p2 k0) k:=by
 unfold T65
 repeat' first | exact rfl | apply qaf | (apply qao;intro)
def F65 (p0:L68) (p1:L68) (p2:Int):Option (L3×L3×L3):=T65 Ops.std p0 p1 p2 some
def e65 {R:Type} (c:L68→L68→Int→Option (L3×L3×L3)):Ent R:=fun args objs k=>
 oCons args fun a0 l0=>oAgg a0 fun x0=>cCons x0 fun z0_0 w0_0=>cList 68 ty68 z0_0 fun p0=>cCons w0_0 fun z0_1 w0_1=>cList 68 ty68 z0_1 fun p1=>cNil w0_1 <| oI l0 .i64 fun p2 l1=>oE l1 objs <| ob (c p0 p1 p2) (K9 k)
abbrev Sp65 (c:L68→L68→Int→Option (L3×L3×L3)):Prop:=∀ (p0:L68) (p1:L68) (p2:Int) (y:L3×L3×L3),c p0 p1 p2=some y→Spec Tryz.prog gl0 65 [.agg [.list 68 ty68 p0,.list 68 ty68 p1],.c (.int .i64 p2)] [] (.agg [.list 3 ty3 y.1,.list 3 ty3 y.2.1,.list 3 ty3 y.2.2]) []
theorem ek65 {R:Type} {c:L68→L68→Int→Option (L3×L3×L3)} (hs:Sp65 c):EOk 65 (e65 (R:=R) c):=fun args objs k r h=>by
 unfold e65 at h
 obtain ⟨a0,l0,rfl,q1⟩:=qai h
 obtain ⟨x0,rfl,q2⟩:=qas q1
 obtain ⟨z0_0,w0_0,rfl,q3⟩:=qaa q2
 obtain ⟨p0,rfl,q4⟩:=qac q3
 obtain ⟨z0_1,w0_1,rfl,q5⟩:=qaa q4
 obtain ⟨p1,rfl,q6⟩:=qac q5
 obtain ⟨rfl,q7⟩:=qam q6
 obtain ⟨p2,l1,rfl,q10⟩:=qau q7
 obtain ⟨rfl,rfl,q12⟩:=qan q10
 exact qap (hs p0 p1 p2) q12
theorem sf65:Sp65 (F65):=fun p0 p1 p2 y hy=>by
 refine qak qaj 1000000 (fn:=Tryz.f65) (by kernel_rfl) (by kernel_rfl) (X:=X65) (by kernel_rfl) ?_
 rw [eq65]
 exact (nt65 Ops.std p0 p1 p2 some (K9 k0)).trans (by show ob (F65 p0 p1 p2) _=_;rw [hy];rfl)
noncomputable def M65:L68→L68→Int→Option (L3×L3×L3):=F65
theorem sm65:Sp65 M65:=sf65
def X115:Aux:=⟨[],[]⟩
def T115 {R:Type} (B:Ops) (c116:C116) (p0:Int) (p1:L150) (p2:L94) (p3:L98) (p4:L103) (k:(Bool×L94×L98×L103)→Option R):Option R:=cond (B.eq p0 (3)) (ob (c116 p2 p3 p4 p1) fun y0=>k ((!y0,p2,p3,p4))) (k ((false,p2,p3,p4)))
abbrev K10 {R:Type} (k:AV→Objs→Option R) (y:(Bool×L94×L98×L103)):Option R:=k (.c (.bool y.1)) [(1,.box 31 [.list 94 ty94 y.2.1,.list 98 ty98 y.2.2.1,.list 103 ty103 y.2.2.2])]
theorem eq115 {R:Type} (B:Ops) (c116:C116) (p0:Int) (p1:L150) (p2:L94) (p3:L98) (p4:L103) (k:AV→Objs→Option R) (n:Nat):afun tau B gl0 X115 (ent 116 (e116 c116) gnil) ow Tryz.f115 [.agg [.int .i64 p0,.list 150 ty150 p1],.c (.ptr 1 0)] [(1,.box 31 [.list 94 ty94 p2,.list 98 ty98 p3,.list 103 ty103 p4])] k n=T115 B c116 p0 p1 p2 p3 p4 (K10 k):=by kernel_rfl
theorem nt115 {R R':Type} (B:Ops) (c116:C116) (p0:Int) (p1:L150) (p2:L94) (p3:L98) (p4:L103) (k0:(Bool×L94×L98×L103)→Option R') (k:R'→Option R):T115 B c116 p0 p1 p2 p3 p4 (fun y=>ob (k0 y) k)=ob (T115 B c116 p0 p1 p2 p3 p4 k0) k:=by
 unfold T115
 repeat' first | exact rfl | apply qaf | (apply qao;intro)
def F115 (c116:C116) (p0:Int) (p1:L150) (p2:L94) (p3:L98) (p4:L103):Option (Bool×L94×L98×L103):=T115 Ops.std c116 p0 p1 p2 p3 p4 some
def e115 {R:Type} (c:Int→L150→L94→L98→L103→Option (Bool×L94×L98×L103)):Ent R:=fun args objs k=>
 oCons args fun a0 l0=>oAgg a0 fun x0=>cCons x0 fun z0_0 w0_0=>cInt .i64 z0_0 fun p0=>cCons w0_0 fun z0_1 w0_1=>cList 150 ty150 z0_1 fun p1=>cNil w0_1 <| oCons l0 fun a1 l1=>oC a1 fun x1=>cPtr 1 x1 <| oNil l1 <| oBox 1 31 objs fun b0 o0=>cCons b0 fun u0_0 v0=>cList 94 ty94 u0_0 fun p2=>cCons v0 fun u0_1 v1=>cList 98 ty98 u0_1 fun p3=>cCons v1 fun u0_2 v2=>cList 103 ty103 u0_2 fun p4=>cNil v2 <| oNilO o0 <| ob (c p0 p1 p2 p3 p4) (K10 k)
abbrev Sp115 (c:Int→L150→L94→L98→L103→Option (Bool×L94×L98×L103)):Prop:=∀ (p0:Int) (p1:L150) (p2:L94) (p3:L98) (p4:L103) (y:Bool×L94×L98×L103),c p0 p1 p2 p3 p4=some y→Spec Tryz.prog gl0 115 [.agg [.int .i64 p0,.list 150 ty150 p1],.c (.ptr 1 0)] [(1,.box 31 [.list 94 ty94 p2,.list 98 ty98 p3,.list 103 ty103 p4])] (.c (.bool y.1)) [(1,.box 31 [.list 94 ty94 y.2.1,.list 98 ty98 y.2.2.1,.list 103 ty103 y.2.2.2])]
theorem ek115 {R:Type} {c:Int→L150→L94→L98→L103→Option (Bool×L94×L98×L103)} (hs:Sp115 c):EOk 115 (e115 (R:=R) c):=fun args objs k r h=>by
 unfold e115 at h
 obtain ⟨a0,l0,rfl,q1⟩:=qai h
 obtain ⟨x0,rfl,q2⟩:=qas q1
 obtain ⟨z0_0,w0_0,rfl,q3⟩:=qaa q2
 obtain ⟨p0,rfl,q4⟩:=qar q3
 obtain ⟨z0_1,w0_1,rfl,q5⟩:=qaa q4
 obtain ⟨p1,rfl,q6⟩:=qac q5
 obtain ⟨rfl,q7⟩:=qam q6
 obtain ⟨a1,l1,rfl,q8⟩:=qai q7
 obtain ⟨x1,rfl,q9⟩:=qa6 q8
 obtain ⟨rfl,q10⟩:=qa1 q9
 obtain ⟨rfl,q11⟩:=qay q10
 obtain ⟨b0,o0,rfl,q12⟩:=qa2 q11
 obtain ⟨u0_0,v0,rfl,q13⟩:=qaa q12
 obtain ⟨p2,rfl,q14⟩:=qac q13
 obtain ⟨u0_1,v1,rfl,q15⟩:=qaa q14
 obtain ⟨p3,rfl,q16⟩:=qac q15
 obtain ⟨u0_2,v2,rfl,q17⟩:=qaa q16
 obtain ⟨p4,rfl,q18⟩:=qac q17
 obtain ⟨rfl,q19⟩:=qam q18
 obtain ⟨rfl,q20⟩:=qax q19
 exact qap (hs p0 p1 p2 p3 p4) q20
theorem sf115 {c116:C116} (h116:Sp116 c116):Sp115 (F115 c116):=fun p0 p1 p2 p3 p4 y hy=>by
 refine qak (qae (ek116 h116) qaj) 1000000 (fn:=Tryz.f115) (by kernel_rfl) (by kernel_rfl) (X:=X115) (by kernel_rfl) ?_
 rw [eq115]
 exact (nt115 Ops.std c116 p0 p1 p2 p3 p4 some (K10 k0)).trans (by show ob (F115 c116 p0 p1 p2 p3 p4) _=_;rw [hy];rfl)
noncomputable def M115:Int→L150→L94→L98→L103→Option (Bool×L94×L98×L103):=F115 M116
theorem sm115:Sp115 M115:=sf115 sm116
def X162:Aux:=⟨[(2,([2,3,4,5,6]++rg 9 10))],[]⟩
inductive S162 where
 | l0 (v1:Int) (v2:Int) (v3:L94) (v4:L98) (v5:L103)
abbrev C115:Type:=Int→L150→L94→L98→L103→Option (Bool×L94×L98×L103)
def T162 {R:Type} (B:Ops) (c115:C115) (p0:L66) (p1:L94) (p2:L98) (p3:L103) (again:S162→Option R) (k:(Int×L94×L98×L103)→Option R):Option S162→Option R | none=>again (.l0 (↑p0.length) 0 p1 p2 p3) | some (.l0 v1 v2 v3 v4 v5)=>cond (B.lt v2 v1) (cond (B.inb v2 p0.length) (ob (c115 ((p0.getD v2.toNat ty66.dflt).1) ((p0.getD v2.toNat ty66.dflt).2) v3 v4 v5) fun y0=>cond y0.1 (k ((v2,y0.2.1,(y0.2.2).1,(y0.2.2).2))) (again (.l0 v1 (IntKind.wrap .i64 (v2+1)) y0.2.1 ((y0.2.2).1) ((y0.2.2).2)))) none) (k ((-1,v3,v4,v5)))
def E162 (p0:L66) (p1:L94) (p2:L98) (p3:L103):S162→List AV×Objs
 | .l0 v1 v2 v3 v4 v5=>(mk 19 [(0,.c (.list 66 ty66 p0)),(1,.fn 115 [.ptr 2500 0]),(7,.c (.int .i64 v1)),(8,.c (.int .i64 v2))],[(2500,.box 31 [.list 94 ty94 v3,.list 98 ty98 v4,.list 103 ty103 v5])])
def I162:S162→Nat
 | .l0 _ _ _ _ _=>0
abbrev K11 {R:Type} (k:AV→Objs→Option R) (y:(Int×L94×L98×L103)):Option R:=k (.c (.int .i64 y.1)) [(2500,.box 31 [.list 94 ty94 y.2.1,.list 98 ty98 y.2.2.1,.list 103 ty103 y.2.2.2])]
theorem eq162 {R:Type} (B:Ops) (c115:C115) (p0:L66) (p1:L94) (p2:L98) (p3:L103) (k:AV→Objs→Option R) (n:Nat):afun tau B gl0 X162 (ent 115 (e115 c115) gnil) ow Tryz.f162 [.c (.list 66 ty66 p0),.fn 115 [.ptr 2500 0]] [(2500,.box 31 [.list 94 ty94 p1,.list 98 ty98 p2,.list 103 ty103 p3])] k n=T162 B c115 p0 p1 p2 p3 (fun s=>aloop tau B gl0 X162 (ent 115 (e115 c115) gnil) ow [2500] Tryz.f162 k (I162 s) (E162 p0 p1 p2 p3 s) n) (K11 k) none:=by kernel_rfl
theorem el162 {R:Type} (B:Ops) (c115:C115) (p0:L66) (p1:L94) (p2:L98) (p3:L103) (k:AV→Objs→Option R) (n:Nat):∀ s,aloop tau B gl0 X162 (ent 115 (e115 c115) gnil) ow [2500] Tryz.f162 k (I162 s) (E162 p0 p1 p2 p3 s) (n+1)=T162 B c115 p0 p1 p2 p3 (fun s=>aloop tau B gl0 X162 (ent 115 (e115 c115) gnil) ow [2500] Tryz.f162 k (I162 s) (E162 p0 p1 p2 p3 s) n) (K11 k) (some s):=by
 intro s
 cases s<;>kernel_rfl
theorem nt162 {R R':Type} (B:Ops) (c115:C115) (p0:L66) (p1:L94) (p2:L98) (p3:L103) (again:S162→Option R) (again':S162→Option R') (k0:(Int×L94×L98×L103)→Option R') (k:R'→Option R) (h:∀ s,again s=ob (again' s) k):∀ s,T162 B c115 p0 p1 p2 p3 again (fun y=>ob (k0 y) k) s=ob (T162 B c115 p0 p1 p2 p3 again' k0 s) k:=by
 rintro (_ | x)
 all_goals try cases x
 all_goals (unfold T162;repeat' first | exact rfl | exact h _ | apply qaf | (apply qao;intro))
def R162 (c115:C115) (p0:L66) (p1:L94) (p2:L98) (p3:L103):Nat→S162→Option (Int×L94×L98×L103)
 | 0,_=>none
 | n+1,s=>T162 Ops.std c115 p0 p1 p2 p3 (R162 c115 p0 p1 p2 p3 n) some (some s)
theorem rr162 {R:Type} (c115:C115) (p0:L66) (p1:L94) (p2:L98) (p3:L103) (k:AV→Objs→Option R):∀ (n:Nat) (s:S162),aloop tau Ops.std gl0 X162 (ent 115 (e115 c115) gnil) ow [2500] Tryz.f162 k (I162 s) (E162 p0 p1 p2 p3 s) n=ob (R162 c115 p0 p1 p2 p3 n s) (K11 k)
 | 0,s=>by cases s<;>rfl
 | n+1,s=>by rw [el162];exact nt162 Ops.std c115 p0 p1 p2 p3 _ _ some (K11 k) (rr162 c115 p0 p1 p2 p3 k n) (some s)
def F162 (c115:C115) (p0:L66) (p1:L94) (p2:L98) (p3:L103):Option (Int×L94×L98×L103):=T162 Ops.std c115 p0 p1 p2 p3 (R162 c115 p0 p1 p2 p3 1000000) some none
def e162 {R:Type} (c:L66→L94→L98→L103→Option (Int×L94×L98×L103)):Ent R:=fun args objs k=>
 oL args 66 ty66 fun p0 l0=>oCons l0 fun a1 l1=>oFnC 115 a1 fun x1=>cCons x1 fun z1_0 w1_0=>cPtr 2500 z1_0 <| cNil w1_0 <| oNil l1 <| oBox 2500 31 objs fun b0 o0=>cCons b0 fun u0_0 v0=>cList 94 ty94 u0_0 fun p1=>cCons v0 fun u0_1 v1=>cList 98 ty98 u0_1 fun p2=>cCons v1 fun u0_2 v2=>cList 103 ty103 u0_2 fun p3=>cNil v2 <| oNilO o0 <| ob (c p0 p1 p2 p3) (K11 k)
abbrev Sp162 (c:L66→L94→L98→L103→Option (Int×L94×L98×L103)):Prop:=∀ (p0:L66) (p1:L94) (p2:L98) (p3:L103) (y:Int×L94×L98×L103),c p0 p1 p2 p3=some y→Spec Tryz.prog gl0 162 [.c (.list 66 ty66 p0),.fn 115 [.ptr 2500 0]] [(2500,.box 31 [.list 94 ty94 p1,.list 98 ty98 p2,.list 103 ty103 p3])] (.c (.int .i64 y.1)) [(2500,.box 31 [.list 94 ty94 y.2.1,.list 98 ty98 y.2.2.1,.list 103 ty103 y.2.2.2])]
theorem ek162 {R:Type} {c:L66→L94→L98→L103→Option (Int×L94×L98×L103)} (hs:Sp162 c):EOk 162 (e162 (R:=R) c):=fun args objs k r h=>by
 unfold e162 at h
 obtain ⟨p0,l0,rfl,q3⟩:=qaw h
 obtain ⟨a1,l1,rfl,q4⟩:=qai q3
 obtain ⟨x1,rfl,q5⟩:=qdh q4
 obtain ⟨z1_0,w1_0,rfl,q6⟩:=qaa q5
 obtain ⟨rfl,q7⟩:=qa1 q6
 obtain ⟨rfl,q8⟩:=qam q7
 obtain ⟨rfl,q9⟩:=qay q8
 obtain ⟨b0,o0,rfl,q10⟩:=qa2 q9
 obtain ⟨u0_0,v0,rfl,q11⟩:=qaa q10
 obtain ⟨p1,rfl,q12⟩:=qac q11
 obtain ⟨u0_1,v1,rfl,q13⟩:=qaa q12
 obtain ⟨p2,rfl,q14⟩:=qac q13
 obtain ⟨u0_2,v2,rfl,q15⟩:=qaa q14
 obtain ⟨p3,rfl,q16⟩:=qac q15
 obtain ⟨rfl,q17⟩:=qam q16
 obtain ⟨rfl,q18⟩:=qax q17
 exact qap (hs p0 p1 p2 p3) q18
theorem sf162 {c115:C115} (h115:Sp115 c115):Sp162 (F162 c115):=fun p0 p1 p2 p3 y hy=>by
 refine qak (qae (ek115 h115) qaj) 1000000 (fn:=Tryz.f162) (by kernel_rfl) (by kernel_rfl) (X:=X162) (by kernel_rfl) ?_
 rw [eq162]
 exact (nt162 Ops.std c115 p0 p1 p2 p3 _ _ some (K11 k0) (rr162 c115 p0 p1 p2 p3 k0 1000000) none).trans (by show ob (F162 c115 p0 p1 p2 p3) _=_;rw [hy];rfl)
noncomputable def M162:L66→L94→L98→L103→Option (Int×L94×L98×L103):=F162 M115
theorem sm162:Sp162 M162:=sf162 sm115
def X114:Aux:=⟨[],[]⟩
abbrev C162:Type:=L66→L94→L98→L103→Option (Int×L94×L98×L103)
def T114 {R:Type} (B:Ops) (c162:C162) (c115:C115) (p0:L66) (p1:L94) (p2:L98) (p3:L103) (k:(Bool×L94×L98×L103)→Option R):Option R:=ob (c162 p0 p1 p2 p3) fun y0=>k ((B.le (0) y0.1,y0.2.1,(y0.2.2).1,(y0.2.2).2))
abbrev K12 {R:Type} (k:AV→Objs→Option R) (y:(Bool×L94×L98×L103)):Option R:=k (.c (.bool y.1)) [(2500,.box 31 [.list 94 ty94 y.2.1,.list 98 ty98 y.2.2.1,.list 103 ty103 y.2.2.2])]
theorem eq114 {R:Type} (B:Ops) (c162:C162) (c115:C115) (p0:L66) (p1:L94) (p2:L98) (p3:L103) (k:AV→Objs→Option R) (n:Nat):afun tau B gl0 X114 (ent 162 (e162 c162) (ent 115 (e115 c115) gnil)) ow Tryz.f114 [.c (.list 66 ty66 p0),.fn 115 [.ptr 2500 0]] [(2500,.box 31 [.list 94 ty94 p1,.list 98 ty98 p2,.list 103 ty103 p3])] k n=T114 B c162 c115 p0 p1 p2 p3 (K12 k):=by kernel_rfl
theorem nt114 {R R':Type} (B:Ops) (c162:C162) (c115:C115) (p0:L66) (p1:L94) (p2:L98) (p3:L103) (k0:(Bool×L94×L98×L103)→Option R') (k:R'→Option R):T114 B c162 c115 p0 p1 p2 p3 (fun y=>ob (k0 y) k)=ob (T114 B c162 c115 p0 p1 p2 p3 k0) k:=by
 unfold T114
 repeat' first | exact rfl | apply qaf | (apply qao;intro)
def F114 (c162:C162) (c115:C115) (p0:L66) (p1:L94) (p2:L98) (p3:L103):Option (Bool×L94×L98×L103):=T114 Ops.std c162 c115 p0 p1 p2 p3 some
def e114 {R:Type} (c:L66→L94→L98→L103→Option (Bool×L94×L98×L103)):Ent R:=fun args objs k=>
 oL args 66 ty66 fun p0 l0=>oCons l0 fun a1 l1=>oFnC 115 a1 fun x1=>cCons x1 fun z1_0 w1_0=>cPtr 2500 z1_0 <| cNil w1_0 <| oNil l1 <| oBox 2500 31 objs fun b0 o0=>cCons b0 fun u0_0 v0=>cList 94 ty94 u0_0 fun p1=>cCons v0 fun u0_1 v1=>cList 98 ty98 u0_1 fun p2=>cCons v1 fun u0_2 v2=>cList 103 ty103 u0_2 fun p3=>cNil v2 <| oNilO o0 <| ob (c p0 p1 p2 p3) (K12 k)
abbrev Sp114 (c:L66→L94→L98→L103→Option (Bool×L94×L98×L103)):Prop:=∀ (p0:L66) (p1:L94) (p2:L98) (p3:L103) (y:Bool×L94×L98×L103),c p0 p1 p2 p3=some y→Spec Tryz.prog gl0 114 [.c (.list 66 ty66 p0),.fn 115 [.ptr 2500 0]] [(2500,.box 31 [.list 94 ty94 p1,.list 98 ty98 p2,.list 103 ty103 p3])] (.c (.bool y.1)) [(2500,.box 31 [.list 94 ty94 y.2.1,.list 98 ty98 y.2.2.1,.list 103 ty103 y.2.2.2])]
theorem ek114 {R:Type} {c:L66→L94→L98→L103→Option (Bool×L94×L98×L103)} (hs:Sp114 c):EOk 114 (e114 (R:=R) c):=fun args objs k r h=>by
 unfold e114 at h
 obtain ⟨p0,l0,rfl,q3⟩:=qaw h
 obtain ⟨a1,l1,rfl,q4⟩:=qai q3
 obtain ⟨x1,rfl,q5⟩:=qdh q4
 obtain ⟨z1_0,w1_0,rfl,q6⟩:=qaa q5
 obtain ⟨rfl,q7⟩:=qa1 q6
 obtain ⟨rfl,q8⟩:=qam q7
 obtain ⟨rfl,q9⟩:=qay q8
 obtain ⟨b0,o0,rfl,q10⟩:=qa2 q9
 obtain ⟨u0_0,v0,rfl,q11⟩:=qaa q10
 obtain ⟨p1,rfl,q12⟩:=qac q11
 obtain ⟨u0_1,v1,rfl,q13⟩:=qaa q12
 obtain ⟨p2,rfl,q14⟩:=qac q13
 obtain ⟨u0_2,v2,rfl,q15⟩:=qaa q14
 obtain ⟨p3,rfl,q16⟩:=qac q15
 obtain ⟨rfl,q17⟩:=qam q16
 obtain ⟨rfl,q18⟩:=qax q17
 exact qap (hs p0 p1 p2 p3) q18
theorem sf114 {c162:C162} {c115:C115} (h162:Sp162 c162) (h115:Sp115 c115):Sp114 (F114 c162 c115):=fun p0 p1 p2 p3 y hy=>by
 refine qak (qae (ek162 h162) (qae (ek115 h115) qaj)) 1000000 (fn:=Tryz.f114) (by kernel_rfl) (by kernel_rfl) (X:=X114) (by kernel_rfl) ?_
 rw [eq114]
 exact (nt114 Ops.std c162 c115 p0 p1 p2 p3 some (K12 k0)).trans (by show ob (F114 c162 c115 p0 p1 p2 p3) _=_;rw [hy];rfl)
noncomputable def M114:L66→L94→L98→L103→Option (Bool×L94×L98×L103):=F114 M162 M115
theorem sm114:Sp114 M114:=sf114 sm162 sm115
def X67:Aux:=⟨[],[]⟩
abbrev C114:Type:=L66→L94→L98→L103→Option (Bool×L94×L98×L103)
def T67 {R:Type} (B:Ops) (c115:C115) (c114:C114) (c95:C95) (p0:L94) (p1:L98) (p2:L103) (p3:L66) (k:(Bool)→Option R):Option R:=ob (c114 p3 p0 p1 p2) fun y0=>ob (c95 p3) fun y1=>cond (y1) (k (!y0.1)) (k false)
theorem eq67 {R:Type} (B:Ops) (c115:C115) (c114:C114) (c95:C95) (p0:L94) (p1:L98) (p2:L103) (p3:L66) (k:AV→Objs→Option R) (n:Nat):afun tau B gl0 X67 (ent 115 (e115 c115) (ent 114 (e114 c114) (ent 95 (e95 c95) gnil))) ow Tryz.f67 [.agg [.list 94 ty94 p0,.list 98 ty98 p1,.list 103 ty103 p2],.c (.list 66 ty66 p3)] [] k n=T67 B c115 c114 c95 p0 p1 p2 p3 (K2 k):=by kernel_rfl
theorem nt67 {R R':Type} (B:Ops) (c115:C115) (c114:C114) (c95:C95) (p0:L94) (p1:L98) (p2:L103) (p3:L66) (k0:(Bool)→Option R') (k:R'→Option R):T67 B c115 c114 c95 p0 p1 p2 p3 (fun y=>ob (k0 y) k)=ob (T67 B c115 c114 c95 p0 p1 p2 p3 k0) k:=by
 unfold T67
 repeat' first | exact rfl | apply qaf | (apply qao;intro)
def F67 (c115:C115) (c114:C114) (c95:C95) (p0:L94) (p1:L98) (p2:L103) (p3:L66):Option (Bool):=T67 Ops.std c115 c114 c95 p0 p1 p2 p3 some
def e67 {R:Type} (c:L94→L98→L103→L66→Option (Bool)):Ent R:=fun args objs k=>
 oCons args fun a0 l0=>oAgg a0 fun x0=>cCons x0 fun z0_0 w0_0=>cList 94 ty94 z0_0 fun p0=>cCons w0_0 fun z0_1 w0_1=>cList 98 ty98 z0_1 fun p1=>cCons w0_1 fun z0_2 w0_2=>cList 103 ty103 z0_2 fun p2=>cNil w0_2 <| oL l0 66 ty66 fun p3 l1=>oE l1 objs <| ob (c p0 p1 p2 p3) (K2 k)
abbrev Sp67 (c:L94→L98→L103→L66→Option (Bool)):Prop:=∀ (p0:L94) (p1:L98) (p2:L103) (p3:L66) (y:Bool),c p0 p1 p2 p3=some y→Spec Tryz.prog gl0 67 [.agg [.list 94 ty94 p0,.list 98 ty98 p1,.list 103 ty103 p2],.c (.list 66 ty66 p3)] [] (.c (.bool y)) []
theorem ek67 {R:Type} {c:L94→L98→L103→L66→Option (Bool)} (hs:Sp67 c):EOk 67 (e67 (R:=R) c):=fun args objs k r h=>by
 unfold e67 at h
 obtain ⟨a0,l0,rfl,q1⟩:=qai h
 obtain ⟨x0,rfl,q2⟩:=qas q1
 obtain ⟨z0_0,w0_0,rfl,q3⟩:=qaa q2
 obtain ⟨p0,rfl,q4⟩:=qac q3
 obtain ⟨z0_1,w0_1,rfl,q5⟩:=qaa q4
 obtain ⟨p1,rfl,q6⟩:=qac q5
 obtain ⟨z0_2,w0_2,rfl,q7⟩:=qaa q6
 obtain ⟨p2,rfl,q8⟩:=qac q7
 obtain ⟨rfl,q9⟩:=qam q8
 obtain ⟨p3,l1,rfl,q12⟩:=qaw q9
 obtain ⟨rfl,rfl,q14⟩:=qan q12
 exact qap (hs p0 p1 p2 p3) q14
theorem sf67 {c115:C115} {c114:C114} {c95:C95} (h115:Sp115 c115) (h114:Sp114 c114) (h95:Sp95 c95):Sp67 (F67 c115 c114 c95):=fun p0 p1 p2 p3 y hy=>by
 refine qak (qae (ek115 h115) (qae (ek114 h114) (qae (ek95 h95) qaj))) 1000000 (fn:=Tryz.f67) (by kernel_rfl) (by kernel_rfl) (X:=X67) (by kernel_rfl) ?_
 rw [eq67]
 exact (nt67 Ops.std c115 c114 c95 p0 p1 p2 p3 some (K2 k0)).trans (by show ob (F67 c115 c114 c95 p0 p1 p2 p3) _=_;rw [hy];rfl)
noncomputable def M67:L94→L98→L103→L66→Option (Bool):=F67 M115 M114 M95
theorem sm67:Sp67 M67:=sf67 sm115 sm114 sm95
def X29:Aux:=⟨[],[]⟩
def T29 {R:Type} (B:Ops) (p0:Int) (p1:Int) (k:(Int)→Option R):Option R:=cond (B.eq p1 (0)) none (cond (B.lt (Int.tmod p0 p1) (0)) (k (IntKind.wrap .i64 (Int.tmod p0 p1+p1))) (k (Int.tmod p0 p1)))
theorem eq29 {R:Type} (B:Ops) (p0:Int) (p1:Int) (k:AV→Objs→Option R) (n:Nat):afun tau B gl0 X29 gnil ow Tryz.f29 [.c (.int .i64 p0),.c (.int .i64 p1)] [] k n=T29 B p0 p1 (K1 k):=by kernel_rfl
theorem nt29 {R R':Type} (B:Ops) (p0:Int) (p1:Int) (k0:(Int)→Option R') (k:R'→Option R):T29 B p0 p1 (fun y=>ob (k0 y) k)=ob (T29 B p0 p1 k0) k:=by
 unfold T29
 repeat' first | exact rfl | apply qaf | (apply qao;intro)
def F29 (p0:Int) (p1:Int):Option (Int):=T29 Ops.std p0 p1 some
def e29 {R:Type} (c:Int→Int→Option (Int)):Ent R:=fun args objs k=>
 oI args .i64 fun p0 l0=>oI l0 .i64 fun p1 l1=>oE l1 objs <| ob (c p0 p1) (K1 k)
abbrev Sp29 (c:Int→Int→Option (Int)):Prop:=∀ (p0:Int) (p1:Int) (y:Int),c p0 p1=some y→Spec Tryz.prog gl0 29 [.c (.int .i64 p0),.c (.int .i64 p1)] [] (.c (.int .i64 y)) []
theorem ek29 {R:Type} {c:Int→Int→Option (Int)} (hs:Sp29 c):EOk 29 (e29 (R:=R) c):=fun args objs k r h=>by
 unfold e29 at h
 obtain ⟨p0,l0,rfl,q3⟩:=qau h
 obtain ⟨p1,l1,rfl,q6⟩:=qau q3
 obtain ⟨rfl,rfl,q8⟩:=qan q6
 exact qap (hs p0 p1) q8
theorem sf29:Sp29 (F29):=fun p0 p1 y hy=>by
 refine qak qaj 1000000 (fn:=Tryz.f29) (by kernel_rfl) (by kernel_rfl) (X:=X29) (by kernel_rfl) ?_
 rw [eq29]
 exact (nt29 Ops.std p0 p1 some (K1 k0)).trans (by show ob (F29 p0 p1) _=_;rw [hy];rfl)
noncomputable def M29:Int→Int→Option (Int):=F29
theorem sm29:Sp29 M29:=sf29
def e182 {R:Type} (c:Int→Option (LB)):Ent R:=fun args objs k=>
 oI args .u64 fun p0 l0=>oE l0 objs <| ob (c p0) (K3 k)
abbrev Sp182 (c:Int→Option (LB)):Prop:=∀ (p0:Int) (y:LB),c p0=some y→Spec Tryz.prog gl0 182 [.c (.int .u64 p0)] [] (.c (.str y)) []
theorem ek182 {R:Type} {c:Int→Option (LB)} (hs:Sp182 c):EOk 182 (e182 (R:=R) c):=fun args objs k r h=>by
 unfold e182 at h
 obtain ⟨p0,l0,rfl,q3⟩:=qau h
 obtain ⟨rfl,rfl,q5⟩:=qan q3
 exact qap (hs p0) q5
end Go.Proofs.YtccnmhdgghjgoaaGreatDoor.Av
