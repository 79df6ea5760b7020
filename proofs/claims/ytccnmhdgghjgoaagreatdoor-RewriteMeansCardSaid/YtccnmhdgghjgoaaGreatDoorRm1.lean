/- Twins of functions,printed by gen.py. Conditions: none. -/
import Derived.Test.YtccnmhdgghjgoaaGreatDoorCl1
import Derived.Test.YtccnmhdgghjgoaaGreatDoorGrow
import Derived.KernelRfl
set_option linter.unusedSimpArgs false
set_option linter.unusedVariables false
set_option maxRecDepth 100000
set_option maxHeartbeats 8000000
namespace Go.Proofs.YtccnmhdgghjgoaaGreatDoor.Av
open Go
abbrev LB:=List UInt8
abbrev rg:=List.range'
abbrev L3:=List ty3.den
abbrev L4:=List ty4.den
abbrev L9:=List ty9.den
abbrev L22:=List ty22.den
abbrev L33:=List ty33.den
abbrev L47:=List ty47.den
abbrev L66:=List ty66.den
abbrev L68:=List ty68.den
abbrev L94:=List ty94.den
abbrev L98:=List ty98.den
abbrev L103:=List ty103.den
abbrev L130:=List ty130.den
abbrev L150:=List ty150.den
abbrev L157:=List ty157.den
abbrev L176:=List ty176.den
abbrev L210:=List ty210.den
def X96:Aux:=⟨[],[]⟩
def T96 {R:Type} (B:Ops) (p0:Int) (k:(Int)→Option R):Option R:=cond (Ops.eq B p0 (1)) (k 0) (cond (Ops.eq B p0 (2)) (k 0) (cond (Ops.eq B p0 (3)) (k 0) (cond (Ops.eq B p0 (4)) (k 1) (cond (Ops.eq B p0 (8)) (k 1) (cond (Ops.eq B p0 (11)) (k 1) (cond (Ops.eq B p0 (12)) (k 1) (cond (Ops.eq B p0 (5)) (k 2) (cond (Ops.eq B p0 (6)) (k 2) (cond (Ops.eq B p0 (7)) (k 2) (cond (Ops.eq B p0 (9)) (k 2) (cond (Ops.eq B p0 (10)) (k 2) (k (-1)))))))))))))
theorem eq96 {R:Type} (B:Ops) (p0:Int) (k:AV→Objs→Option R) (n:Nat):afun tau B gl0 X96 (gnil) ow Tryz.f96 [.c (.int .i64 p0)] [] k n=T96 B p0 (fun y=>k (.c (.int .i64 y)) []):=by kernel_rfl
theorem nt96 {R R':Type} (B:Ops) (p0:Int) (k0:(Int)→Option R') (k:R'→Option R):T96 B p0 (fun y=>ob (k0 y) k)=ob (T96 B p0 k0) k:=by
 unfold T96
 repeat' first | exact rfl | apply qac | (apply qah;intro)
def F96 (p0:Int):Option (Int):=T96 Ops.std p0 some
theorem fo96 {R:Type} (p0:Int) (k:AV→Objs→Option R) (n:Nat):afun tau Ops.std gl0 X96 (gnil) ow Tryz.f96 [.c (.int .i64 p0)] [] k n=ob (F96 p0) (fun y=>k (.c (.int .i64 y)) []):=by rw [eq96];exact nt96 Ops.std p0 some (fun y=>k (.c (.int .i64 y)) [])
def e96 {R:Type} (c:Int→Option (Int)):Ent R:=fun args objs k=>
 oCons args fun a0 l0=>oC a0 fun x0=>cInt .i64 x0 fun p0=>oNil l0 <| oNilO objs <| ob (c p0) fun y=>k (.c (.int .i64 y)) []
abbrev Sp96 (c:Int→Option (Int)):Prop:=∀ (p0:Int) (y:Int),c p0=some y→Spec Tryz.prog gl0 96 [.c (.int .i64 p0)] [] (.c (.int .i64 y)) []
theorem ek96 {R:Type} {c:Int→Option (Int)} (hs:Sp96 c):EOk 96 (e96 (R:=R) c):=fun args objs k r h=>by
 unfold e96 at h
 obtain ⟨a0,l0,rfl,q1⟩:=qaa h
 obtain ⟨x0,rfl,q2⟩:=qaj q1
 obtain ⟨p0,rfl,q3⟩:=qal q2
 obtain ⟨rfl,q4⟩:=qag q3
 obtain ⟨rfl,q5⟩:=qaf q4
 exact qar (hs p0) q5
theorem sf96:Sp96 (F96):=fun p0 y hy=>by
 refine qap (G:=gnil) (qao) 1000000 (fn:=Tryz.f96) (by kernel_rfl) (by kernel_rfl) (X:=X96) (by kernel_rfl) ?_
 rw [fo96,hy]
 rfl
noncomputable def M96:Int→Option (Int):=F96
theorem sm96:Sp96 M96:=sf96
def X117:Aux:=⟨[],[]⟩
def T117 {R:Type} (B:Ops) (p0:Int) (k:(Int)→Option R):Option R:=cond (Ops.lt B p0 (1)) (k (-1)) (cond (Ops.lt B (16) p0) (k (-1)) (cond (Ops.le B p0 (3)) (k 0) (cond (Ops.le B p0 (5)) (k 1) (k 2))))
theorem eq117 {R:Type} (B:Ops) (p0:Int) (k:AV→Objs→Option R) (n:Nat):afun tau B gl0 X117 (gnil) ow Tryz.f117 [.c (.int .i64 p0)] [] k n=T117 B p0 (fun y=>k (.c (.int .i64 y)) []):=by kernel_rfl
theorem nt117 {R R':Type} (B:Ops) (p0:Int) (k0:(Int)→Option R') (k:R'→Option R):T117 B p0 (fun y=>ob (k0 y) k)=ob (T117 B p0 k0) k:=by
 unfold T117
 repeat' first | exact rfl | apply qac | (apply qah;intro)
def F117 (p0:Int):Option (Int):=T117 Ops.std p0 some
theorem fo117 {R:Type} (p0:Int) (k:AV→Objs→Option R) (n:Nat):afun tau Ops.std gl0 X117 (gnil) ow Tryz.f117 [.c (.int .i64 p0)] [] k n=ob (F117 p0) (fun y=>k (.c (.int .i64 y)) []):=by rw [eq117];exact nt117 Ops.std p0 some (fun y=>k (.c (.int .i64 y)) [])
def e117 {R:Type} (c:Int→Option (Int)):Ent R:=fun args objs k=>
 oCons args fun a0 l0=>oC a0 fun x0=>cInt .i64 x0 fun p0=>oNil l0 <| oNilO objs <| ob (c p0) fun y=>k (.c (.int .i64 y)) []
abbrev Sp117 (c:Int→Option (Int)):Prop:=∀ (p0:Int) (y:Int),c p0=some y→Spec Tryz.prog gl0 117 [.c (.int .i64 p0)] [] (.c (.int .i64 y)) []
theorem ek117 {R:Type} {c:Int→Option (Int)} (hs:Sp117 c):EOk 117 (e117 (R:=R) c):=fun args objs k r h=>by
 unfold e117 at h
 obtain ⟨a0,l0,rfl,q1⟩:=qaa h
 obtain ⟨x0,rfl,q2⟩:=qaj q1
 obtain ⟨p0,rfl,q3⟩:=qal q2
 obtain ⟨rfl,q4⟩:=qag q3
 obtain ⟨rfl,q5⟩:=qaf q4
 exact qar (hs p0) q5
theorem sf117:Sp117 (F117):=fun p0 y hy=>by
 refine qap (G:=gnil) (qao) 1000000 (fn:=Tryz.f117) (by kernel_rfl) (by kernel_rfl) (X:=X117) (by kernel_rfl) ?_
 rw [fo117,hy]
 rfl
noncomputable def M117:Int→Option (Int):=F117
theorem sm117:Sp117 M117:=sf117
def X187:Aux:=⟨[],[]⟩
def T187 {R:Type} (B:Ops) (p0:Int) (k:(Bool)→Option R):Option R:=cond (Ops.le B (97) p0) (cond (Ops.le B p0 (122)) (k true) (k (Ops.eq B p0 (95)))) (k (Ops.eq B p0 (95)))
theorem eq187 {R:Type} (B:Ops) (p0:Int) (k:AV→Objs→Option R) (n:Nat):afun tau B gl0 X187 (gnil) ow Tryz.f187 [.c (.int .u8 p0)] [] k n=T187 B p0 (fun y=>k (.c (.bool y)) []):=by kernel_rfl
theorem nt187 {R R':Type} (B:Ops) (p0:Int) (k0:(Bool)→Option R') (k:R'→Option R):T187 B p0 (fun y=>ob (k0 y) k)=ob (T187 B p0 k0) k:=by
 unfold T187
 repeat' first | exact rfl | apply qac | (apply qah;intro)
def F187 (p0:Int):Option (Bool):=T187 Ops.std p0 some
theorem fo187 {R:Type} (p0:Int) (k:AV→Objs→Option R) (n:Nat):afun tau Ops.std gl0 X187 (gnil) ow Tryz.f187 [.c (.int .u8 p0)] [] k n=ob (F187 p0) (fun y=>k (.c (.bool y)) []):=by rw [eq187];exact nt187 Ops.std p0 some (fun y=>k (.c (.bool y)) [])
def e187 {R:Type} (c:Int→Option (Bool)):Ent R:=fun args objs k=>
 oCons args fun a0 l0=>oC a0 fun x0=>cInt .u8 x0 fun p0=>oNil l0 <| oNilO objs <| ob (c p0) fun y=>k (.c (.bool y)) []
abbrev Sp187 (c:Int→Option (Bool)):Prop:=∀ (p0:Int) (y:Bool),c p0=some y→Spec Tryz.prog gl0 187 [.c (.int .u8 p0)] [] (.c (.bool y)) []
theorem ek187 {R:Type} {c:Int→Option (Bool)} (hs:Sp187 c):EOk 187 (e187 (R:=R) c):=fun args objs k r h=>by
 unfold e187 at h
 obtain ⟨a0,l0,rfl,q1⟩:=qaa h
 obtain ⟨x0,rfl,q2⟩:=qaj q1
 obtain ⟨p0,rfl,q3⟩:=qal q2
 obtain ⟨rfl,q4⟩:=qag q3
 obtain ⟨rfl,q5⟩:=qaf q4
 exact qar (hs p0) q5
theorem sf187:Sp187 (F187):=fun p0 y hy=>by
 refine qap (G:=gnil) (qao) 1000000 (fn:=Tryz.f187) (by kernel_rfl) (by kernel_rfl) (X:=X187) (by kernel_rfl) ?_
 rw [fo187,hy]
 rfl
noncomputable def M187:Int→Option (Bool):=F187
theorem sm187:Sp187 M187:=sf187
def X192:Aux:=⟨[],[]⟩
def T192 {R:Type} (B:Ops) (p0:Int) (k:(Bool)→Option R):Option R:=cond (Ops.le B (48) p0) (k (Ops.le B p0 (57))) (k false)
theorem eq192 {R:Type} (B:Ops) (p0:Int) (k:AV→Objs→Option R) (n:Nat):afun tau B gl0 X192 (gnil) ow Tryz.f192 [.c (.int .u8 p0)] [] k n=T192 B p0 (fun y=>k (.c (.bool y)) []):=by kernel_rfl
theorem nt192 {R R':Type} (B:Ops) (p0:Int) (k0:(Bool)→Option R') (k:R'→Option R):T192 B p0 (fun y=>ob (k0 y) k)=ob (T192 B p0 k0) k:=by
 unfold T192
 repeat' first | exact rfl | apply qac | (apply qah;intro)
def F192 (p0:Int):Option (Bool):=T192 Ops.std p0 some
theorem fo192 {R:Type} (p0:Int) (k:AV→Objs→Option R) (n:Nat):afun tau Ops.std gl0 X192 (gnil) ow Tryz.f192 [.c (.int .u8 p0)] [] k n=ob (F192 p0) (fun y=>k (.c (.bool y)) []):=by rw [eq192];exact nt192 Ops.std p0 some (fun y=>k (.c (.bool y)) [])
def e192 {R:Type} (c:Int→Option (Bool)):Ent R:=fun args objs k=>
 oCons args fun a0 l0=>oC a0 fun x0=>cInt .u8 x0 fun p0=>oNil l0 <| oNilO objs <| ob (c p0) fun y=>k (.c (.bool y)) []
abbrev Sp192 (c:Int→Option (Bool)):Prop:=∀ (p0:Int) (y:Bool),c p0=some y→Spec Tryz.prog gl0 192 [.c (.int .u8 p0)] [] (.c (.bool y)) []
theorem ek192 {R:Type} {c:Int→Option (Bool)} (hs:Sp192 c):EOk 192 (e192 (R:=R) c):=fun args objs k r h=>by
 unfold e192 at h
 obtain ⟨a0,l0,rfl,q1⟩:=qaa h
 obtain ⟨x0,rfl,q2⟩:=qaj q1
 obtain ⟨p0,rfl,q3⟩:=qal q2
 obtain ⟨rfl,q4⟩:=qag q3
 obtain ⟨rfl,q5⟩:=qaf q4
 exact qar (hs p0) q5
theorem sf192:Sp192 (F192):=fun p0 y hy=>by
 refine qap (G:=gnil) (qao) 1000000 (fn:=Tryz.f192) (by kernel_rfl) (by kernel_rfl) (X:=X192) (by kernel_rfl) ?_
 rw [fo192,hy]
 rfl
noncomputable def M192:Int→Option (Bool):=F192
theorem sm192:Sp192 M192:=sf192
def X189:Aux:=⟨[],[]⟩
abbrev C187:Type:=Int→Option (Bool)
abbrev C192:Type:=Int→Option (Bool)
def T189 {R:Type} (B:Ops) (c187:C187) (c192:C192) (p0:Int) (k:(Bool)→Option R):Option R:=ob (c187 p0) fun y0=>cond (y0) (k true) (ob (c192 p0) fun y1=>k y1)
theorem eq189 {R:Type} (B:Ops) (c187:C187) (c192:C192) (p0:Int) (k:AV→Objs→Option R) (n:Nat):afun tau B gl0 X189 (ent 187 (e187 c187) (ent 192 (e192 c192) (gnil))) ow Tryz.f189 [.c (.int .u8 p0)] [] k n=T189 B c187 c192 p0 (fun y=>k (.c (.bool y)) []):=by kernel_rfl
theorem nt189 {R R':Type} (B:Ops) (c187:C187) (c192:C192) (p0:Int) (k0:(Bool)→Option R') (k:R'→Option R):T189 B c187 c192 p0 (fun y=>ob (k0 y) k)=ob (T189 B c187 c192 p0 k0) k:=by
 unfold T189
 repeat' first | exact rfl | apply qac | (apply qah;intro)
def F189 (c187:C187) (c192:C192) (p0:Int):Option (Bool):=T189 Ops.std c187 c192 p0 some
theorem fo189 {R:Type} (c187:C187) (c192:C192) (p0:Int) (k:AV→Objs→Option R) (n:Nat):afun tau Ops.std gl0 X189 (ent 187 (e187 c187) (ent 192 (e192 c192) (gnil))) ow Tryz.f189 [.c (.int .u8 p0)] [] k n=ob (F189 c187 c192 p0) (fun y=>k (.c (.bool y)) []):=by rw [eq189];exact nt189 Ops.std c187 c192 p0 some (fun y=>k (.c (.bool y)) [])
def e189 {R:Type} (c:Int→Option (Bool)):Ent R:=fun args objs k=>
 oCons args fun a0 l0=>oC a0 fun x0=>cInt .u8 x0 fun p0=>oNil l0 <| oNilO objs <| ob (c p0) fun y=>k (.c (.bool y)) []
abbrev Sp189 (c:Int→Option (Bool)):Prop:=∀ (p0:Int) (y:Bool),c p0=some y→Spec Tryz.prog gl0 189 [.c (.int .u8 p0)] [] (.c (.bool y)) []
theorem ek189 {R:Type} {c:Int→Option (Bool)} (hs:Sp189 c):EOk 189 (e189 (R:=R) c):=fun args objs k r h=>by
 unfold e189 at h
 obtain ⟨a0,l0,rfl,q1⟩:=qaa h
 obtain ⟨x0,rfl,q2⟩:=qaj q1
 obtain ⟨p0,rfl,q3⟩:=qal q2
 obtain ⟨rfl,q4⟩:=qag q3
 obtain ⟨rfl,q5⟩:=qaf q4
 exact qar (hs p0) q5
theorem sf189 {c187:C187} {c192:C192} (h187:Sp187 c187) (h192:Sp192 c192):Sp189 (F189 c187 c192):=fun p0 y hy=>by
 refine qap (G:=ent 187 (e187 c187) (ent 192 (e192 c192) (gnil))) (qai (ek187 h187) (qai (ek192 h192) (qao))) 1000000 (fn:=Tryz.f189) (by kernel_rfl) (by kernel_rfl) (X:=X189) (by kernel_rfl) ?_
 rw [fo189,hy]
 rfl
noncomputable def M189:Int→Option (Bool):=F189 M187 M192
theorem sm189:Sp189 M189:=sf189 sm187 sm192
def X188:Aux:=⟨[(2,([2,3,4]++rg 6 16))],[]⟩
inductive S188 where
 | l0 (v0_1:Int)
abbrev C189:Type:=Int→Option (Bool)
def T188 {R:Type} (B:Ops) (c189:C189) (p0:LB) (again:S188→Option R) (k:(LB)→Option R):Option S188→Option R | none=>again (.l0 0) | some (.l0 v0_1)=>cond (Ops.lt B v0_1 (Nat.cast (List.length p0))) (cond (Ops.inb B v0_1 (List.length p0)) (ob (c189 (Nat.cast (UInt8.toNat (List.getD p0 (Int.toNat v0_1) (0))))) fun y0=>cond (y0) (again (.l0 (IntKind.wrap .i64 (v0_1+1)))) (cond (Ops.inb B v0_1 (List.length p0+1)) (k (List.drop (0) (List.take (Int.toNat v0_1) p0))) (none))) (none)) (cond (Ops.inb B v0_1 (List.length p0+1)) (k (List.drop (0) (List.take (Int.toNat v0_1) p0))) (none))
def E188 (p0:LB):S188→List AV×Objs
 | .l0 v0_1=>(mk 22 [(0,.c (.str p0)),(1,.fn 189 []),(5,.c (.int .i64 v0_1))],[])
def I188:S188→Nat
 | .l0 _=>0
theorem eq188 {R:Type} (B:Ops) (c189:C189) (p0:LB) (k:AV→Objs→Option R) (n:Nat):afun tau B gl0 X188 (ent 189 (e189 c189) (gnil)) ow Tryz.f188 [.c (.str p0),.fn 189 []] [] k n=T188 B c189 p0 (fun s=>aloop tau B gl0 X188 (ent 189 (e189 c189) (gnil)) ow [] Tryz.f188 k (I188 s) (E188 p0 s) n) (fun y=>k (.c (.str y)) []) none:=by kernel_rfl
theorem el188 {R:Type} (B:Ops) (c189:C189) (p0:LB) (k:AV→Objs→Option R) (n:Nat):∀ s,aloop tau B gl0 X188 (ent 189 (e189 c189) (gnil)) ow [] Tryz.f188 k (I188 s) (E188 p0 s) (n+1)=T188 B c189 p0 (fun s=>aloop tau B gl0 X188 (ent 189 (e189 c189) (gnil)) ow [] Tryz.f188 k (I188 s) (E188 p0 s) n) (fun y=>k (.c (.str y)) []) (some s)
 | .l0 v0_1=>by kernel_rfl
theorem nt188 {R R':Type} (B:Ops) (c189:C189) (p0:LB) (again:S188→Option R) (again':S188→Option R') (k0:(LB)→Option R') (k:R'→Option R) (h:∀ s,again s=ob (again' s) k):∀ s,T188 B c189 p0 again (fun y=>ob (k0 y) k) s=ob (T188 B c189 p0 again' k0 s) k
 | none=>by unfold T188;repeat' first | exact rfl | exact h _ | apply qac | (apply qah;intro)
 | some (.l0 v0_1)=>by unfold T188;repeat' first | exact rfl | exact h _ | apply qac | (apply qah;intro)
def R188 (c189:C189) (p0:LB):Nat→S188→Option (LB)
 | 0,_=>none
 | n+1,s=>T188 Ops.std c189 p0 (R188 c189 p0 n) some (some s)
theorem rr188 {R:Type} (c189:C189) (p0:LB) (k:AV→Objs→Option R):∀ (n:Nat) (s:S188),aloop tau Ops.std gl0 X188 (ent 189 (e189 c189) (gnil)) ow [] Tryz.f188 k (I188 s) (E188 p0 s) n=ob (R188 c189 p0 n s) (fun y=>k (.c (.str y)) [])
 | 0,s=>by cases s<;>rfl
 | n+1,s=>by rw [el188];exact nt188 Ops.std c189 p0 _ _ some (fun y=>k (.c (.str y)) []) (rr188 c189 p0 k n) (some s)
def F188 (c189:C189) (p0:LB):Option (LB):=T188 Ops.std c189 p0 (R188 c189 p0 1000000) some none
theorem fo188 {R:Type} (c189:C189) (p0:LB) (k:AV→Objs→Option R):afun tau Ops.std gl0 X188 (ent 189 (e189 c189) (gnil)) ow Tryz.f188 [.c (.str p0),.fn 189 []] [] k 1000000=ob (F188 c189 p0) (fun y=>k (.c (.str y)) []):=by rw [eq188];exact nt188 Ops.std c189 p0 _ _ some (fun y=>k (.c (.str y)) []) (rr188 c189 p0 k 1000000) none
def e188 {R:Type} (c:LB→Option (LB)):Ent R:=fun args objs k=>
 oCons args fun a0 l0=>oC a0 fun x0=>cStr x0 fun p0=>oCons l0 fun a1 l1=>oFn 189 a1 <| oNil l1 <| oNilO objs <| ob (c p0) fun y=>k (.c (.str y)) []
abbrev Sp188 (c:LB→Option (LB)):Prop:=∀ (p0:LB) (y:LB),c p0=some y→Spec Tryz.prog gl0 188 [.c (.str p0),.fn 189 []] [] (.c (.str y)) []
theorem ek188 {R:Type} {c:LB→Option (LB)} (hs:Sp188 c):EOk 188 (e188 (R:=R) c):=fun args objs k r h=>by
 unfold e188 at h
 obtain ⟨a0,l0,rfl,q1⟩:=qaa h
 obtain ⟨x0,rfl,q2⟩:=qaj q1
 obtain ⟨p0,rfl,q3⟩:=qav q2
 obtain ⟨a1,l1,rfl,q4⟩:=qaa q3
 obtain ⟨rfl,q5⟩:=oFn_some q4
 obtain ⟨rfl,q6⟩:=qag q5
 obtain ⟨rfl,q7⟩:=qaf q6
 exact qar (hs p0) q7
theorem sf188 {c189:C189} (h189:Sp189 c189):Sp188 (F188 c189):=fun p0 y hy=>by
 refine qap (G:=ent 189 (e189 c189) (gnil)) (qai (ek189 h189) (qao)) 1000000 (fn:=Tryz.f188) (by kernel_rfl) (by kernel_rfl) (X:=X188) (by kernel_rfl) ?_
 rw [fo188,hy]
 rfl
noncomputable def M188:LB→Option (LB):=F188 M189
theorem sm188:Sp188 M188:=sf188 sm189
def X217:Aux:=⟨[(2,([2,3,4]++rg 6 16))],[]⟩
inductive S217 where
 | l0 (v0_1:Int)
def T217 {R:Type} (B:Ops) (c192:C192) (p0:LB) (again:S217→Option R) (k:(LB)→Option R):Option S217→Option R | none=>again (.l0 0) | some (.l0 v0_1)=>cond (Ops.lt B v0_1 (Nat.cast (List.length p0))) (cond (Ops.inb B v0_1 (List.length p0)) (ob (c192 (Nat.cast (UInt8.toNat (List.getD p0 (Int.toNat v0_1) (0))))) fun y0=>cond (y0) (again (.l0 (IntKind.wrap .i64 (v0_1+1)))) (cond (Ops.inb B v0_1 (List.length p0+1)) (k (List.drop (0) (List.take (Int.toNat v0_1) p0))) (none))) (none)) (cond (Ops.inb B v0_1 (List.length p0+1)) (k (List.drop (0) (List.take (Int.toNat v0_1) p0))) (none))
def E217 (p0:LB):S217→List AV×Objs
 | .l0 v0_1=>(mk 22 [(0,.c (.str p0)),(1,.fn 192 []),(5,.c (.int .i64 v0_1))],[])
def I217:S217→Nat
 | .l0 _=>0
theorem eq217 {R:Type} (B:Ops) (c192:C192) (p0:LB) (k:AV→Objs→Option R) (n:Nat):afun tau B gl0 X217 (ent 192 (e192 c192) (gnil)) ow Tryz.f188 [.c (.str p0),.fn 192 []] [] k n=T217 B c192 p0 (fun s=>aloop tau B gl0 X217 (ent 192 (e192 c192) (gnil)) ow [] Tryz.f188 k (I217 s) (E217 p0 s) n) (fun y=>k (.c (.str y)) []) none:=by kernel_rfl
theorem el217 {R:Type} (B:Ops) (c192:C192) (p0:LB) (k:AV→Objs→Option R) (n:Nat):∀ s,aloop tau B gl0 X217 (ent 192 (e192 c192) (gnil)) ow [] Tryz.f188 k (I217 s) (E217 p0 s) (n+1)=T217 B c192 p0 (fun s=>aloop tau B gl0 X217 (ent 192 (e192 c192) (gnil)) ow [] Tryz.f188 k (I217 s) (E217 p0 s) n) (fun y=>k (.c (.str y)) []) (some s)
 | .l0 v0_1=>by kernel_rfl
theorem nt217 {R R':Type} (B:Ops) (c192:C192) (p0:LB) (again:S217→Option R) (again':S217→Option R') (k0:(LB)→Option R') (k:R'→Option R) (h:∀ s,again s=ob (again' s) k):∀ s,T217 B c192 p0 again (fun y=>ob (k0 y) k) s=ob (T217 B c192 p0 again' k0 s) k
 | none=>by unfold T217;repeat' first | exact rfl | exact h _ | apply qac | (apply qah;intro)
 | some (.l0 v0_1)=>by unfold T217;repeat' first | exact rfl | exact h _ | apply qac | (apply qah;intro)
def R217 (c192:C192) (p0:LB):Nat→S217→Option (LB)
 | 0,_=>none
 | n+1,s=>T217 Ops.std c192 p0 (R217 c192 p0 n) some (some s)
theorem rr217 {R:Type} (c192:C192) (p0:LB) (k:AV→Objs→Option R):∀ (n:Nat) (s:S217),aloop tau Ops.std gl0 X217 (ent 192 (e192 c192) (gnil)) ow [] Tryz.f188 k (I217 s) (E217 p0 s) n=ob (R217 c192 p0 n s) (fun y=>k (.c (.str y)) [])
 | 0,s=>by cases s<;>rfl
 | n+1,s=>by rw [el217];exact nt217 Ops.std c192 p0 _ _ some (fun y=>k (.c (.str y)) []) (rr217 c192 p0 k n) (some s)
def F217 (c192:C192) (p0:LB):Option (LB):=T217 Ops.std c192 p0 (R217 c192 p0 1000000) some none
theorem fo217 {R:Type} (c192:C192) (p0:LB) (k:AV→Objs→Option R):afun tau Ops.std gl0 X217 (ent 192 (e192 c192) (gnil)) ow Tryz.f188 [.c (.str p0),.fn 192 []] [] k 1000000=ob (F217 c192 p0) (fun y=>k (.c (.str y)) []):=by rw [eq217];exact nt217 Ops.std c192 p0 _ _ some (fun y=>k (.c (.str y)) []) (rr217 c192 p0 k 1000000) none
def e217 {R:Type} (c:LB→Option (LB)):Ent R:=fun args objs k=>
 oCons args fun a0 l0=>oC a0 fun x0=>cStr x0 fun p0=>oCons l0 fun a1 l1=>oFn 192 a1 <| oNil l1 <| oNilO objs <| ob (c p0) fun y=>k (.c (.str y)) []
abbrev Sp217 (c:LB→Option (LB)):Prop:=∀ (p0:LB) (y:LB),c p0=some y→Spec Tryz.prog gl0 188 [.c (.str p0),.fn 192 []] [] (.c (.str y)) []
theorem ek217 {R:Type} {c:LB→Option (LB)} (hs:Sp217 c):EOk 188 (e217 (R:=R) c):=fun args objs k r h=>by
 unfold e217 at h
 obtain ⟨a0,l0,rfl,q1⟩:=qaa h
 obtain ⟨x0,rfl,q2⟩:=qaj q1
 obtain ⟨p0,rfl,q3⟩:=qav q2
 obtain ⟨a1,l1,rfl,q4⟩:=qaa q3
 obtain ⟨rfl,q5⟩:=oFn_some q4
 obtain ⟨rfl,q6⟩:=qag q5
 obtain ⟨rfl,q7⟩:=qaf q6
 exact qar (hs p0) q7
theorem sf217 {c192:C192} (h192:Sp192 c192):Sp217 (F217 c192):=fun p0 y hy=>by
 refine qap (G:=ent 192 (e192 c192) (gnil)) (qai (ek192 h192) (qao)) 1000000 (fn:=Tryz.f188) (by kernel_rfl) (by kernel_rfl) (X:=X217) (by kernel_rfl) ?_
 rw [fo217,hy]
 rfl
noncomputable def M217:LB→Option (LB):=F217 M192
theorem sm217:Sp217 M217:=sf217 sm192
def X185:Aux:=⟨[],[]⟩
abbrev C188:Type:=LB→Option (LB)
abbrev C217:Type:=LB→Option (LB)
def T185 {R:Type} (B:Ops) (c187:C187) (c188:C188) (c217:C217) (c189:C189) (p0:LB) (k:(Bool)→Option R):Option R:=cond (!p0 == mt UInt8) (cond (Ops.le B (Nat.cast (List.length p0)) (8)) (cond (Ops.inb B (0) (List.length p0)) (ob (c187 (Nat.cast (UInt8.toNat (List.getD p0 (Int.toNat (0)) (0))))) fun y0=>cond (y0) (ob (c188 p0) fun y1=>k (y1 == p0)) (k false)) (none)) (k false)) (k false)
theorem eq185 {R:Type} (B:Ops) (c187:C187) (c188:C188) (c217:C217) (c189:C189) (p0:LB) (k:AV→Objs→Option R) (n:Nat):afun tau B gl0 X185 (ent 187 (e187 c187) (ent 188 (eAlt 1 189 (e188 c188) (e217 c217)) (ent 189 (e189 c189) (gnil)))) ow Tryz.f185 [.c (.str p0)] [] k n=T185 B c187 c188 c217 c189 p0 (fun y=>k (.c (.bool y)) []):=by kernel_rfl
theorem nt185 {R R':Type} (B:Ops) (c187:C187) (c188:C188) (c217:C217) (c189:C189) (p0:LB) (k0:(Bool)→Option R') (k:R'→Option R):T185 B c187 c188 c217 c189 p0 (fun y=>ob (k0 y) k)=ob (T185 B c187 c188 c217 c189 p0 k0) k:=by
 unfold T185
 repeat' first | exact rfl | apply qac | (apply qah;intro)
def F185 (c187:C187) (c188:C188) (c217:C217) (c189:C189) (p0:LB):Option (Bool):=T185 Ops.std c187 c188 c217 c189 p0 some
theorem fo185 {R:Type} (c187:C187) (c188:C188) (c217:C217) (c189:C189) (p0:LB) (k:AV→Objs→Option R) (n:Nat):afun tau Ops.std gl0 X185 (ent 187 (e187 c187) (ent 188 (eAlt 1 189 (e188 c188) (e217 c217)) (ent 189 (e189 c189) (gnil)))) ow Tryz.f185 [.c (.str p0)] [] k n=ob (F185 c187 c188 c217 c189 p0) (fun y=>k (.c (.bool y)) []):=by rw [eq185];exact nt185 Ops.std c187 c188 c217 c189 p0 some (fun y=>k (.c (.bool y)) [])
def e185 {R:Type} (c:LB→Option (Bool)):Ent R:=fun args objs k=>
 oCons args fun a0 l0=>oC a0 fun x0=>cStr x0 fun p0=>oNil l0 <| oNilO objs <| ob (c p0) fun y=>k (.c (.bool y)) []
abbrev Sp185 (c:LB→Option (Bool)):Prop:=∀ (p0:LB) (y:Bool),c p0=some y→Spec Tryz.prog gl0 185 [.c (.str p0)] [] (.c (.bool y)) []
theorem ek185 {R:Type} {c:LB→Option (Bool)} (hs:Sp185 c):EOk 185 (e185 (R:=R) c):=fun args objs k r h=>by
 unfold e185 at h
 obtain ⟨a0,l0,rfl,q1⟩:=qaa h
 obtain ⟨x0,rfl,q2⟩:=qaj q1
 obtain ⟨p0,rfl,q3⟩:=qav q2
 obtain ⟨rfl,q4⟩:=qag q3
 obtain ⟨rfl,q5⟩:=qaf q4
 exact qar (hs p0) q5
theorem sf185 {c187:C187} {c188:C188} {c217:C217} {c189:C189} (h187:Sp187 c187) (h188:Sp188 c188) (h217:Sp217 c217) (h189:Sp189 c189):Sp185 (F185 c187 c188 c217 c189):=fun p0 y hy=>by
 refine qap (G:=ent 187 (e187 c187) (ent 188 (eAlt 1 189 (e188 c188) (e217 c217)) (ent 189 (e189 c189) (gnil)))) (qai (ek187 h187) (qai (eAlt_ok (ek188 h188) (ek217 h217)) (qai (ek189 h189) (qao)))) 1000000 (fn:=Tryz.f185) (by kernel_rfl) (by kernel_rfl) (X:=X185) (by kernel_rfl) ?_
 rw [fo185,hy]
 rfl
noncomputable def M185:LB→Option (Bool):=F185 M187 M188 M217 M189
theorem sm185:Sp185 M185:=sf185 sm187 sm188 sm217 sm189
def X183:Aux:=⟨[],[]⟩
abbrev C185:Type:=LB→Option (Bool)
abbrev C117:Type:=Int→Option (Int)
def T183 {R:Type} (B:Ops) (c185:C185) (c117:C117) (p0:Int) (p1:Int) (p2:LB) (p3:LB) (k:(Bool)→Option R):Option R:=cond (Ops.eq B p0 (1)) (cond (Ops.le B (0) p1) (cond (Ops.le B p1 (999)) (cond (p2 == mt UInt8) (k (p3 == mt UInt8)) (k false)) (k false)) (k false)) (cond (Ops.eq B p0 (2)) (cond (Ops.eq B p1 (0)) (ob (c185 p2) fun y0=>cond (y0) (k (p3 == mt UInt8)) (k false)) (k false)) (cond (Ops.eq B p0 (3)) (cond (Ops.eq B p1 (0)) (ob (c185 p2) fun y0=>cond (y0) (ob (c185 p3) fun y1=>k y1) (k false)) (k false)) (ob (c117 p0) fun y0=>cond (Ops.lt B (0) y0) (cond (Ops.eq B p1 (0)) (cond (p2 == mt UInt8) (k (p3 == mt UInt8)) (k false)) (k false)) (k false))))
theorem eq183 {R:Type} (B:Ops) (c185:C185) (c117:C117) (p0:Int) (p1:Int) (p2:LB) (p3:LB) (k:AV→Objs→Option R) (n:Nat):afun tau B gl0 X183 (ent 185 (e185 c185) (ent 117 (e117 c117) (gnil))) ow Tryz.f183 [.agg [.int .i64 p0,.int .i64 p1,.str p2,.str p3]] [] k n=T183 B c185 c117 p0 p1 p2 p3 (fun y=>k (.c (.bool y)) []):=by kernel_rfl
theorem nt183 {R R':Type} (B:Ops) (c185:C185) (c117:C117) (p0:Int) (p1:Int) (p2:LB) (p3:LB) (k0:(Bool)→Option R') (k:R'→Option R):T183 B c185 c117 p0 p1 p2 p3 (fun y=>ob (k0 y) k)=ob (T183 B c185 c117 p0 p1 p2 p3 k0) k:=by
 unfold T183
 repeat' first | exact rfl | apply qac | (apply qah;intro)
def F183 (c185:C185) (c117:C117) (p0:Int) (p1:Int) (p2:LB) (p3:LB):Option (Bool):=T183 Ops.std c185 c117 p0 p1 p2 p3 some
theorem fo183 {R:Type} (c185:C185) (c117:C117) (p0:Int) (p1:Int) (p2:LB) (p3:LB) (k:AV→Objs→Option R) (n:Nat):afun tau Ops.std gl0 X183 (ent 185 (e185 c185) (ent 117 (e117 c117) (gnil))) ow Tryz.f183 [.agg [.int .i64 p0,.int .i64 p1,.str p2,.str p3]] [] k n=ob (F183 c185 c117 p0 p1 p2 p3) (fun y=>k (.c (.bool y)) []):=by rw [eq183];exact nt183 Ops.std c185 c117 p0 p1 p2 p3 some (fun y=>k (.c (.bool y)) [])
def e183 {R:Type} (c:Int→Int→LB→LB→Option (Bool)):Ent R:=fun args objs k=>
 oCons args fun a0 l0=>oAgg a0 fun x0=>cCons x0 fun z0_0 w0_0=>cInt .i64 z0_0 fun p0=>cCons w0_0 fun z0_1 w0_1=>cInt .i64 z0_1 fun p1=>cCons w0_1 fun z0_2 w0_2=>cStr z0_2 fun p2=>cCons w0_2 fun z0_3 w0_3=>cStr z0_3 fun p3=>cNil w0_3 <| oNil l0 <| oNilO objs <| ob (c p0 p1 p2 p3) fun y=>k (.c (.bool y)) []
abbrev Sp183 (c:Int→Int→LB→LB→Option (Bool)):Prop:=∀ (p0:Int) (p1:Int) (p2:LB) (p3:LB) (y:Bool),c p0 p1 p2 p3=some y→Spec Tryz.prog gl0 183 [.agg [.int .i64 p0,.int .i64 p1,.str p2,.str p3]] [] (.c (.bool y)) []
theorem ek183 {R:Type} {c:Int→Int→LB→LB→Option (Bool)} (hs:Sp183 c):EOk 183 (e183 (R:=R) c):=fun args objs k r h=>by
 unfold e183 at h
 obtain ⟨a0,l0,rfl,q1⟩:=qaa h
 obtain ⟨x0,rfl,q2⟩:=qax q1
 obtain ⟨z0_0,w0_0,rfl,q3⟩:=qad q2
 obtain ⟨p0,rfl,q4⟩:=qal q3
 obtain ⟨z0_1,w0_1,rfl,q5⟩:=qad q4
 obtain ⟨p1,rfl,q6⟩:=qal q5
 obtain ⟨z0_2,w0_2,rfl,q7⟩:=qad q6
 obtain ⟨p2,rfl,q8⟩:=qav q7
 obtain ⟨z0_3,w0_3,rfl,q9⟩:=qad q8
 obtain ⟨p3,rfl,q10⟩:=qav q9
 obtain ⟨rfl,q11⟩:=qat q10
 obtain ⟨rfl,q12⟩:=qag q11
 obtain ⟨rfl,q13⟩:=qaf q12
 exact qar (hs p0 p1 p2 p3) q13
theorem sf183 {c185:C185} {c117:C117} (h185:Sp185 c185) (h117:Sp117 c117):Sp183 (F183 c185 c117):=fun p0 p1 p2 p3 y hy=>by
 refine qap (G:=ent 185 (e185 c185) (ent 117 (e117 c117) (gnil))) (qai (ek185 h185) (qai (ek117 h117) (qao))) 1000000 (fn:=Tryz.f183) (by kernel_rfl) (by kernel_rfl) (X:=X183) (by kernel_rfl) ?_
 rw [fo183,hy]
 rfl
noncomputable def M183:Int→Int→LB→LB→Option (Bool):=F183 M185 M117
theorem sm183:Sp183 M183:=sf183 sm185 sm117
def X156:Aux:=⟨[(3,([1,2,4,5,6]++rg 10 26))],[]⟩
inductive S156 where
 | l0 (v0_1:Int) (v0_3:Int) (v0_4:Int)
abbrev C183:Type:=Int→Int→LB→LB→Option (Bool)
def T156 {R:Type} (B:Ops) (c117:C117) (c183:C183) (p0:L150) (again:S156→Option R) (k:(Bool)→Option R):Option S156→Option R | none=>again (.l0 0 (Nat.cast (List.length p0)) 0) | some (.l0 v0_1 v0_3 v0_4)=>cond (Ops.lt B v0_4 v0_3) (cond (Ops.inb B v0_4 (List.length p0)) (ob (c117 ((List.getD p0 (Int.toNat v0_4) (Ty.dflt ty150)).1)) fun y0=>ob (c183 ((List.getD p0 (Int.toNat v0_4) (Ty.dflt ty150)).1) (((List.getD p0 (Int.toNat v0_4) (Ty.dflt ty150)).2).1) ((((List.getD p0 (Int.toNat v0_4) (Ty.dflt ty150)).2).2).1) ((((List.getD p0 (Int.toNat v0_4) (Ty.dflt ty150)).2).2).2)) fun y1=>cond (!y1) (k false) (cond (Ops.lt B v0_1 y0) (k false) (again (.l0 (IntKind.wrap .i64 (v0_1+IntKind.wrap .i64 (1-y0))) v0_3 (IntKind.wrap .i64 (v0_4+1)))))) (none)) (cond (Ops.eq B v0_1 (1)) (k (Ops.le B (Nat.cast (List.length p0)) (30))) (k false))
def E156 (p0:L150):S156→List AV×Objs
 | .l0 v0_1 v0_3 v0_4=>(mk 36 [(0,.c (.list 150 ty150 p0)),(3,.c (.int .i64 v0_1)),(7,.c (.list 150 ty150 p0)),(8,.c (.int .i64 v0_3)),(9,.c (.int .i64 v0_4))],[])
def I156:S156→Nat
 | .l0 _ _ _=>0
theorem eq156 {R:Type} (B:Ops) (c117:C117) (c183:C183) (p0:L150) (k:AV→Objs→Option R) (n:Nat):afun tau B gl0 X156 (ent 117 (e117 c117) (ent 183 (e183 c183) (gnil))) ow Tryz.f156 [.c (.list 150 ty150 p0)] [] k n=T156 B c117 c183 p0 (fun s=>aloop tau B gl0 X156 (ent 117 (e117 c117) (ent 183 (e183 c183) (gnil))) ow [] Tryz.f156 k (I156 s) (E156 p0 s) n) (fun y=>k (.c (.bool y)) []) none:=by kernel_rfl
theorem el156 {R:Type} (B:Ops) (c117:C117) (c183:C183) (p0:L150) (k:AV→Objs→Option R) (n:Nat):∀ s,aloop tau B gl0 X156 (ent 117 (e117 c117) (ent 183 (e183 c183) (gnil))) ow [] Tryz.f156 k (I156 s) (E156 p0 s) (n+1)=T156 B c117 c183 p0 (fun s=>aloop tau B gl0 X156 (ent 117 (e117 c117) (ent 183 (e183 c183) (gnil))) ow [] Tryz.f156 k (I156 s) (E156 p0 s) n) (fun y=>k (.c (.bool y)) []) (some s)
 | .l0 v0_1 v0_3 v0_4=>by kernel_rfl
theorem nt156 {R R':Type} (B:Ops) (c117:C117) (c183:C183) (p0:L150) (again:S156→Option R) (again':S156→Option R') (k0:(Bool)→Option R') (k:R'→Option R) (h:∀ s,again s=ob (again' s) k):∀ s,T156 B c117 c183 p0 again (fun y=>ob (k0 y) k) s=ob (T156 B c117 c183 p0 again' k0 s) k
 | none=>by unfold T156;repeat' first | exact rfl | exact h _ | apply qac | (apply qah;intro)
 | some (.l0 v0_1 v0_3 v0_4)=>by unfold T156;repeat' first | exact rfl | exact h _ | apply qac | (apply qah;intro)
def R156 (c117:C117) (c183:C183) (p0:L150):Nat→S156→Option (Bool)
 | 0,_=>none
 | n+1,s=>T156 Ops.std c117 c183 p0 (R156 c117 c183 p0 n) some (some s)
theorem rr156 {R:Type} (c117:C117) (c183:C183) (p0:L150) (k:AV→Objs→Option R):∀ (n:Nat) (s:S156),aloop tau Ops.std gl0 X156 (ent 117 (e117 c117) (ent 183 (e183 c183) (gnil))) ow [] Tryz.f156 k (I156 s) (E156 p0 s) n=ob (R156 c117 c183 p0 n s) (fun y=>k (.c (.bool y)) [])
 | 0,s=>by cases s<;>rfl
 | n+1,s=>by rw [el156];exact nt156 Ops.std c117 c183 p0 _ _ some (fun y=>k (.c (.bool y)) []) (rr156 c117 c183 p0 k n) (some s)
def F156 (c117:C117) (c183:C183) (p0:L150):Option (Bool):=T156 Ops.std c117 c183 p0 (R156 c117 c183 p0 1000000) some none
theorem fo156 {R:Type} (c117:C117) (c183:C183) (p0:L150) (k:AV→Objs→Option R):afun tau Ops.std gl0 X156 (ent 117 (e117 c117) (ent 183 (e183 c183) (gnil))) ow Tryz.f156 [.c (.list 150 ty150 p0)] [] k 1000000=ob (F156 c117 c183 p0) (fun y=>k (.c (.bool y)) []):=by rw [eq156];exact nt156 Ops.std c117 c183 p0 _ _ some (fun y=>k (.c (.bool y)) []) (rr156 c117 c183 p0 k 1000000) none
def e156 {R:Type} (c:L150→Option (Bool)):Ent R:=fun args objs k=>
 oCons args fun a0 l0=>oC a0 fun x0=>cList 150 ty150 x0 fun p0=>oNil l0 <| oNilO objs <| ob (c p0) fun y=>k (.c (.bool y)) []
abbrev Sp156 (c:L150→Option (Bool)):Prop:=∀ (p0:L150) (y:Bool),c p0=some y→Spec Tryz.prog gl0 156 [.c (.list 150 ty150 p0)] [] (.c (.bool y)) []
theorem ek156 {R:Type} {c:L150→Option (Bool)} (hs:Sp156 c):EOk 156 (e156 (R:=R) c):=fun args objs k r h=>by
 unfold e156 at h
 obtain ⟨a0,l0,rfl,q1⟩:=qaa h
 obtain ⟨x0,rfl,q2⟩:=qaj q1
 obtain ⟨p0,rfl,q3⟩:=qae q2
 obtain ⟨rfl,q4⟩:=qag q3
 obtain ⟨rfl,q5⟩:=qaf q4
 exact qar (hs p0) q5
theorem sf156 {c117:C117} {c183:C183} (h117:Sp117 c117) (h183:Sp183 c183):Sp156 (F156 c117 c183):=fun p0 y hy=>by
 refine qap (G:=ent 117 (e117 c117) (ent 183 (e183 c183) (gnil))) (qai (ek117 h117) (qai (ek183 h183) (qao))) 1000000 (fn:=Tryz.f156) (by kernel_rfl) (by kernel_rfl) (X:=X156) (by kernel_rfl) ?_
 rw [fo156,hy]
 rfl
noncomputable def M156:L150→Option (Bool):=F156 M117 M183
theorem sm156:Sp156 M156:=sf156 sm117 sm183
def X95:Aux:=⟨[(3,([1,2,4,5,6]++rg 10 47))],[]⟩
inductive S95 where
 | l0 (v0_1:Int) (v0_3:Int) (v0_4:Int)
abbrev C96:Type:=Int→Option (Int)
abbrev C156:Type:=L150→Option (Bool)
def T95 {R:Type} (B:Ops) (c96:C96) (c156:C156) (p0:L66) (again:S95→Option R) (k:(Bool)→Option R):Option S95→Option R | none=>again (.l0 0 (Nat.cast (List.length p0)) 0) | some (.l0 v0_1 v0_3 v0_4)=>cond (Ops.lt B v0_4 v0_3) (cond (Ops.inb B v0_4 (List.length p0)) (ob (c96 ((List.getD p0 (Int.toNat v0_4) (Ty.dflt ty66)).1)) fun y0=>cond (Ops.lt B y0 (0)) (k false) (cond (Ops.lt B v0_1 y0) (k false) (cond (Ops.eq B ((List.getD p0 (Int.toNat v0_4) (Ty.dflt ty66)).1) (3)) (ob (c156 ((List.getD p0 (Int.toNat v0_4) (Ty.dflt ty66)).2)) fun y1=>cond (!y1) (k false) (cond (!Ops.eq B ((List.getD p0 (Int.toNat v0_4) (Ty.dflt ty66)).1) (3)) (cond (Ops.lt B (0) (Nat.cast (List.length ((List.getD p0 (Int.toNat v0_4) (Ty.dflt ty66)).2)))) (k false) (again (.l0 (IntKind.wrap .i64 (v0_1+IntKind.wrap .i64 (1-y0))) v0_3 (IntKind.wrap .i64 (v0_4+1))))) (again (.l0 (IntKind.wrap .i64 (v0_1+IntKind.wrap .i64 (1-y0))) v0_3 (IntKind.wrap .i64 (v0_4+1)))))) (cond (!Ops.eq B ((List.getD p0 (Int.toNat v0_4) (Ty.dflt ty66)).1) (3)) (cond (Ops.lt B (0) (Nat.cast (List.length ((List.getD p0 (Int.toNat v0_4) (Ty.dflt ty66)).2)))) (k false) (again (.l0 (IntKind.wrap .i64 (v0_1+IntKind.wrap .i64 (1-y0))) v0_3 (IntKind.wrap .i64 (v0_4+1))))) (again (.l0 (IntKind.wrap .i64 (v0_1+IntKind.wrap .i64 (1-y0))) v0_3 (IntKind.wrap .i64 (v0_4+1)))))))) (none)) (cond (Ops.eq B v0_1 (1)) (k (Ops.le B (Nat.cast (List.length p0)) (60))) (k false))
def E95 (p0:L66):S95→List AV×Objs
 | .l0 v0_1 v0_3 v0_4=>(mk 57 [(0,.c (.list 66 ty66 p0)),(3,.c (.int .i64 v0_1)),(7,.c (.list 66 ty66 p0)),(8,.c (.int .i64 v0_3)),(9,.c (.int .i64 v0_4))],[])
def I95:S95→Nat
 | .l0 _ _ _=>0
theorem eq95 {R:Type} (B:Ops) (c96:C96) (c156:C156) (p0:L66) (k:AV→Objs→Option R) (n:Nat):afun tau B gl0 X95 (ent 96 (e96 c96) (ent 156 (e156 c156) (gnil))) ow Tryz.f95 [.c (.list 66 ty66 p0)] [] k n=T95 B c96 c156 p0 (fun s=>aloop tau B gl0 X95 (ent 96 (e96 c96) (ent 156 (e156 c156) (gnil))) ow [] Tryz.f95 k (I95 s) (E95 p0 s) n) (fun y=>k (.c (.bool y)) []) none:=by kernel_rfl
theorem el95 {R:Type} (B:Ops) (c96:C96) (c156:C156) (p0:L66) (k:AV→Objs→Option R) (n:Nat):∀ s,aloop tau B gl0 X95 (ent 96 (e96 c96) (ent 156 (e156 c156) (gnil))) ow [] Tryz.f95 k (I95 s) (E95 p0 s) (n+1)=T95 B c96 c156 p0 (fun s=>aloop tau B gl0 X95 (ent 96 (e96 c96) (ent 156 (e156 c156) (gnil))) ow [] Tryz.f95 k (I95 s) (E95 p0 s) n) (fun y=>k (.c (.bool y)) []) (some s)
 | .l0 v0_1 v0_3 v0_4=>by kernel_rfl
theorem nt95 {R R':Type} (B:Ops) (c96:C96) (c156:C156) (p0:L66) (again:S95→Option R) (again':S95→Option R') (k0:(Bool)→Option R') (k:R'→Option R) (h:∀ s,again s=ob (again' s) k):∀ s,T95 B c96 c156 p0 again (fun y=>ob (k0 y) k) s=ob (T95 B c96 c156 p0 again' k0 s) k
 | none=>by unfold T95;repeat' first | exact rfl | exact h _ | apply qac | (apply qah;intro)
 | some (.l0 v0_1 v0_3 v0_4)=>by unfold T95;repeat' first | exact rfl | exact h _ | apply qac | (apply qah;intro)
def R95 (c96:C96) (c156:C156) (p0:L66):Nat→S95→Option (Bool)
 | 0,_=>none
 | n+1,s=>T95 Ops.std c96 c156 p0 (R95 c96 c156 p0 n) some (some s)
theorem rr95 {R:Type} (c96:C96) (c156:C156) (p0:L66) (k:AV→Objs→Option R):∀ (n:Nat) (s:S95),aloop tau Ops.std gl0 X95 (ent 96 (e96 c96) (ent 156 (e156 c156) (gnil))) ow [] Tryz.f95 k (I95 s) (E95 p0 s) n=ob (R95 c96 c156 p0 n s) (fun y=>k (.c (.bool y)) [])
 | 0,s=>by cases s<;>rfl
 | n+1,s=>by rw [el95];exact nt95 Ops.std c96 c156 p0 _ _ some (fun y=>k (.c (.bool y)) []) (rr95 c96 c156 p0 k n) (some s)
def F95 (c96:C96) (c156:C156) (p0:L66):Option (Bool):=T95 Ops.std c96 c156 p0 (R95 c96 c156 p0 1000000) some none
theorem fo95 {R:Type} (c96:C96) (c156:C156) (p0:L66) (k:AV→Objs→Option R):afun tau Ops.std gl0 X95 (ent 96 (e96 c96) (ent 156 (e156 c156) (gnil))) ow Tryz.f95 [.c (.list 66 ty66 p0)] [] k 1000000=ob (F95 c96 c156 p0) (fun y=>k (.c (.bool y)) []):=by rw [eq95];exact nt95 Ops.std c96 c156 p0 _ _ some (fun y=>k (.c (.bool y)) []) (rr95 c96 c156 p0 k 1000000) none
def e95 {R:Type} (c:L66→Option (Bool)):Ent R:=fun args objs k=>
 oCons args fun a0 l0=>oC a0 fun x0=>cList 66 ty66 x0 fun p0=>oNil l0 <| oNilO objs <| ob (c p0) fun y=>k (.c (.bool y)) []
abbrev Sp95 (c:L66→Option (Bool)):Prop:=∀ (p0:L66) (y:Bool),c p0=some y→Spec Tryz.prog gl0 95 [.c (.list 66 ty66 p0)] [] (.c (.bool y)) []
theorem ek95 {R:Type} {c:L66→Option (Bool)} (hs:Sp95 c):EOk 95 (e95 (R:=R) c):=fun args objs k r h=>by
 unfold e95 at h
 obtain ⟨a0,l0,rfl,q1⟩:=qaa h
 obtain ⟨x0,rfl,q2⟩:=qaj q1
 obtain ⟨p0,rfl,q3⟩:=qae q2
 obtain ⟨rfl,q4⟩:=qag q3
 obtain ⟨rfl,q5⟩:=qaf q4
 exact qar (hs p0) q5
theorem sf95 {c96:C96} {c156:C156} (h96:Sp96 c96) (h156:Sp156 c156):Sp95 (F95 c96 c156):=fun p0 y hy=>by
 refine qap (G:=ent 96 (e96 c96) (ent 156 (e156 c156) (gnil))) (qai (ek96 h96) (qai (ek156 h156) (qao))) 1000000 (fn:=Tryz.f95) (by kernel_rfl) (by kernel_rfl) (X:=X95) (by kernel_rfl) ?_
 rw [fo95,hy]
 rfl
noncomputable def M95:L66→Option (Bool):=F95 M96 M156
theorem sm95:Sp95 M95:=sf95 sm96 sm156
def e97 {R:Type} (c:L3→Option (L3)):Ent R:=fun args objs k=>
 oCons args fun a0 l0=>oC a0 fun x0=>cList 3 ty3 x0 fun p0=>oNil l0 <| oNilO objs <| ob (c p0) fun y=>k (.c (.own 500)) [(500,.row 3 ty3 y)]
abbrev Sp97 (c:L3→Option (L3)):Prop:=∀ (p0:L3) (y:L3),c p0=some y→Spec Tryz.prog gl0 97 [.c (.list 3 ty3 p0)] [] (.c (.own 500)) [(500,.row 3 ty3 y)]
theorem ek97 {R:Type} {c:L3→Option (L3)} (hs:Sp97 c):EOk 97 (e97 (R:=R) c):=fun args objs k r h=>by
 unfold e97 at h
 obtain ⟨a0,l0,rfl,q1⟩:=qaa h
 obtain ⟨x0,rfl,q2⟩:=qaj q1
 obtain ⟨p0,rfl,q3⟩:=qae q2
 obtain ⟨rfl,q4⟩:=qag q3
 obtain ⟨rfl,q5⟩:=qaf q4
 exact qar (hs p0) q5
def M97:L3→Option (L3):=cloneF (t:=ty3) 8
theorem sm97:Sp97 M97:=by
 have h:∀ (B:Ops) (xs:List (Ty.den ty3)) (k:AV→Objs→Option AO),afun tau B gl0 X0 gnil ow Tryz.f97 [.c (.list 3 ty3 xs)] [] k 1=cloneT B 3 8 ty3 xs k:=fun B xs k=>by kernel_rfl
 refine clone_sp (fun xs v o h0=>?_) fun b=>?_
 ·exact qap (G:=gnil) qao 1 (fn:=Tryz.f97) (by kernel_rfl) (by kernel_rfl) (X:=X0) (by kernel_rfl) ((h _ _ _).trans h0)
 ·cases b<;>exact qap (G:=gnil) qao 1 (fn:=Tryz.f97) (by kernel_rfl) (by kernel_rfl) (X:=X0) (by kernel_rfl) (by kernel_rfl)
def X52:Aux:=⟨[(6,([0,1,2,5,6,7,8,9,10]++rg 14 25))],[]⟩
inductive S52 where
 | l0 (v0_1:Int) (v0_2:Int) (v0_3:L22) (v0_4:L3)
abbrev C95:Type:=L66→Option (Bool)
abbrev C97:Type:=L3→Option (L3)
def T52 {R:Type} (B:Ops) (c95:C95) (c96:C96) (c97:C97) (p0:L66) (again:S52→Option R) (k:(L22)→Option R):Option S52→Option R | none=>ob (c95 p0) fun y0=>cond (!y0) (k (mt (Ty.den ty22))) (again (.l0 (Nat.cast (List.length p0)) 0 (mt (Ty.den ty22)) (mt (Ty.den (Ty.int .i64))))) | some (.l0 v0_1 v0_2 v0_3 v0_4)=>cond (Ops.lt B v0_2 v0_1) (cond (Ops.inb B v0_2 (List.length p0)) (ob (c96 ((List.getD p0 (Int.toNat v0_2) (Ty.dflt ty66)).1)) fun y0=>cond (Ops.inb B (IntKind.wrap .i64 (Nat.cast (List.length v0_4)-y0)) (List.length v0_4+1)) (ob (c97 (List.drop (Int.toNat (IntKind.wrap .i64 (Nat.cast (List.length v0_4)-y0))) (List.take (List.length v0_4) v0_4))) fun y1=>cond (Ops.lim B (List.length v0_3+List.length (y1::mt (Ty.den ty22))) (24)) (cond (Ops.inb B (IntKind.wrap .i64 (Nat.cast (List.length v0_4)-y0)) (List.length v0_4+1)) (cond (Ops.lim B (List.length (List.take (Int.toNat (IntKind.wrap .i64 (Nat.cast (List.length v0_4)-y0))) v0_4)+List.length (v0_2::mt (Ty.den (Ty.int .i64)))) (8)) (again (.l0 v0_1 (IntKind.wrap .i64 (v0_2+1)) (v0_3++y1::mt (Ty.den ty22)) (List.take (Int.toNat (IntKind.wrap .i64 (Nat.cast (List.length v0_4)-y0))) v0_4++v0_2::mt (Ty.den (Ty.int .i64))))) (none)) (none)) (none)) (none)) (none)) (k v0_3)
def E52 (p0:L66):S52→List AV×Objs
 | .l0 v0_1 v0_2 v0_3 v0_4=>(mk 39 [(3,.c (.own 3)),(4,.c (.own 4)),(11,.c (.list 66 ty66 p0)),(12,.c (.int .i64 v0_1)),(13,.c (.int .i64 v0_2))],[(3,.row 22 ty22 v0_3),(4,.row 3 ty3 v0_4)])
def I52:S52→Nat
 | .l0 _ _ _ _=>0
theorem eq52 {R:Type} (B:Ops) (c95:C95) (c96:C96) (c97:C97) (p0:L66) (k:AV→Objs→Option R) (n:Nat):afun tau B gl0 X52 (ent 95 (e95 c95) (ent 96 (e96 c96) (ent 97 (e97 c97) (gnil)))) ow Tryz.f52 [.c (.list 66 ty66 p0)] [] k n=T52 B c95 c96 c97 p0 (fun s=>aloop tau B gl0 X52 (ent 95 (e95 c95) (ent 96 (e96 c96) (ent 97 (e97 c97) (gnil)))) ow [] Tryz.f52 k (I52 s) (E52 p0 s) n) (fun y=>k (.c (.own 500)) [(500,.row 22 ty22 y)]) none:=by kernel_rfl
theorem el52 {R:Type} (B:Ops) (c95:C95) (c96:C96) (c97:C97) (p0:L66) (k:AV→Objs→Option R) (n:Nat):∀ s,aloop tau B gl0 X52 (ent 95 (e95 c95) (ent 96 (e96 c96) (ent 97 (e97 c97) (gnil)))) ow [] Tryz.f52 k (I52 s) (E52 p0 s) (n+1)=T52 B c95 c96 c97 p0 (fun s=>aloop tau B gl0 X52 (ent 95 (e95 c95) (ent 96 (e96 c96) (ent 97 (e97 c97) (gnil)))) ow [] Tryz.f52 k (I52 s) (E52 p0 s) n) (fun y=>k (.c (.own 500)) [(500,.row 22 ty22 y)]) (some s)
 | .l0 v0_1 v0_2 v0_3 v0_4=>by kernel_rfl
theorem nt52 {R R':Type} (B:Ops) (c95:C95) (c96:C96) (c97:C97) (p0:L66) (again:S52→Option R) (again':S52→Option R') (k0:(L22)→Option R') (k:R'→Option R) (h:∀ s,again s=ob (again' s) k):∀ s,T52 B c95 c96 c97 p0 again (fun y=>ob (k0 y) k) s=ob (T52 B c95 c96 c97 p0 again' k0 s) k
 | none=>by unfold T52;repeat' first | exact rfl | exact h _ | apply qac | (apply qah;intro)
 | some (.l0 v0_1 v0_2 v0_3 v0_4)=>by unfold T52;repeat' first | exact rfl | exact h _ | apply qac | (apply qah;intro)
def R52 (c95:C95) (c96:C96) (c97:C97) (p0:L66):Nat→S52→Option (L22)
 | 0,_=>none
 | n+1,s=>T52 Ops.std c95 c96 c97 p0 (R52 c95 c96 c97 p0 n) some (some s)
theorem rr52 {R:Type} (c95:C95) (c96:C96) (c97:C97) (p0:L66) (k:AV→Objs→Option R):∀ (n:Nat) (s:S52),aloop tau Ops.std gl0 X52 (ent 95 (e95 c95) (ent 96 (e96 c96) (ent 97 (e97 c97) (gnil)))) ow [] Tryz.f52 k (I52 s) (E52 p0 s) n=ob (R52 c95 c96 c97 p0 n s) (fun y=>k (.c (.own 500)) [(500,.row 22 ty22 y)])
 | 0,s=>by cases s<;>rfl
 | n+1,s=>by rw [el52];exact nt52 Ops.std c95 c96 c97 p0 _ _ some (fun y=>k (.c (.own 500)) [(500,.row 22 ty22 y)]) (rr52 c95 c96 c97 p0 k n) (some s)
def F52 (c95:C95) (c96:C96) (c97:C97) (p0:L66):Option (L22):=T52 Ops.std c95 c96 c97 p0 (R52 c95 c96 c97 p0 1000000) some none
theorem fo52 {R:Type} (c95:C95) (c96:C96) (c97:C97) (p0:L66) (k:AV→Objs→Option R):afun tau Ops.std gl0 X52 (ent 95 (e95 c95) (ent 96 (e96 c96) (ent 97 (e97 c97) (gnil)))) ow Tryz.f52 [.c (.list 66 ty66 p0)] [] k 1000000=ob (F52 c95 c96 c97 p0) (fun y=>k (.c (.own 500)) [(500,.row 22 ty22 y)]):=by rw [eq52];exact nt52 Ops.std c95 c96 c97 p0 _ _ some (fun y=>k (.c (.own 500)) [(500,.row 22 ty22 y)]) (rr52 c95 c96 c97 p0 k 1000000) none
def e52 {R:Type} (c:L66→Option (L22)):Ent R:=fun args objs k=>
 oCons args fun a0 l0=>oC a0 fun x0=>cList 66 ty66 x0 fun p0=>oNil l0 <| oNilO objs <| ob (c p0) fun y=>k (.c (.own 500)) [(500,.row 22 ty22 y)]
abbrev Sp52 (c:L66→Option (L22)):Prop:=∀ (p0:L66) (y:L22),c p0=some y→Spec Tryz.prog gl0 52 [.c (.list 66 ty66 p0)] [] (.c (.own 500)) [(500,.row 22 ty22 y)]
theorem ek52 {R:Type} {c:L66→Option (L22)} (hs:Sp52 c):EOk 52 (e52 (R:=R) c):=fun args objs k r h=>by
 unfold e52 at h
 obtain ⟨a0,l0,rfl,q1⟩:=qaa h
 obtain ⟨x0,rfl,q2⟩:=qaj q1
 obtain ⟨p0,rfl,q3⟩:=qae q2
 obtain ⟨rfl,q4⟩:=qag q3
 obtain ⟨rfl,q5⟩:=qaf q4
 exact qar (hs p0) q5
theorem sf52 {c95:C95} {c96:C96} {c97:C97} (h95:Sp95 c95) (h96:Sp96 c96) (h97:Sp97 c97):Sp52 (F52 c95 c96 c97):=fun p0 y hy=>by
 refine qap (G:=ent 95 (e95 c95) (ent 96 (e96 c96) (ent 97 (e97 c97) (gnil)))) (qai (ek95 h95) (qai (ek96 h96) (qai (ek97 h97) (qao)))) 1000000 (fn:=Tryz.f52) (by kernel_rfl) (by kernel_rfl) (X:=X52) (by kernel_rfl) ?_
 rw [fo52,hy]
 rfl
noncomputable def M52:L66→Option (L22):=F52 M95 M96 M97
theorem sm52:Sp52 M52:=sf52 sm95 sm96 sm97
def X51:Aux:=⟨[(3,([1,2,4,5,6,7]++rg 11 32))],[]⟩
inductive S51 where
 | l0 (v0_2:Int) (v0_3:Int) (v0_4:L22)
abbrev C52:Type:=L66→Option (L22)
def T51 {R:Type} (B:Ops) (c52:C52) (p0:L66) (again:S51→Option R) (k:(Bool)→Option R):Option S51→Option R | none=>ob (c52 p0) fun y0=>again (.l0 (Nat.cast (List.length p0)) 0 y0) | some (.l0 v0_2 v0_3 v0_4)=>cond (Ops.lt B v0_3 v0_2) (cond (Ops.inb B v0_3 (List.length p0)) (cond (Ops.eq B ((List.getD p0 (Int.toNat v0_3) (Ty.dflt ty66)).1) (7)) (k false) (cond (Ops.eq B ((List.getD p0 (Int.toNat v0_3) (Ty.dflt ty66)).1) (11)) (k false) (cond (Ops.eq B ((List.getD p0 (Int.toNat v0_3) (Ty.dflt ty66)).1) (12)) (k false) (cond (Ops.eq B ((List.getD p0 (Int.toNat v0_3) (Ty.dflt ty66)).1) (4)) (cond (Ops.eq B (Nat.cast (List.length v0_4)) (0)) (k false) (cond (Ops.inb B v0_3 (List.length v0_4)) (cond (Ops.inb B (0) (List.length (List.getD v0_4 (Int.toNat v0_3) (Ty.dflt ty22)))) (cond (Ops.inb B (List.getD (List.getD v0_4 (Int.toNat v0_3) (Ty.dflt ty22)) (Int.toNat (0)) (Ty.dflt (Ty.int .i64))) (List.length p0)) (cond (!Ops.eq B ((List.getD p0 (Int.toNat (List.getD (List.getD v0_4 (Int.toNat v0_3) (Ty.dflt ty22)) (Int.toNat (0)) (Ty.dflt (Ty.int .i64)))) (Ty.dflt ty66)).1) (3)) (k false) (again (.l0 v0_2 (IntKind.wrap .i64 (v0_3+1)) v0_4))) (none)) (none)) (none))) (again (.l0 v0_2 (IntKind.wrap .i64 (v0_3+1)) v0_4)))))) (none)) (k (Ops.lt B (0) (Nat.cast (List.length v0_4))))
def E51 (p0:L66):S51→List AV×Objs
 | .l0 v0_2 v0_3 v0_4=>(mk 43 [(0,.c (.list 66 ty66 p0)),(3,.c (.own 3)),(8,.c (.list 66 ty66 p0)),(9,.c (.int .i64 v0_2)),(10,.c (.int .i64 v0_3))],[(3,.row 22 ty22 v0_4)])
def I51:S51→Nat
 | .l0 _ _ _=>0
theorem eq51 {R:Type} (B:Ops) (c52:C52) (p0:L66) (k:AV→Objs→Option R) (n:Nat):afun tau B gl0 X51 (ent 52 (e52 c52) (gnil)) ow Tryz.f51 [.c (.list 66 ty66 p0)] [] k n=T51 B c52 p0 (fun s=>aloop tau B gl0 X51 (ent 52 (e52 c52) (gnil)) ow [] Tryz.f51 k (I51 s) (E51 p0 s) n) (fun y=>k (.c (.bool y)) []) none:=by kernel_rfl
theorem el51 {R:Type} (B:Ops) (c52:C52) (p0:L66) (k:AV→Objs→Option R) (n:Nat):∀ s,aloop tau B gl0 X51 (ent 52 (e52 c52) (gnil)) ow [] Tryz.f51 k (I51 s) (E51 p0 s) (n+1)=T51 B c52 p0 (fun s=>aloop tau B gl0 X51 (ent 52 (e52 c52) (gnil)) ow [] Tryz.f51 k (I51 s) (E51 p0 s) n) (fun y=>k (.c (.bool y)) []) (some s)
 | .l0 v0_2 v0_3 v0_4=>by kernel_rfl
theorem nt51 {R R':Type} (B:Ops) (c52:C52) (p0:L66) (again:S51→Option R) (again':S51→Option R') (k0:(Bool)→Option R') (k:R'→Option R) (h:∀ s,again s=ob (again' s) k):∀ s,T51 B c52 p0 again (fun y=>ob (k0 y) k) s=ob (T51 B c52 p0 again' k0 s) k
 | none=>by unfold T51;repeat' first | exact rfl | exact h _ | apply qac | (apply qah;intro)
 | some (.l0 v0_2 v0_3 v0_4)=>by unfold T51;repeat' first | exact rfl | exact h _ | apply qac | (apply qah;intro)
def R51 (c52:C52) (p0:L66):Nat→S51→Option (Bool)
 | 0,_=>none
 | n+1,s=>T51 Ops.std c52 p0 (R51 c52 p0 n) some (some s)
theorem rr51 {R:Type} (c52:C52) (p0:L66) (k:AV→Objs→Option R):∀ (n:Nat) (s:S51),aloop tau Ops.std gl0 X51 (ent 52 (e52 c52) (gnil)) ow [] Tryz.f51 k (I51 s) (E51 p0 s) n=ob (R51 c52 p0 n s) (fun y=>k (.c (.bool y)) [])
 | 0,s=>by cases s<;>rfl
 | n+1,s=>by rw [el51];exact nt51 Ops.std c52 p0 _ _ some (fun y=>k (.c (.bool y)) []) (rr51 c52 p0 k n) (some s)
def F51 (c52:C52) (p0:L66):Option (Bool):=T51 Ops.std c52 p0 (R51 c52 p0 1000000) some none
theorem fo51 {R:Type} (c52:C52) (p0:L66) (k:AV→Objs→Option R):afun tau Ops.std gl0 X51 (ent 52 (e52 c52) (gnil)) ow Tryz.f51 [.c (.list 66 ty66 p0)] [] k 1000000=ob (F51 c52 p0) (fun y=>k (.c (.bool y)) []):=by rw [eq51];exact nt51 Ops.std c52 p0 _ _ some (fun y=>k (.c (.bool y)) []) (rr51 c52 p0 k 1000000) none
def e51 {R:Type} (c:L66→Option (Bool)):Ent R:=fun args objs k=>
 oCons args fun a0 l0=>oC a0 fun x0=>cList 66 ty66 x0 fun p0=>oNil l0 <| oNilO objs <| ob (c p0) fun y=>k (.c (.bool y)) []
abbrev Sp51 (c:L66→Option (Bool)):Prop:=∀ (p0:L66) (y:Bool),c p0=some y→Spec Tryz.prog gl0 51 [.c (.list 66 ty66 p0)] [] (.c (.bool y)) []
theorem ek51 {R:Type} {c:L66→Option (Bool)} (hs:Sp51 c):EOk 51 (e51 (R:=R) c):=fun args objs k r h=>by
 unfold e51 at h
 obtain ⟨a0,l0,rfl,q1⟩:=qaa h
 obtain ⟨x0,rfl,q2⟩:=qaj q1
 obtain ⟨p0,rfl,q3⟩:=qae q2
 obtain ⟨rfl,q4⟩:=qag q3
 obtain ⟨rfl,q5⟩:=qaf q4
 exact qar (hs p0) q5
theorem sf51 {c52:C52} (h52:Sp52 c52):Sp51 (F51 c52):=fun p0 y hy=>by
 refine qap (G:=ent 52 (e52 c52) (gnil)) (qai (ek52 h52) (qao)) 1000000 (fn:=Tryz.f51) (by kernel_rfl) (by kernel_rfl) (X:=X51) (by kernel_rfl) ?_
 rw [fo51,hy]
 rfl
noncomputable def M51:L66→Option (Bool):=F51 M52
theorem sm51:Sp51 M51:=sf51 sm52
def X65:Aux:=⟨[],[]⟩
def T65 {R:Type} (B:Ops) (p0:L68) (p1:L68) (p2:Int) (k:(L3×L3×L3)→Option R):Option R:=cond (Ops.lt B p2 (Nat.cast (List.length p0))) (cond (Ops.inb B p2 (List.length p0)) (k ((((List.getD p0 (Int.toNat p2) (Ty.dflt ty68)).1).1,((List.getD p0 (Int.toNat p2) (Ty.dflt ty68)).1).2,(List.getD p0 (Int.toNat p2) (Ty.dflt ty68)).2))) (none)) (cond (Ops.inb B (IntKind.wrap .i64 (p2-Nat.cast (List.length p0))) (List.length p1)) (k ((Prod.fst ((List.getD p1 (Int.toNat (IntKind.wrap .i64 (p2-Nat.cast (List.length p0)))) (Ty.dflt ty68)).1),Prod.snd ((List.getD p1 (Int.toNat (IntKind.wrap .i64 (p2-Nat.cast (List.length p0)))) (Ty.dflt ty68)).1),(List.getD p1 (Int.toNat (IntKind.wrap .i64 (p2-Nat.cast (List.length p0)))) (Ty.dflt ty68)).2))) (none))
theorem eq65 {R:Type} (B:Ops) (p0:L68) (p1:L68) (p2:Int) (k:AV→Objs→Option R) (n:Nat):afun tau B gl0 X65 (gnil) ow Tryz.f65 [.agg [.list 68 ty68 p0,.list 68 ty68 p1],.c (.int .i64 p2)] [] k n=T65 B p0 p1 p2 (fun y=>k (.agg [.list 3 ty3 y.1,.list 3 ty3 y.2.1,.list 3 ty3 y.2.2]) []):=by kernel_rfl
theorem nt65 {R R':Type} (B:Ops) (p0:L68) (p1:L68) (p2:Int) (k0:(L3×L3×L3)→Option R') (k:R'→Option R):T65 B p0 p1 p2 (fun y=>ob (k0 y) k)=ob (T65 B p0 p1 p2 k0) k:=by
 unfold T65
 repeat' first | exact rfl | apply qac | (apply qah;intro)
def F65 (p0:L68) (p1:L68) (p2:Int):Option (L3×L3×L3):=T65 Ops.std p0 p1 p2 some
theorem fo65 {R:Type} (p0:L68) (p1:L68) (p2:Int) (k:AV→Objs→Option R) (n:Nat):afun tau Ops.std gl0 X65 (gnil) ow Tryz.f65 [.agg [.list 68 ty68 p0,.list 68 ty68 p1],.c (.int .i64 p2)] [] k n=ob (F65 p0 p1 p2) (fun y=>k (.agg [.list 3 ty3 y.1,.list 3 ty3 y.2.1,.list 3 ty3 y.2.2]) []):=by rw [eq65];exact nt65 Ops.std p0 p1 p2 some (fun y=>k (.agg [.list 3 ty3 y.1,.list 3 ty3 y.2.1,.list 3 ty3 y.2.2]) [])
def e65 {R:Type} (c:L68→L68→Int→Option (L3×L3×L3)):Ent R:=fun args objs k=>
 oCons args fun a0 l0=>oAgg a0 fun x0=>cCons x0 fun z0_0 w0_0=>cList 68 ty68 z0_0 fun p0=>cCons w0_0 fun z0_1 w0_1=>cList 68 ty68 z0_1 fun p1=>cNil w0_1 <| oCons l0 fun a1 l1=>oC a1 fun x1=>cInt .i64 x1 fun p2=>oNil l1 <| oNilO objs <| ob (c p0 p1 p2) fun y=>k (.agg [.list 3 ty3 y.1,.list 3 ty3 y.2.1,.list 3 ty3 y.2.2]) []
abbrev Sp65 (c:L68→L68→Int→Option (L3×L3×L3)):Prop:=∀ (p0:L68) (p1:L68) (p2:Int) (y:L3×L3×L3),c p0 p1 p2=some y→Spec Tryz.prog gl0 65 [.agg [.list 68 ty68 p0,.list 68 ty68 p1],.c (.int .i64 p2)] [] (.agg [.list 3 ty3 y.1,.list 3 ty3 y.2.1,.list 3 ty3 y.2.2]) []
theorem ek65 {R:Type} {c:L68→L68→Int→Option (L3×L3×L3)} (hs:Sp65 c):EOk 65 (e65 (R:=R) c):=fun args objs k r h=>by
 unfold e65 at h
 obtain ⟨a0,l0,rfl,q1⟩:=qaa h
 obtain ⟨x0,rfl,q2⟩:=qax q1
 obtain ⟨z0_0,w0_0,rfl,q3⟩:=qad q2
 obtain ⟨p0,rfl,q4⟩:=qae q3
 obtain ⟨z0_1,w0_1,rfl,q5⟩:=qad q4
 obtain ⟨p1,rfl,q6⟩:=qae q5
 obtain ⟨rfl,q7⟩:=qat q6
 obtain ⟨a1,l1,rfl,q8⟩:=qaa q7
 obtain ⟨x1,rfl,q9⟩:=qaj q8
 obtain ⟨p2,rfl,q10⟩:=qal q9
 obtain ⟨rfl,q11⟩:=qag q10
 obtain ⟨rfl,q12⟩:=qaf q11
 exact qar (hs p0 p1 p2) q12
theorem sf65:Sp65 (F65):=fun p0 p1 p2 y hy=>by
 refine qap (G:=gnil) (qao) 1000000 (fn:=Tryz.f65) (by kernel_rfl) (by kernel_rfl) (X:=X65) (by kernel_rfl) ?_
 rw [fo65,hy]
 rfl
noncomputable def M65:L68→L68→Int→Option (L3×L3×L3):=F65
theorem sm65:Sp65 M65:=sf65
def X29:Aux:=⟨[],[]⟩
def T29 {R:Type} (B:Ops) (p0:Int) (p1:Int) (k:(Int)→Option R):Option R:=cond (Ops.eq B p1 (0)) (none) (cond (Ops.lt B (Int.tmod p0 p1) (0)) (k (IntKind.wrap .i64 (Int.tmod p0 p1+p1))) (k (Int.tmod p0 p1)))
theorem eq29 {R:Type} (B:Ops) (p0:Int) (p1:Int) (k:AV→Objs→Option R) (n:Nat):afun tau B gl0 X29 (gnil) ow Tryz.f29 [.c (.int .i64 p0),.c (.int .i64 p1)] [] k n=T29 B p0 p1 (fun y=>k (.c (.int .i64 y)) []):=by kernel_rfl
theorem nt29 {R R':Type} (B:Ops) (p0:Int) (p1:Int) (k0:(Int)→Option R') (k:R'→Option R):T29 B p0 p1 (fun y=>ob (k0 y) k)=ob (T29 B p0 p1 k0) k:=by
 unfold T29
 repeat' first | exact rfl | apply qac | (apply qah;intro)
def F29 (p0:Int) (p1:Int):Option (Int):=T29 Ops.std p0 p1 some
theorem fo29 {R:Type} (p0:Int) (p1:Int) (k:AV→Objs→Option R) (n:Nat):afun tau Ops.std gl0 X29 (gnil) ow Tryz.f29 [.c (.int .i64 p0),.c (.int .i64 p1)] [] k n=ob (F29 p0 p1) (fun y=>k (.c (.int .i64 y)) []):=by rw [eq29];exact nt29 Ops.std p0 p1 some (fun y=>k (.c (.int .i64 y)) [])
def e29 {R:Type} (c:Int→Int→Option (Int)):Ent R:=fun args objs k=>
 oCons args fun a0 l0=>oC a0 fun x0=>cInt .i64 x0 fun p0=>oCons l0 fun a1 l1=>oC a1 fun x1=>cInt .i64 x1 fun p1=>oNil l1 <| oNilO objs <| ob (c p0 p1) fun y=>k (.c (.int .i64 y)) []
abbrev Sp29 (c:Int→Int→Option (Int)):Prop:=∀ (p0:Int) (p1:Int) (y:Int),c p0 p1=some y→Spec Tryz.prog gl0 29 [.c (.int .i64 p0),.c (.int .i64 p1)] [] (.c (.int .i64 y)) []
theorem ek29 {R:Type} {c:Int→Int→Option (Int)} (hs:Sp29 c):EOk 29 (e29 (R:=R) c):=fun args objs k r h=>by
 unfold e29 at h
 obtain ⟨a0,l0,rfl,q1⟩:=qaa h
 obtain ⟨x0,rfl,q2⟩:=qaj q1
 obtain ⟨p0,rfl,q3⟩:=qal q2
 obtain ⟨a1,l1,rfl,q4⟩:=qaa q3
 obtain ⟨x1,rfl,q5⟩:=qaj q4
 obtain ⟨p1,rfl,q6⟩:=qal q5
 obtain ⟨rfl,q7⟩:=qag q6
 obtain ⟨rfl,q8⟩:=qaf q7
 exact qar (hs p0 p1) q8
theorem sf29:Sp29 (F29):=fun p0 p1 y hy=>by
 refine qap (G:=gnil) (qao) 1000000 (fn:=Tryz.f29) (by kernel_rfl) (by kernel_rfl) (X:=X29) (by kernel_rfl) ?_
 rw [fo29,hy]
 rfl
noncomputable def M29:Int→Int→Option (Int):=F29
theorem sm29:Sp29 M29:=sf29
def e182 {R:Type} (c:Int→Option (LB)):Ent R:=fun args objs k=>
 oCons args fun a0 l0=>oC a0 fun x0=>cInt .u64 x0 fun p0=>oNil l0 <| oNilO objs <| ob (c p0) fun y=>k (.c (.str y)) []
abbrev Sp182 (c:Int→Option (LB)):Prop:=∀ (p0:Int) (y:LB),c p0=some y→Spec Tryz.prog gl0 182 [.c (.int .u64 p0)] [] (.c (.str y)) []
theorem ek182 {R:Type} {c:Int→Option (LB)} (hs:Sp182 c):EOk 182 (e182 (R:=R) c):=fun args objs k r h=>by
 unfold e182 at h
 obtain ⟨a0,l0,rfl,q1⟩:=qaa h
 obtain ⟨x0,rfl,q2⟩:=qaj q1
 obtain ⟨p0,rfl,q3⟩:=qal q2
 obtain ⟨rfl,q4⟩:=qag q3
 obtain ⟨rfl,q5⟩:=qaf q4
 exact qar (hs p0) q5
def X182:Aux:=⟨[],[]⟩
abbrev C182:Type:=Int→Option (LB)
def T182 {R:Type} (B:Ops) (c182:C182) (p0:Int) (k:(LB)→Option R):Option R:=cond (Ops.eq B (10) (0)) (none) (cond (Ops.eq B (10) (0)) (none) (cond (Ops.inb B (IntKind.wrap IntKind.u64 (Int.tmod p0 (10)+1)) (10+1)) (cond (bif Ops.le B (0) (Int.tmod p0 (10)) then Ops.le B (Int.tmod p0 (10)) (IntKind.wrap IntKind.u64 (Int.tmod p0 (10)+1)) else false) (cond (Ops.lt B p0 (10)) (k (List.drop (Int.toNat (Int.tmod p0 (10))) (List.take (Int.toNat (IntKind.wrap IntKind.u64 (Int.tmod p0 (10)+1))) ([48,49,50,51,52,53,54,55,56,57]:LB)))) (cond (Ops.eq B (10) (0)) (none) (ob (c182 (IntKind.wrap IntKind.u64 (Int.tdiv p0 (10)))) fun y0=>cond (Ops.lim B (List.length y0+List.length (List.drop (Int.toNat (Int.tmod p0 (10))) (List.take (Int.toNat (IntKind.wrap IntKind.u64 (Int.tmod p0 (10)+1))) ([48,49,50,51,52,53,54,55,56,57]:LB)))) (1)) (k (y0++List.drop (Int.toNat (Int.tmod p0 (10))) (List.take (Int.toNat (IntKind.wrap IntKind.u64 (Int.tmod p0 (10)+1))) ([48,49,50,51,52,53,54,55,56,57]:LB)))) (none)))) (none)) (none)))
theorem eq182 {R:Type} (B:Ops) (c182:C182) (p0:Int) (k:AV→Objs→Option R) (n:Nat):afun tau B gl0 X182 (ent 182 (e182 c182) (gnil)) ow Tryz.f182 [.c (.int .u64 p0)] [] k n=T182 B c182 p0 (fun y=>k (.c (.str y)) []):=by kernel_rfl
theorem nt182 {R R':Type} (B:Ops) (c182:C182) (p0:Int) (k0:(LB)→Option R') (k:R'→Option R):T182 B c182 p0 (fun y=>ob (k0 y) k)=ob (T182 B c182 p0 k0) k:=by
 unfold T182
 repeat' first | exact rfl | apply qac | (apply qah;intro)
def F182 (c182:C182) (p0:Int):Option (LB):=T182 Ops.std c182 p0 some
theorem fo182 {R:Type} (c182:C182) (p0:Int) (k:AV→Objs→Option R) (n:Nat):afun tau Ops.std gl0 X182 (ent 182 (e182 c182) (gnil)) ow Tryz.f182 [.c (.int .u64 p0)] [] k n=ob (F182 c182 p0) (fun y=>k (.c (.str y)) []):=by rw [eq182];exact nt182 Ops.std c182 p0 some (fun y=>k (.c (.str y)) [])
theorem sf182 {c182:C182} (h182:Sp182 c182):Sp182 (F182 c182):=fun p0 y hy=>by
 refine qap (G:=ent 182 (e182 c182) (gnil)) (qai (ek182 h182) (qao)) 1000000 (fn:=Tryz.f182) (by kernel_rfl) (by kernel_rfl) (X:=X182) (by kernel_rfl) ?_
 rw [fo182,hy]
 rfl
noncomputable def Rec182:Nat→(Int→Option (LB))
 | 0=>fun _=>none
 | d+1=>F182 (Rec182 d)
theorem rec182:∀ d,Sp182 (Rec182 d)
 | 0=>fun p0 y (h:(none:Option (LB))=some y)=>by cases h
 | d+1=>sf182 (rec182 d)
noncomputable def M182:Int→Option (LB):=(Rec182 1000000)
theorem sm182:Sp182 M182:=(rec182 1000000)
def X151:Aux:=⟨[],[]⟩
def T151 {R:Type} (B:Ops) (c182:C182) (p0:Int) (k:(LB)→Option R):Option R:=cond (Ops.lt B p0 (0)) (ob (c182 (IntKind.wrap IntKind.u64 (IntKind.wrap IntKind.u64 (IntKind.wrap .i64 (0-IntKind.wrap .i64 (p0+1)))+1))) fun y0=>cond (Ops.lim B (1+List.length y0) (1)) (k (([45]:LB)++y0)) (none)) (ob (c182 (IntKind.wrap IntKind.u64 p0)) fun y0=>k y0)
theorem eq151 {R:Type} (B:Ops) (c182:C182) (p0:Int) (k:AV→Objs→Option R) (n:Nat):afun tau B gl0 X151 (ent 182 (e182 c182) (gnil)) ow Tryz.f151 [.c (.int .i64 p0)] [] k n=T151 B c182 p0 (fun y=>k (.c (.str y)) []):=by kernel_rfl
theorem nt151 {R R':Type} (B:Ops) (c182:C182) (p0:Int) (k0:(LB)→Option R') (k:R'→Option R):T151 B c182 p0 (fun y=>ob (k0 y) k)=ob (T151 B c182 p0 k0) k:=by
 unfold T151
 repeat' first | exact rfl | apply qac | (apply qah;intro)
def F151 (c182:C182) (p0:Int):Option (LB):=T151 Ops.std c182 p0 some
theorem fo151 {R:Type} (c182:C182) (p0:Int) (k:AV→Objs→Option R) (n:Nat):afun tau Ops.std gl0 X151 (ent 182 (e182 c182) (gnil)) ow Tryz.f151 [.c (.int .i64 p0)] [] k n=ob (F151 c182 p0) (fun y=>k (.c (.str y)) []):=by rw [eq151];exact nt151 Ops.std c182 p0 some (fun y=>k (.c (.str y)) [])
def e151 {R:Type} (c:Int→Option (LB)):Ent R:=fun args objs k=>
 oCons args fun a0 l0=>oC a0 fun x0=>cInt .i64 x0 fun p0=>oNil l0 <| oNilO objs <| ob (c p0) fun y=>k (.c (.str y)) []
abbrev Sp151 (c:Int→Option (LB)):Prop:=∀ (p0:Int) (y:LB),c p0=some y→Spec Tryz.prog gl0 151 [.c (.int .i64 p0)] [] (.c (.str y)) []
theorem ek151 {R:Type} {c:Int→Option (LB)} (hs:Sp151 c):EOk 151 (e151 (R:=R) c):=fun args objs k r h=>by
 unfold e151 at h
 obtain ⟨a0,l0,rfl,q1⟩:=qaa h
 obtain ⟨x0,rfl,q2⟩:=qaj q1
 obtain ⟨p0,rfl,q3⟩:=qal q2
 obtain ⟨rfl,q4⟩:=qag q3
 obtain ⟨rfl,q5⟩:=qaf q4
 exact qar (hs p0) q5
theorem sf151 {c182:C182} (h182:Sp182 c182):Sp151 (F151 c182):=fun p0 y hy=>by
 refine qap (G:=ent 182 (e182 c182) (gnil)) (qai (ek182 h182) (qao)) 1000000 (fn:=Tryz.f151) (by kernel_rfl) (by kernel_rfl) (X:=X151) (by kernel_rfl) ?_
 rw [fo151,hy]
 rfl
noncomputable def M151:Int→Option (LB):=F151 M182
theorem sm151:Sp151 M151:=sf151 sm182
def X91:Aux:=⟨[],[]⟩
abbrev C151:Type:=Int→Option (LB)
def T91 {R:Type} (B:Ops) (c151:C151) (p0:Int) (k:(LB)→Option R):Option R:=ob (c151 p0) fun y0=>k y0
theorem eq91 {R:Type} (B:Ops) (c151:C151) (p0:Int) (k:AV→Objs→Option R) (n:Nat):afun tau B gl0 X91 (ent 151 (e151 c151) (gnil)) ow Tryz.f91 [.c (.int .i64 p0)] [] k n=T91 B c151 p0 (fun y=>k (.c (.str y)) []):=by kernel_rfl
theorem nt91 {R R':Type} (B:Ops) (c151:C151) (p0:Int) (k0:(LB)→Option R') (k:R'→Option R):T91 B c151 p0 (fun y=>ob (k0 y) k)=ob (T91 B c151 p0 k0) k:=by
 unfold T91
 repeat' first | exact rfl | apply qac | (apply qah;intro)
def F91 (c151:C151) (p0:Int):Option (LB):=T91 Ops.std c151 p0 some
theorem fo91 {R:Type} (c151:C151) (p0:Int) (k:AV→Objs→Option R) (n:Nat):afun tau Ops.std gl0 X91 (ent 151 (e151 c151) (gnil)) ow Tryz.f91 [.c (.int .i64 p0)] [] k n=ob (F91 c151 p0) (fun y=>k (.c (.str y)) []):=by rw [eq91];exact nt91 Ops.std c151 p0 some (fun y=>k (.c (.str y)) [])
def e91 {R:Type} (c:Int→Option (LB)):Ent R:=fun args objs k=>
 oCons args fun a0 l0=>oC a0 fun x0=>cInt .i64 x0 fun p0=>oNil l0 <| oNilO objs <| ob (c p0) fun y=>k (.c (.str y)) []
abbrev Sp91 (c:Int→Option (LB)):Prop:=∀ (p0:Int) (y:LB),c p0=some y→Spec Tryz.prog gl0 91 [.c (.int .i64 p0)] [] (.c (.str y)) []
theorem ek91 {R:Type} {c:Int→Option (LB)} (hs:Sp91 c):EOk 91 (e91 (R:=R) c):=fun args objs k r h=>by
 unfold e91 at h
 obtain ⟨a0,l0,rfl,q1⟩:=qaa h
 obtain ⟨x0,rfl,q2⟩:=qaj q1
 obtain ⟨p0,rfl,q3⟩:=qal q2
 obtain ⟨rfl,q4⟩:=qag q3
 obtain ⟨rfl,q5⟩:=qaf q4
 exact qar (hs p0) q5
theorem sf91 {c151:C151} (h151:Sp151 c151):Sp91 (F91 c151):=fun p0 y hy=>by
 refine qap (G:=ent 151 (e151 c151) (gnil)) (qai (ek151 h151) (qao)) 1000000 (fn:=Tryz.f91) (by kernel_rfl) (by kernel_rfl) (X:=X91) (by kernel_rfl) ?_
 rw [fo91,hy]
 rfl
noncomputable def M91:Int→Option (LB):=F91 M151
theorem sm91:Sp91 M91:=sf91 sm151
def X94:Aux:=⟨[],[(4,.lin (rg 0 31))]⟩
abbrev C29:Type:=Int→Int→Option (Int)
def T94 {R:Type} (B:Ops) (c29:C29) (p0:Int) (p1:L3) (p2:Int) (k:(Int×L3×Int)→Option R):Option R:=cond (Ops.eq B (Nat.cast (List.length p1)) (0)) (k ((0,p1,p2))) (cond (Ops.eq B (Nat.cast (List.length p1)) (0)) (none) (cond (Ops.inb B (Int.tmod (IntKind.wrap .i64 (p2+1)) (Nat.cast (List.length p1))) (List.length p1)) (cond (Ops.eq B (Nat.cast (List.length p1)) (0)) (none) (cond (Ops.eq B (IntKind.wrap .i64 (1+IntKind.wrap .i64 (Int.tdiv (IntKind.wrap .i64 (p2+1)) (Nat.cast (List.length p1))))) (0)) (none) (ob (c29 (IntKind.wrap .i64 (Int.tdiv (List.getD p1 (Int.toNat (Int.tmod (IntKind.wrap .i64 (p2+1)) (Nat.cast (List.length p1)))) (Ty.dflt ty3)) (IntKind.wrap .i64 (1+IntKind.wrap .i64 (Int.tdiv (IntKind.wrap .i64 (p2+1)) (Nat.cast (List.length p1))))))) p0) fun y0=>k ((y0,p1,IntKind.wrap .i64 (p2+1)))))) (none)))
theorem eq94 {R:Type} (B:Ops) (c29:C29) (p0:Int) (p1:L3) (p2:Int) (k:AV→Objs→Option R) (n:Nat):afun tau B gl0 X94 (ent 29 (e29 c29) (gnil)) ow Tryz.f94 [.c (.ptr 0 0),.c (.int .i64 p0)] [(0,.box 86 [.list 3 ty3 p1,.int .i64 p2])] k n=T94 B c29 p0 p1 p2 (fun y=>k (.c (.int .i64 y.1)) [(0,.box 86 [.list 3 ty3 y.2.1,.int .i64 y.2.2])]):=by kernel_rfl
theorem nt94 {R R':Type} (B:Ops) (c29:C29) (p0:Int) (p1:L3) (p2:Int) (k0:(Int×L3×Int)→Option R') (k:R'→Option R):T94 B c29 p0 p1 p2 (fun y=>ob (k0 y) k)=ob (T94 B c29 p0 p1 p2 k0) k:=by
 unfold T94
 repeat' first | exact rfl | apply qac | (apply qah;intro)
def F94 (c29:C29) (p0:Int) (p1:L3) (p2:Int):Option (Int×L3×Int):=T94 Ops.std c29 p0 p1 p2 some
theorem fo94 {R:Type} (c29:C29) (p0:Int) (p1:L3) (p2:Int) (k:AV→Objs→Option R) (n:Nat):afun tau Ops.std gl0 X94 (ent 29 (e29 c29) (gnil)) ow Tryz.f94 [.c (.ptr 0 0),.c (.int .i64 p0)] [(0,.box 86 [.list 3 ty3 p1,.int .i64 p2])] k n=ob (F94 c29 p0 p1 p2) (fun y=>k (.c (.int .i64 y.1)) [(0,.box 86 [.list 3 ty3 y.2.1,.int .i64 y.2.2])]):=by rw [eq94];exact nt94 Ops.std c29 p0 p1 p2 some (fun y=>k (.c (.int .i64 y.1)) [(0,.box 86 [.list 3 ty3 y.2.1,.int .i64 y.2.2])])
def e94 {R:Type} (c:Int→L3→Int→Option (Int×L3×Int)):Ent R:=fun args objs k=>
 oCons args fun a0 l0=>oC a0 fun x0=>cPtr 0 x0 <| oCons l0 fun a1 l1=>oC a1 fun x1=>cInt .i64 x1 fun p0=>oNil l1 <| oBox 0 86 objs fun b0 o0=>cCons b0 fun u0_0 v0_0=>cList 3 ty3 u0_0 fun p1=>cCons v0_0 fun u0_1 v0_1=>cInt .i64 u0_1 fun p2=>cNil v0_1 <| oNilO o0 <| ob (c p0 p1 p2) fun y=>k (.c (.int .i64 y.1)) [(0,.box 86 [.list 3 ty3 y.2.1,.int .i64 y.2.2])]
abbrev Sp94 (c:Int→L3→Int→Option (Int×L3×Int)):Prop:=∀ (p0:Int) (p1:L3) (p2:Int) (y:Int×L3×Int),c p0 p1 p2=some y→Spec Tryz.prog gl0 94 [.c (.ptr 0 0),.c (.int .i64 p0)] [(0,.box 86 [.list 3 ty3 p1,.int .i64 p2])] (.c (.int .i64 y.1)) [(0,.box 86 [.list 3 ty3 y.2.1,.int .i64 y.2.2])]
theorem ek94 {R:Type} {c:Int→L3→Int→Option (Int×L3×Int)} (hs:Sp94 c):EOk 94 (e94 (R:=R) c):=fun args objs k r h=>by
 unfold e94 at h
 obtain ⟨a0,l0,rfl,q1⟩:=qaa h
 obtain ⟨x0,rfl,q2⟩:=qaj q1
 obtain ⟨rfl,q3⟩:=qa4 q2
 obtain ⟨a1,l1,rfl,q4⟩:=qaa q3
 obtain ⟨x1,rfl,q5⟩:=qaj q4
 obtain ⟨p0,rfl,q6⟩:=qal q5
 obtain ⟨rfl,q7⟩:=qag q6
 obtain ⟨b0,o0,rfl,q8⟩:=qa5 q7
 obtain ⟨u0_0,v0_0,rfl,q9⟩:=qad q8
 obtain ⟨p1,rfl,q10⟩:=qae q9
 obtain ⟨u0_1,v0_1,rfl,q11⟩:=qad q10
 obtain ⟨p2,rfl,q12⟩:=qal q11
 obtain ⟨rfl,q13⟩:=qat q12
 obtain ⟨rfl,q14⟩:=qaf q13
 exact qar (hs p0 p1 p2) q14
theorem sf94 {c29:C29} (h29:Sp29 c29):Sp94 (F94 c29):=fun p0 p1 p2 y hy=>by
 refine qap (G:=ent 29 (e29 c29) (gnil)) (qai (ek29 h29) (qao)) 1000000 (fn:=Tryz.f94) (by kernel_rfl) (by kernel_rfl) (X:=X94) (by kernel_rfl) ?_
 rw [fo94,hy]
 rfl
noncomputable def M94:Int→L3→Int→Option (Int×L3×Int):=F94 M29
theorem sm94:Sp94 M94:=sf94 sm29
def X152:Aux:=⟨[],[]⟩
abbrev C94:Type:=Int→L3→Int→Option (Int×L3×Int)
def T152 {R:Type} (B:Ops) (c94:C94) (p0:L3) (p1:Int) (k:(LB×L3×Int)→Option R):Option R:=ob (c94 (2) p0 p1) fun y0=>cond (Ops.inb B y0.1 (3)) (cond (Ops.lim B (List.length (List.getD ((120::mt UInt8)::(121::mt UInt8)::(122::mt UInt8)::mt LB) (Int.toNat y0.1) (mt UInt8))+2) (1)) (cond (Ops.lim B (List.length (List.getD ((120::mt UInt8)::(121::mt UInt8)::(122::mt UInt8)::mt LB) (Int.toNat y0.1) (mt UInt8))+2) (1)) (cond (Ops.lim B (List.length (List.getD ((120::mt UInt8)::(121::mt UInt8)::(122::mt UInt8)::mt LB) (Int.toNat y0.1) (mt UInt8))+3) (1)) (cond (Ops.lim B (List.length (List.getD ((120::mt UInt8)::(121::mt UInt8)::(122::mt UInt8)::mt LB) (Int.toNat y0.1) (mt UInt8))+2) (1)) (ob (c94 (9) y0.2.1 y0.2.2) fun y1=>cond (Ops.inb B y1.1 (9)) (k ((List.getD (([49]:LB)::([49]:LB)::(List.getD ((120::mt UInt8)::(121::mt UInt8)::(122::mt UInt8)::mt LB) (Int.toNat y0.1) (mt UInt8)++([60,49]:LB))::(List.getD ((120::mt UInt8)::(121::mt UInt8)::(122::mt UInt8)::mt LB) (Int.toNat y0.1) (mt UInt8)++([62,48]:LB))::(List.getD ((120::mt UInt8)::(121::mt UInt8)::(122::mt UInt8)::mt LB) (Int.toNat y0.1) (mt UInt8)++([61,61,49]:LB))::([120,33,61,121]:LB)::([112,64,97,124,124,120,60,50]:LB)::([33,40,113,64,98,41]:LB)::(List.getD ((120::mt UInt8)::(121::mt UInt8)::(122::mt UInt8)::mt LB) (Int.toNat y0.1) (mt UInt8)++([60,50]:LB))::mt LB) (Int.toNat y1.1) (mt UInt8),y1.2.1,y1.2.2))) (none)) (none)) (none)) (none)) (none)) (none)
theorem eq152 {R:Type} (B:Ops) (c94:C94) (p0:L3) (p1:Int) (k:AV→Objs→Option R) (n:Nat):afun tau B gl0 X152 (ent 94 (e94 c94) (gnil)) ow Tryz.f152 [.c (.ptr 0 0)] [(0,.box 86 [.list 3 ty3 p0,.int .i64 p1])] k n=T152 B c94 p0 p1 (fun y=>k (.c (.str y.1)) [(0,.box 86 [.list 3 ty3 y.2.1,.int .i64 y.2.2])]):=by kernel_rfl
theorem nt152 {R R':Type} (B:Ops) (c94:C94) (p0:L3) (p1:Int) (k0:(LB×L3×Int)→Option R') (k:R'→Option R):T152 B c94 p0 p1 (fun y=>ob (k0 y) k)=ob (T152 B c94 p0 p1 k0) k:=by
 unfold T152
 repeat' first | exact rfl | apply qac | (apply qah;intro)
def F152 (c94:C94) (p0:L3) (p1:Int):Option (LB×L3×Int):=T152 Ops.std c94 p0 p1 some
theorem fo152 {R:Type} (c94:C94) (p0:L3) (p1:Int) (k:AV→Objs→Option R) (n:Nat):afun tau Ops.std gl0 X152 (ent 94 (e94 c94) (gnil)) ow Tryz.f152 [.c (.ptr 0 0)] [(0,.box 86 [.list 3 ty3 p0,.int .i64 p1])] k n=ob (F152 c94 p0 p1) (fun y=>k (.c (.str y.1)) [(0,.box 86 [.list 3 ty3 y.2.1,.int .i64 y.2.2])]):=by rw [eq152];exact nt152 Ops.std c94 p0 p1 some (fun y=>k (.c (.str y.1)) [(0,.box 86 [.list 3 ty3 y.2.1,.int .i64 y.2.2])])
def e152 {R:Type} (c:L3→Int→Option (LB×L3×Int)):Ent R:=fun args objs k=>
 oCons args fun a0 l0=>oC a0 fun x0=>cPtr 0 x0 <| oNil l0 <| oBox 0 86 objs fun b0 o0=>cCons b0 fun u0_0 v0_0=>cList 3 ty3 u0_0 fun p0=>cCons v0_0 fun u0_1 v0_1=>cInt .i64 u0_1 fun p1=>cNil v0_1 <| oNilO o0 <| ob (c p0 p1) fun y=>k (.c (.str y.1)) [(0,.box 86 [.list 3 ty3 y.2.1,.int .i64 y.2.2])]
abbrev Sp152 (c:L3→Int→Option (LB×L3×Int)):Prop:=∀ (p0:L3) (p1:Int) (y:LB×L3×Int),c p0 p1=some y→Spec Tryz.prog gl0 152 [.c (.ptr 0 0)] [(0,.box 86 [.list 3 ty3 p0,.int .i64 p1])] (.c (.str y.1)) [(0,.box 86 [.list 3 ty3 y.2.1,.int .i64 y.2.2])]
theorem ek152 {R:Type} {c:L3→Int→Option (LB×L3×Int)} (hs:Sp152 c):EOk 152 (e152 (R:=R) c):=fun args objs k r h=>by
 unfold e152 at h
 obtain ⟨a0,l0,rfl,q1⟩:=qaa h
 obtain ⟨x0,rfl,q2⟩:=qaj q1
 obtain ⟨rfl,q3⟩:=qa4 q2
 obtain ⟨rfl,q4⟩:=qag q3
 obtain ⟨b0,o0,rfl,q5⟩:=qa5 q4
 obtain ⟨u0_0,v0_0,rfl,q6⟩:=qad q5
 obtain ⟨p0,rfl,q7⟩:=qae q6
 obtain ⟨u0_1,v0_1,rfl,q8⟩:=qad q7
 obtain ⟨p1,rfl,q9⟩:=qal q8
 obtain ⟨rfl,q10⟩:=qat q9
 obtain ⟨rfl,q11⟩:=qaf q10
 exact qar (hs p0 p1) q11
theorem sf152 {c94:C94} (h94:Sp94 c94):Sp152 (F152 c94):=fun p0 p1 y hy=>by
 refine qap (G:=ent 94 (e94 c94) (gnil)) (qai (ek94 h94) (qao)) 1000000 (fn:=Tryz.f152) (by kernel_rfl) (by kernel_rfl) (X:=X152) (by kernel_rfl) ?_
 rw [fo152,hy]
 rfl
noncomputable def M152:L3→Int→Option (LB×L3×Int):=F152 M94
theorem sm152:Sp152 M152:=sf152 sm94
def e153 {R:Type} (c:Int→L3→Int→Option (LB×L3×Int)):Ent R:=fun args objs k=>
 oCons args fun a0 l0=>oC a0 fun x0=>cPtr 0 x0 <| oCons l0 fun a1 l1=>oC a1 fun x1=>cInt .i64 x1 fun p0=>oNil l1 <| oBox 0 86 objs fun b0 o0=>cCons b0 fun u0_0 v0_0=>cList 3 ty3 u0_0 fun p1=>cCons v0_0 fun u0_1 v0_1=>cInt .i64 u0_1 fun p2=>cNil v0_1 <| oNilO o0 <| ob (c p0 p1 p2) fun y=>k (.c (.str y.1)) [(0,.box 86 [.list 3 ty3 y.2.1,.int .i64 y.2.2])]
abbrev Sp153 (c:Int→L3→Int→Option (LB×L3×Int)):Prop:=∀ (p0:Int) (p1:L3) (p2:Int) (y:LB×L3×Int),c p0 p1 p2=some y→Spec Tryz.prog gl0 153 [.c (.ptr 0 0),.c (.int .i64 p0)] [(0,.box 86 [.list 3 ty3 p1,.int .i64 p2])] (.c (.str y.1)) [(0,.box 86 [.list 3 ty3 y.2.1,.int .i64 y.2.2])]
theorem ek153 {R:Type} {c:Int→L3→Int→Option (LB×L3×Int)} (hs:Sp153 c):EOk 153 (e153 (R:=R) c):=fun args objs k r h=>by
 unfold e153 at h
 obtain ⟨a0,l0,rfl,q1⟩:=qaa h
 obtain ⟨x0,rfl,q2⟩:=qaj q1
 obtain ⟨rfl,q3⟩:=qa4 q2
 obtain ⟨a1,l1,rfl,q4⟩:=qaa q3
 obtain ⟨x1,rfl,q5⟩:=qaj q4
 obtain ⟨p0,rfl,q6⟩:=qal q5
 obtain ⟨rfl,q7⟩:=qag q6
 obtain ⟨b0,o0,rfl,q8⟩:=qa5 q7
 obtain ⟨u0_0,v0_0,rfl,q9⟩:=qad q8
 obtain ⟨p1,rfl,q10⟩:=qae q9
 obtain ⟨u0_1,v0_1,rfl,q11⟩:=qad q10
 obtain ⟨p2,rfl,q12⟩:=qal q11
 obtain ⟨rfl,q13⟩:=qat q12
 obtain ⟨rfl,q14⟩:=qaf q13
 exact qar (hs p0 p1 p2) q14
def X153:Aux:=⟨[(1000004,([2,3,4]++rg 6 111))],[(24,.lin ([0,5,1,2,3,4,6,7,8,9,10]))]⟩
inductive S153 where
 | l1004 (v1004_1:Int) (v1004_2:L3) (v1004_3:Int)
abbrev C153:Type:=Int→L3→Int→Option (LB×L3×Int)
def T153 {R:Type} (B:Ops) (c94:C94) (c153:C153) (p0:Int) (p1:L3) (p2:Int) (again:S153→Option R) (k:(LB×L3×Int)→Option R):Option S153→Option R | none=>ob (c94 (20) p1 p2) fun y0=>cond (Ops.lt B (3) p0) (cond (Ops.eq B (6) (0)) (none) (again (.l1004 (IntKind.wrap .i64 (14+Int.tmod y0.1 (6))) y0.2.1 y0.2.2))) (cond (Ops.lt B (14) y0.2.2) (cond (Ops.eq B (6) (0)) (none) (again (.l1004 (IntKind.wrap .i64 (14+Int.tmod y0.1 (6))) y0.2.1 y0.2.2))) (again (.l1004 y0.1 y0.2.1 y0.2.2))) | some (.l1004 v1004_1 v1004_2 v1004_3)=>cond (Ops.lt B v1004_1 (10)) (ob (c153 (IntKind.wrap .i64 (p0+1)) v1004_2 v1004_3) fun y0=>ob (c153 (IntKind.wrap .i64 (p0+1)) y0.2.1 y0.2.2) fun y1=>ob (c94 (11) y1.2.1 y1.2.2) fun y2=>cond (Ops.inb B y2.1 (11)) (ob (c94 (2) y2.2.1 y2.2.2) fun y3=>cond (Ops.eq B y3.1 (0)) (cond (Ops.lim B (1+List.length y0.1) (1)) (cond (Ops.lim B (List.length (([40]:LB)++y0.1)+1) (1)) (cond (Ops.lim B (List.length (([40]:LB)++y0.1++([41]:LB))+List.length (List.getD (([43]:LB)::([45]:LB)::([42]:LB)::([60]:LB)::([60,61]:LB)::([61,61]:LB)::([33,61]:LB)::([38,38]:LB)::([124,124]:LB)::([62]:LB)::([62,61]:LB)::mt LB) (Int.toNat y2.1) (mt UInt8))) (1)) (cond (Ops.lim B (List.length (([40]:LB)++y0.1++([41]:LB)++List.getD (([43]:LB)::([45]:LB)::([42]:LB)::([60]:LB)::([60,61]:LB)::([61,61]:LB)::([33,61]:LB)::([38,38]:LB)::([124,124]:LB)::([62]:LB)::([62,61]:LB)::mt LB) (Int.toNat y2.1) (mt UInt8))+1) (1)) (cond (Ops.lim B (List.length (([40]:LB)++y0.1++([41]:LB)++List.getD (([43]:LB)::([45]:LB)::([42]:LB)::([60]:LB)::([60,61]:LB)::([61,61]:LB)::([33,61]:LB)::([38,38]:LB)::([124,124]:LB)::([62]:LB)::([62,61]:LB)::mt LB) (Int.toNat y2.1) (mt UInt8)++([40]:LB))+List.length y1.1) (1)) (cond (Ops.lim B (List.length (([40]:LB)++y0.1++([41]:LB)++List.getD (([43]:LB)::([45]:LB)::([42]:LB)::([60]:LB)::([60,61]:LB)::([61,61]:LB)::([33,61]:LB)::([38,38]:LB)::([124,124]:LB)::([62]:LB)::([62,61]:LB)::mt LB) (Int.toNat y2.1) (mt UInt8)++([40]:LB)++y1.1)+1) (1)) (k ((([40]:LB)++y0.1++([41]:LB)++List.getD (([43]:LB)::([45]:LB)::([42]:LB)::([60]:LB)::([60,61]:LB)::([61,61]:LB)::([33,61]:LB)::([38,38]:LB)::([124,124]:LB)::([62]:LB)::([62,61]:LB)::mt LB) (Int.toNat y2.1) (mt UInt8)++([40]:LB)++y1.1++([41]:LB),y3.2.1,y3.2.2))) (none)) (none)) (none)) (none)) (none)) (none)) (cond (Ops.lim B (1+List.length y0.1) (1)) (cond (Ops.lim B (List.length (([40]:LB)++y0.1)+1) (1)) (cond (Ops.lim B (List.length (([40]:LB)++y0.1++([32]:LB))+List.length (List.getD (([43]:LB)::([45]:LB)::([42]:LB)::([60]:LB)::([60,61]:LB)::([61,61]:LB)::([33,61]:LB)::([38,38]:LB)::([124,124]:LB)::([62]:LB)::([62,61]:LB)::mt LB) (Int.toNat y2.1) (mt UInt8))) (1)) (cond (Ops.lim B (List.length (([40]:LB)++y0.1++([32]:LB)++List.getD (([43]:LB)::([45]:LB)::([42]:LB)::([60]:LB)::([60,61]:LB)::([61,61]:LB)::([33,61]:LB)::([38,38]:LB)::([124,124]:LB)::([62]:LB)::([62,61]:LB)::mt LB) (Int.toNat y2.1) (mt UInt8))+1) (1)) (cond (Ops.lim B (List.length (([40]:LB)++y0.1++([32]:LB)++List.getD (([43]:LB)::([45]:LB)::([42]:LB)::([60]:LB)::([60,61]:LB)::([61,61]:LB)::([33,61]:LB)::([38,38]:LB)::([124,124]:LB)::([62]:LB)::([62,61]:LB)::mt LB) (Int.toNat y2.1) (mt UInt8)++([32]:LB))+List.length y1.1) (1)) (cond (Ops.lim B (List.length (([40]:LB)++y0.1++([32]:LB)++List.getD (([43]:LB)::([45]:LB)::([42]:LB)::([60]:LB)::([60,61]:LB)::([61,61]:LB)::([33,61]:LB)::([38,38]:LB)::([124,124]:LB)::([62]:LB)::([62,61]:LB)::mt LB) (Int.toNat y2.1) (mt UInt8)++([32]:LB)++y1.1)+1) (1)) (k ((([40]:LB)++y0.1++([32]:LB)++List.getD (([43]:LB)::([45]:LB)::([42]:LB)::([60]:LB)::([60,61]:LB)::([61,61]:LB)::([33,61]:LB)::([38,38]:LB)::([124,124]:LB)::([62]:LB)::([62,61]:LB)::mt LB) (Int.toNat y2.1) (mt UInt8)++([32]:LB)++y1.1++([41]:LB),y3.2.1,y3.2.2))) (none)) (none)) (none)) (none)) (none)) (none))) (none)) (cond (Ops.eq B v1004_1 (10)) (ob (c153 (IntKind.wrap .i64 (p0+1)) v1004_2 v1004_3) fun y0=>cond (Ops.lim B (2+List.length y0.1) (1)) (cond (Ops.lim B (List.length (([33,40]:LB)++y0.1)+1) (1)) (k ((([33,40]:LB)++y0.1++([41]:LB),y0.2.1,y0.2.2))) (none)) (none)) (cond (Ops.eq B v1004_1 (11)) (ob (c153 (IntKind.wrap .i64 (p0+1)) v1004_2 v1004_3) fun y0=>cond (Ops.lim B (2+List.length y0.1) (1)) (cond (Ops.lim B (List.length (([45,40]:LB)++y0.1)+1) (1)) (k ((([45,40]:LB)++y0.1++([41]:LB),y0.2.1,y0.2.2))) (none)) (none)) (cond (Ops.eq B v1004_1 (12)) (ob (c153 (IntKind.wrap .i64 (p0+1)) v1004_2 v1004_3) fun y0=>cond (Ops.lim B (List.length y0.1+1) (1)) (ob (c153 (IntKind.wrap .i64 (p0+1)) y0.2.1 y0.2.2) fun y1=>cond (Ops.lim B (List.length (y0.1++([43]:LB))+List.length y1.1) (1)) (k ((y0.1++([43]:LB)++y1.1,y1.2.1,y1.2.2))) (none)) (none)) (cond (Ops.eq B v1004_1 (13)) (ob (c153 (IntKind.wrap .i64 (p0+1)) v1004_2 v1004_3) fun y0=>cond (Ops.lim B (2+List.length y0.1) (1)) (k ((([33,33]:LB)++y0.1,y0.2.1,y0.2.2))) (none)) (cond (Ops.eq B v1004_1 (14)) (ob (c94 (4) v1004_2 v1004_3) fun y0=>cond (Ops.inb B y0.1 (4)) (k ((List.getD (([48]:LB)::([49]:LB)::([50]:LB)::([48,48,55]:LB)::mt LB) (Int.toNat y0.1) (mt UInt8),y0.2.1,y0.2.2))) (none)) (cond (Ops.eq B v1004_1 (15)) (ob (c94 (4) v1004_2 v1004_3) fun y0=>cond (Ops.inb B y0.1 (4)) (k ((List.getD (([48]:LB)::([49]:LB)::([50]:LB)::([48,48,55]:LB)::mt LB) (Int.toNat y0.1) (mt UInt8),y0.2.1,y0.2.2))) (none)) (cond (Ops.eq B v1004_1 (16)) (ob (c94 (2) v1004_2 v1004_3) fun y0=>cond (Ops.inb B y0.1 (3)) (cond (Ops.lim B (List.length (List.getD ((112::mt UInt8)::(113::mt UInt8)::(114::mt UInt8)::mt LB) (Int.toNat y0.1) (mt UInt8))+1) (1)) (ob (c94 (3) y0.2.1 y0.2.2) fun y1=>cond (Ops.inb B y1.1 (4)) (cond (Ops.lim B (List.length (List.getD ((112::mt UInt8)::(113::mt UInt8)::(114::mt UInt8)::mt LB) (Int.toNat y0.1) (mt UInt8)++([64]:LB))+List.length (List.getD ((97::mt UInt8)::(98::mt UInt8)::(99::mt UInt8)::(100::mt UInt8)::mt LB) (Int.toNat y1.1) (mt UInt8))) (1)) (k ((List.getD ((112::mt UInt8)::(113::mt UInt8)::(114::mt UInt8)::mt LB) (Int.toNat y0.1) (mt UInt8)++([64]:LB)++List.getD ((97::mt UInt8)::(98::mt UInt8)::(99::mt UInt8)::(100::mt UInt8)::mt LB) (Int.toNat y1.1) (mt UInt8),y1.2.1,y1.2.2))) (none)) (none)) (none)) (none)) (ob (c94 (2) v1004_2 v1004_3) fun y0=>cond (Ops.inb B y0.1 (3)) (k ((List.getD ((120::mt UInt8)::(121::mt UInt8)::(122::mt UInt8)::mt LB) (Int.toNat y0.1) (mt UInt8),y0.2.1,y0.2.2))) (none)))))))))
def E153 (p0:Int) (p1:L3) (p2:Int):S153→List AV×Objs
 | .l1004 v1004_1 v1004_2 v1004_3=>(mk 117 [(0,.c (.ptr 0 0)),(1,.c (.int .i64 p0)),(5,.c (.int .i64 v1004_1))],[(0,.box 86 [.list 3 ty3 v1004_2,.int .i64 v1004_3])])
def I153:S153→Nat
 | .l1004 _ _ _=>1004
theorem eq153 {R:Type} (B:Ops) (c94:C94) (c153:C153) (p0:Int) (p1:L3) (p2:Int) (k:AV→Objs→Option R) (n:Nat):afun tau B gl0 X153 (ent 94 (e94 c94) (ent 153 (e153 c153) (gnil))) ow Tryz.f153 [.c (.ptr 0 0),.c (.int .i64 p0)] [(0,.box 86 [.list 3 ty3 p1,.int .i64 p2])] k n=T153 B c94 c153 p0 p1 p2 (fun s=>aloop tau B gl0 X153 (ent 94 (e94 c94) (ent 153 (e153 c153) (gnil))) ow [0] Tryz.f153 k (I153 s) (E153 p0 p1 p2 s) n) (fun y=>k (.c (.str y.1)) [(0,.box 86 [.list 3 ty3 y.2.1,.int .i64 y.2.2])]) none:=by kernel_rfl
theorem el153 {R:Type} (B:Ops) (c94:C94) (c153:C153) (p0:Int) (p1:L3) (p2:Int) (k:AV→Objs→Option R) (n:Nat):∀ s,aloop tau B gl0 X153 (ent 94 (e94 c94) (ent 153 (e153 c153) (gnil))) ow [0] Tryz.f153 k (I153 s) (E153 p0 p1 p2 s) (n+1)=T153 B c94 c153 p0 p1 p2 (fun s=>aloop tau B gl0 X153 (ent 94 (e94 c94) (ent 153 (e153 c153) (gnil))) ow [0] Tryz.f153 k (I153 s) (E153 p0 p1 p2 s) n) (fun y=>k (.c (.str y.1)) [(0,.box 86 [.list 3 ty3 y.2.1,.int .i64 y.2.2])]) (some s)
 | .l1004 v1004_1 v1004_2 v1004_3=>by kernel_rfl
theorem nt153 {R R':Type} (B:Ops) (c94:C94) (c153:C153) (p0:Int) (p1:L3) (p2:Int) (again:S153→Option R) (again':S153→Option R') (k0:(LB×L3×Int)→Option R') (k:R'→Option R) (h:∀ s,again s=ob (again' s) k):∀ s,T153 B c94 c153 p0 p1 p2 again (fun y=>ob (k0 y) k) s=ob (T153 B c94 c153 p0 p1 p2 again' k0 s) k
 | none=>by unfold T153;repeat' first | exact rfl | exact h _ | apply qac | (apply qah;intro)
 | some (.l1004 v1004_1 v1004_2 v1004_3)=>by unfold T153;repeat' first | exact rfl | exact h _ | apply qac | (apply qah;intro)
def R153 (c94:C94) (c153:C153) (p0:Int) (p1:L3) (p2:Int):Nat→S153→Option (LB×L3×Int)
 | 0,_=>none
 | n+1,s=>T153 Ops.std c94 c153 p0 p1 p2 (R153 c94 c153 p0 p1 p2 n) some (some s)
theorem rr153 {R:Type} (c94:C94) (c153:C153) (p0:Int) (p1:L3) (p2:Int) (k:AV→Objs→Option R):∀ (n:Nat) (s:S153),aloop tau Ops.std gl0 X153 (ent 94 (e94 c94) (ent 153 (e153 c153) (gnil))) ow [0] Tryz.f153 k (I153 s) (E153 p0 p1 p2 s) n=ob (R153 c94 c153 p0 p1 p2 n s) (fun y=>k (.c (.str y.1)) [(0,.box 86 [.list 3 ty3 y.2.1,.int .i64 y.2.2])])
 | 0,s=>by cases s<;>rfl
 | n+1,s=>by rw [el153];exact nt153 Ops.std c94 c153 p0 p1 p2 _ _ some (fun y=>k (.c (.str y.1)) [(0,.box 86 [.list 3 ty3 y.2.1,.int .i64 y.2.2])]) (rr153 c94 c153 p0 p1 p2 k n) (some s)
def F153 (c94:C94) (c153:C153) (p0:Int) (p1:L3) (p2:Int):Option (LB×L3×Int):=T153 Ops.std c94 c153 p0 p1 p2 (R153 c94 c153 p0 p1 p2 1000000) some none
theorem fo153 {R:Type} (c94:C94) (c153:C153) (p0:Int) (p1:L3) (p2:Int) (k:AV→Objs→Option R):afun tau Ops.std gl0 X153 (ent 94 (e94 c94) (ent 153 (e153 c153) (gnil))) ow Tryz.f153 [.c (.ptr 0 0),.c (.int .i64 p0)] [(0,.box 86 [.list 3 ty3 p1,.int .i64 p2])] k 1000000=ob (F153 c94 c153 p0 p1 p2) (fun y=>k (.c (.str y.1)) [(0,.box 86 [.list 3 ty3 y.2.1,.int .i64 y.2.2])]):=by rw [eq153];exact nt153 Ops.std c94 c153 p0 p1 p2 _ _ some (fun y=>k (.c (.str y.1)) [(0,.box 86 [.list 3 ty3 y.2.1,.int .i64 y.2.2])]) (rr153 c94 c153 p0 p1 p2 k 1000000) none
theorem sf153 {c94:C94} {c153:C153} (h94:Sp94 c94) (h153:Sp153 c153):Sp153 (F153 c94 c153):=fun p0 p1 p2 y hy=>by
 refine qap (G:=ent 94 (e94 c94) (ent 153 (e153 c153) (gnil))) (qai (ek94 h94) (qai (ek153 h153) (qao))) 1000000 (fn:=Tryz.f153) (by kernel_rfl) (by kernel_rfl) (X:=X153) (by kernel_rfl) ?_
 rw [fo153,hy]
 rfl
noncomputable def Rec153:Nat→(Int→L3→Int→Option (LB×L3×Int))
 | 0=>fun _ _ _=>none
 | d+1=>F153 M94 (Rec153 d)
theorem rec153:∀ d,Sp153 (Rec153 d)
 | 0=>fun p0 p1 p2 y (h:(none:Option (LB×L3×Int))=some y)=>by cases h
 | d+1=>sf153 sm94 (rec153 d)
noncomputable def M153:Int→L3→Int→Option (LB×L3×Int):=(Rec153 1000000)
theorem sm153:Sp153 M153:=(rec153 1000000)
def X154:Aux:=⟨[],[(2,.lin (rg 0 10++[14,10,11,12,13,15,16,17]))]⟩
def T154 {R:Type} (B:Ops) (c94:C94) (p0:L3) (p1:Int) (k:(LB×L3×Int)→Option R):Option R:=ob (c94 (2) p0 p1) fun y0=>cond (Ops.inb B y0.1 (3)) (cond (Ops.lim B (2+List.length (List.getD ((120::mt UInt8)::(121::mt UInt8)::(122::mt UInt8)::mt LB) (Int.toNat y0.1) (mt UInt8))) (1)) (cond (Ops.lim B (List.length (List.getD ((120::mt UInt8)::(121::mt UInt8)::(122::mt UInt8)::mt LB) (Int.toNat y0.1) (mt UInt8))+2) (1)) (cond (Ops.lim B (List.length (List.getD ((120::mt UInt8)::(121::mt UInt8)::(122::mt UInt8)::mt LB) (Int.toNat y0.1) (mt UInt8))+2) (1)) (cond (Ops.lim B (2+List.length (List.getD ((120::mt UInt8)::(121::mt UInt8)::(122::mt UInt8)::mt LB) (Int.toNat y0.1) (mt UInt8))) (1)) (ob (c94 (2) y0.2.1 y0.2.2) fun y1=>cond (Ops.inb B y1.1 (3)) (ob (c94 (8) y1.2.1 y1.2.2) fun y2=>cond (Ops.inb B y2.1 (8)) (k ((List.getD (([48]:LB)::([49]:LB)::List.getD ((120::mt UInt8)::(121::mt UInt8)::(122::mt UInt8)::mt LB) (Int.toNat y0.1) (mt UInt8)::(([49,45]:LB)++List.getD ((120::mt UInt8)::(121::mt UInt8)::(122::mt UInt8)::mt LB) (Int.toNat y0.1) (mt UInt8))::(List.getD ((120::mt UInt8)::(121::mt UInt8)::(122::mt UInt8)::mt LB) (Int.toNat y0.1) (mt UInt8)++([43,49]:LB))::(List.getD ((120::mt UInt8)::(121::mt UInt8)::(122::mt UInt8)::mt LB) (Int.toNat y0.1) (mt UInt8)++([45,49]:LB))::(([50,45]:LB)++List.getD ((120::mt UInt8)::(121::mt UInt8)::(122::mt UInt8)::mt LB) (Int.toNat y0.1) (mt UInt8))::List.getD ((120::mt UInt8)::(121::mt UInt8)::(122::mt UInt8)::mt LB) (Int.toNat y1.1) (mt UInt8)::mt LB) (Int.toNat y2.1) (mt UInt8),y2.2.1,y2.2.2))) (none)) (none)) (none)) (none)) (none)) (none)) (none)
theorem eq154 {R:Type} (B:Ops) (c94:C94) (p0:L3) (p1:Int) (k:AV→Objs→Option R) (n:Nat):afun tau B gl0 X154 (ent 94 (e94 c94) (gnil)) ow Tryz.f154 [.c (.ptr 0 0)] [(0,.box 86 [.list 3 ty3 p0,.int .i64 p1])] k n=T154 B c94 p0 p1 (fun y=>k (.c (.str y.1)) [(0,.box 86 [.list 3 ty3 y.2.1,.int .i64 y.2.2])]):=by kernel_rfl
theorem nt154 {R R':Type} (B:Ops) (c94:C94) (p0:L3) (p1:Int) (k0:(LB×L3×Int)→Option R') (k:R'→Option R):T154 B c94 p0 p1 (fun y=>ob (k0 y) k)=ob (T154 B c94 p0 p1 k0) k:=by
 unfold T154
 repeat' first | exact rfl | apply qac | (apply qah;intro)
def F154 (c94:C94) (p0:L3) (p1:Int):Option (LB×L3×Int):=T154 Ops.std c94 p0 p1 some
theorem fo154 {R:Type} (c94:C94) (p0:L3) (p1:Int) (k:AV→Objs→Option R) (n:Nat):afun tau Ops.std gl0 X154 (ent 94 (e94 c94) (gnil)) ow Tryz.f154 [.c (.ptr 0 0)] [(0,.box 86 [.list 3 ty3 p0,.int .i64 p1])] k n=ob (F154 c94 p0 p1) (fun y=>k (.c (.str y.1)) [(0,.box 86 [.list 3 ty3 y.2.1,.int .i64 y.2.2])]):=by rw [eq154];exact nt154 Ops.std c94 p0 p1 some (fun y=>k (.c (.str y.1)) [(0,.box 86 [.list 3 ty3 y.2.1,.int .i64 y.2.2])])
def e154 {R:Type} (c:L3→Int→Option (LB×L3×Int)):Ent R:=fun args objs k=>
 oCons args fun a0 l0=>oC a0 fun x0=>cPtr 0 x0 <| oNil l0 <| oBox 0 86 objs fun b0 o0=>cCons b0 fun u0_0 v0_0=>cList 3 ty3 u0_0 fun p0=>cCons v0_0 fun u0_1 v0_1=>cInt .i64 u0_1 fun p1=>cNil v0_1 <| oNilO o0 <| ob (c p0 p1) fun y=>k (.c (.str y.1)) [(0,.box 86 [.list 3 ty3 y.2.1,.int .i64 y.2.2])]
abbrev Sp154 (c:L3→Int→Option (LB×L3×Int)):Prop:=∀ (p0:L3) (p1:Int) (y:LB×L3×Int),c p0 p1=some y→Spec Tryz.prog gl0 154 [.c (.ptr 0 0)] [(0,.box 86 [.list 3 ty3 p0,.int .i64 p1])] (.c (.str y.1)) [(0,.box 86 [.list 3 ty3 y.2.1,.int .i64 y.2.2])]
theorem ek154 {R:Type} {c:L3→Int→Option (LB×L3×Int)} (hs:Sp154 c):EOk 154 (e154 (R:=R) c):=fun args objs k r h=>by
 unfold e154 at h
 obtain ⟨a0,l0,rfl,q1⟩:=qaa h
 obtain ⟨x0,rfl,q2⟩:=qaj q1
 obtain ⟨rfl,q3⟩:=qa4 q2
 obtain ⟨rfl,q4⟩:=qag q3
 obtain ⟨b0,o0,rfl,q5⟩:=qa5 q4
 obtain ⟨u0_0,v0_0,rfl,q6⟩:=qad q5
 obtain ⟨p0,rfl,q7⟩:=qae q6
 obtain ⟨u0_1,v0_1,rfl,q8⟩:=qad q7
 obtain ⟨p1,rfl,q9⟩:=qal q8
 obtain ⟨rfl,q10⟩:=qat q9
 obtain ⟨rfl,q11⟩:=qaf q10
 exact qar (hs p0 p1) q11
theorem sf154 {c94:C94} (h94:Sp94 c94):Sp154 (F154 c94):=fun p0 p1 y hy=>by
 refine qap (G:=ent 94 (e94 c94) (gnil)) (qai (ek94 h94) (qao)) 1000000 (fn:=Tryz.f154) (by kernel_rfl) (by kernel_rfl) (X:=X154) (by kernel_rfl) ?_
 rw [fo154,hy]
 rfl
noncomputable def M154:L3→Int→Option (LB×L3×Int):=F154 M94
theorem sm154:Sp154 M154:=sf154 sm94
def X92:Aux:=⟨[(9,([0,1,2,3,4,7]++rg 10 84))],[(2,.lin ([0,1,6,12,18,19,2,3,4,5,7,8,9,10,11,13,14,15,16,17,20,21,22,23,24])),(14,.lin ([0,1,2,3,4,5,6,13,7,8,9,10,11,12,14,15,16]))]⟩
inductive S92 where
 | l0 (v0_0:LB) (v0_1:Int) (v0_2:Int) (v0_3:L3) (v0_4:Int)
abbrev C152:Type:=L3→Int→Option (LB×L3×Int)
abbrev C154:Type:=L3→Int→Option (LB×L3×Int)
def T92 {R:Type} (B:Ops) (c94:C94) (c152:C152) (c153:C153) (c154:C154) (p0:L3) (p1:Int) (again:S92→Option R) (k:(LB)→Option R):Option S92→Option R | none=>ob (c94 p1 p0 (0)) fun y0=>cond (Ops.inb B y0.1 (3)) (cond (Ops.lim B (List.length (List.getD ((112::mt UInt8)::(113::mt UInt8)::(114::mt UInt8)::mt LB) (Int.toNat y0.1) (mt UInt8))+1) (1)) (ob (c94 (3) y0.2.1 y0.2.2) fun y1=>cond (Ops.inb B y1.1 (4)) (cond (Ops.lim B (List.length (List.getD ((112::mt UInt8)::(113::mt UInt8)::(114::mt UInt8)::mt LB) (Int.toNat y0.1) (mt UInt8)++([32]:LB))+List.length (List.getD ((97::mt UInt8)::(98::mt UInt8)::(99::mt UInt8)::(100::mt UInt8)::mt LB) (Int.toNat y1.1) (mt UInt8))) (1)) (cond (Ops.lim B (List.length (List.getD ((112::mt UInt8)::(113::mt UInt8)::(114::mt UInt8)::mt LB) (Int.toNat y0.1) (mt UInt8)++([32]:LB)++List.getD ((97::mt UInt8)::(98::mt UInt8)::(99::mt UInt8)::(100::mt UInt8)::mt LB) (Int.toNat y1.1) (mt UInt8))+1) (1)) (ob (c94 (3) y1.2.1 y1.2.2) fun y2=>cond (Ops.inb B y2.1 (4)) (cond (Ops.lim B (List.length (List.getD ((112::mt UInt8)::(113::mt UInt8)::(114::mt UInt8)::mt LB) (Int.toNat y0.1) (mt UInt8)++([32]:LB)++List.getD ((97::mt UInt8)::(98::mt UInt8)::(99::mt UInt8)::(100::mt UInt8)::mt LB) (Int.toNat y1.1) (mt UInt8)++([32]:LB))+List.length (List.getD ((97::mt UInt8)::(98::mt UInt8)::(99::mt UInt8)::(100::mt UInt8)::mt LB) (Int.toNat y2.1) (mt UInt8))) (1)) (cond (Ops.lim B (List.length (List.getD ((112::mt UInt8)::(113::mt UInt8)::(114::mt UInt8)::mt LB) (Int.toNat y0.1) (mt UInt8)++([32]:LB)++List.getD ((97::mt UInt8)::(98::mt UInt8)::(99::mt UInt8)::(100::mt UInt8)::mt LB) (Int.toNat y1.1) (mt UInt8)++([32]:LB)++List.getD ((97::mt UInt8)::(98::mt UInt8)::(99::mt UInt8)::(100::mt UInt8)::mt LB) (Int.toNat y2.1) (mt UInt8))+1) (1)) (ob (c94 (8) y2.2.1 y2.2.2) fun y3=>cond (Ops.inb B y3.1 (8)) (cond (Ops.lim B (List.length (List.getD ((112::mt UInt8)::(113::mt UInt8)::(114::mt UInt8)::mt LB) (Int.toNat y0.1) (mt UInt8)++([32]:LB)++List.getD ((97::mt UInt8)::(98::mt UInt8)::(99::mt UInt8)::(100::mt UInt8)::mt LB) (Int.toNat y1.1) (mt UInt8)++([32]:LB)++List.getD ((97::mt UInt8)::(98::mt UInt8)::(99::mt UInt8)::(100::mt UInt8)::mt LB) (Int.toNat y2.1) (mt UInt8)++([32]:LB))+List.length (List.getD (([45]:LB)::([45]:LB)::([45]:LB)::([45]:LB)::([99,33]:LB)::([99,63]:LB)::([100,33]:LB)::([99,63]:LB)::mt LB) (Int.toNat y3.1) (mt UInt8))) (1)) (cond (Ops.lim B (List.length (List.getD ((112::mt UInt8)::(113::mt UInt8)::(114::mt UInt8)::mt LB) (Int.toNat y0.1) (mt UInt8)++([32]:LB)++List.getD ((97::mt UInt8)::(98::mt UInt8)::(99::mt UInt8)::(100::mt UInt8)::mt LB) (Int.toNat y1.1) (mt UInt8)++([32]:LB)++List.getD ((97::mt UInt8)::(98::mt UInt8)::(99::mt UInt8)::(100::mt UInt8)::mt LB) (Int.toNat y2.1) (mt UInt8)++([32]:LB)++List.getD (([45]:LB)::([45]:LB)::([45]:LB)::([45]:LB)::([99,33]:LB)::([99,63]:LB)::([100,33]:LB)::([99,63]:LB)::mt LB) (Int.toNat y3.1) (mt UInt8))+1) (1)) (ob (c152 y3.2.1 y3.2.2) fun y4=>ob (c94 (9) y4.2.1 y4.2.2) fun y5=>cond (Ops.eq B y5.1 (8)) (ob (c153 (2) y5.2.1 y5.2.2) fun y6=>cond (Ops.lim B (List.length (List.getD ((112::mt UInt8)::(113::mt UInt8)::(114::mt UInt8)::mt LB) (Int.toNat y0.1) (mt UInt8)++([32]:LB)++List.getD ((97::mt UInt8)::(98::mt UInt8)::(99::mt UInt8)::(100::mt UInt8)::mt LB) (Int.toNat y1.1) (mt UInt8)++([32]:LB)++List.getD ((97::mt UInt8)::(98::mt UInt8)::(99::mt UInt8)::(100::mt UInt8)::mt LB) (Int.toNat y2.1) (mt UInt8)++([32]:LB)++List.getD (([45]:LB)::([45]:LB)::([45]:LB)::([45]:LB)::([99,33]:LB)::([99,63]:LB)::([100,33]:LB)::([99,63]:LB)::mt LB) (Int.toNat y3.1) (mt UInt8)++([32]:LB))+List.length y6.1) (1)) (ob (c94 (4) y6.2.1 y6.2.2) fun y7=>cond (Ops.inb B y7.1 (4)) (again (.l0 (List.getD ((112::mt UInt8)::(113::mt UInt8)::(114::mt UInt8)::mt LB) (Int.toNat y0.1) (mt UInt8)++([32]:LB)++List.getD ((97::mt UInt8)::(98::mt UInt8)::(99::mt UInt8)::(100::mt UInt8)::mt LB) (Int.toNat y1.1) (mt UInt8)++([32]:LB)++List.getD ((97::mt UInt8)::(98::mt UInt8)::(99::mt UInt8)::(100::mt UInt8)::mt LB) (Int.toNat y2.1) (mt UInt8)++([32]:LB)++List.getD (([45]:LB)::([45]:LB)::([45]:LB)::([45]:LB)::([99,33]:LB)::([99,63]:LB)::([100,33]:LB)::([99,63]:LB)::mt LB) (Int.toNat y3.1) (mt UInt8)++([32]:LB)++y6.1) (List.getD (0::1::1::2::mt Int) (Int.toNat y7.1) (0)) 0 y7.2.1 y7.2.2)) (none)) (none)) (cond (Ops.lim B (List.length (List.getD ((112::mt UInt8)::(113::mt UInt8)::(114::mt UInt8)::mt LB) (Int.toNat y0.1) (mt UInt8)++([32]:LB)++List.getD ((97::mt UInt8)::(98::mt UInt8)::(99::mt UInt8)::(100::mt UInt8)::mt LB) (Int.toNat y1.1) (mt UInt8)++([32]:LB)++List.getD ((97::mt UInt8)::(98::mt UInt8)::(99::mt UInt8)::(100::mt UInt8)::mt LB) (Int.toNat y2.1) (mt UInt8)++([32]:LB)++List.getD (([45]:LB)::([45]:LB)::([45]:LB)::([45]:LB)::([99,33]:LB)::([99,63]:LB)::([100,33]:LB)::([99,63]:LB)::mt LB) (Int.toNat y3.1) (mt UInt8)++([32]:LB))+List.length y4.1) (1)) (ob (c94 (4) y5.2.1 y5.2.2) fun y6=>cond (Ops.inb B y6.1 (4)) (again (.l0 (List.getD ((112::mt UInt8)::(113::mt UInt8)::(114::mt UInt8)::mt LB) (Int.toNat y0.1) (mt UInt8)++([32]:LB)++List.getD ((97::mt UInt8)::(98::mt UInt8)::(99::mt UInt8)::(100::mt UInt8)::mt LB) (Int.toNat y1.1) (mt UInt8)++([32]:LB)++List.getD ((97::mt UInt8)::(98::mt UInt8)::(99::mt UInt8)::(100::mt UInt8)::mt LB) (Int.toNat y2.1) (mt UInt8)++([32]:LB)++List.getD (([45]:LB)::([45]:LB)::([45]:LB)::([45]:LB)::([99,33]:LB)::([99,63]:LB)::([100,33]:LB)::([99,63]:LB)::mt LB) (Int.toNat y3.1) (mt UInt8)++([32]:LB)++y4.1) (List.getD (0::1::1::2::mt Int) (Int.toNat y6.1) (0)) 0 y6.2.1 y6.2.2)) (none)) (none))) (none)) (none)) (none)) (none)) (none)) (none)) (none)) (none)) (none)) (none)) (none) | some (.l0 v0_0 v0_1 v0_2 v0_3 v0_4)=>cond (Ops.lt B v0_2 v0_1) (ob (c94 (2) v0_3 v0_4) fun y0=>cond (Ops.inb B y0.1 (3)) (ob (c154 y0.2.1 y0.2.2) fun y1=>ob (c94 (6) y1.2.1 y1.2.2) fun y2=>cond (Ops.eq B y2.1 (0)) (cond (Ops.lim B (List.length v0_0+3) (1)) (cond (Ops.lim B (List.length (v0_0++([32,59,32]:LB))+List.length (List.getD ((120::mt UInt8)::(121::mt UInt8)::(122::mt UInt8)::mt LB) (Int.toNat y0.1) (mt UInt8))) (1)) (cond (Ops.lim B (List.length (v0_0++([32,59,32]:LB)++List.getD ((120::mt UInt8)::(121::mt UInt8)::(122::mt UInt8)::mt LB) (Int.toNat y0.1) (mt UInt8))+3) (1)) (cond (Ops.lim B (List.length (v0_0++([32,59,32]:LB)++List.getD ((120::mt UInt8)::(121::mt UInt8)::(122::mt UInt8)::mt LB) (Int.toNat y0.1) (mt UInt8)++([32,61,32]:LB))+List.length y1.1) (1)) (again (.l0 (v0_0++([32,59,32]:LB)++List.getD ((120::mt UInt8)::(121::mt UInt8)::(122::mt UInt8)::mt LB) (Int.toNat y0.1) (mt UInt8)++([32,61,32]:LB)++y1.1) v0_1 (IntKind.wrap .i64 (v0_2+1)) y2.2.1 y2.2.2)) (none)) (none)) (none)) (none)) (cond (Ops.eq B y2.1 (1)) (cond (Ops.lim B (List.length v0_0+3) (1)) (cond (Ops.lim B (List.length (v0_0++([32,59,32]:LB))+List.length (List.getD ((120::mt UInt8)::(121::mt UInt8)::(122::mt UInt8)::mt LB) (Int.toNat y0.1) (mt UInt8))) (1)) (cond (Ops.lim B (List.length (v0_0++([32,59,32]:LB)++List.getD ((120::mt UInt8)::(121::mt UInt8)::(122::mt UInt8)::mt LB) (Int.toNat y0.1) (mt UInt8))+3) (1)) (cond (Ops.lim B (List.length (v0_0++([32,59,32]:LB)++List.getD ((120::mt UInt8)::(121::mt UInt8)::(122::mt UInt8)::mt LB) (Int.toNat y0.1) (mt UInt8)++([32,61,32]:LB))+1) (1)) (again (.l0 (v0_0++([32,59,32]:LB)++List.getD ((120::mt UInt8)::(121::mt UInt8)::(122::mt UInt8)::mt LB) (Int.toNat y0.1) (mt UInt8)++([32,61,32]:LB)++([48]:LB)) v0_1 (IntKind.wrap .i64 (v0_2+1)) y2.2.1 y2.2.2)) (none)) (none)) (none)) (none)) (cond (Ops.lim B (3+List.length (List.getD ((120::mt UInt8)::(121::mt UInt8)::(122::mt UInt8)::mt LB) (Int.toNat y0.1) (mt UInt8))) (1)) (cond (Ops.lim B (List.length (([49,45,40]:LB)++List.getD ((120::mt UInt8)::(121::mt UInt8)::(122::mt UInt8)::mt LB) (Int.toNat y0.1) (mt UInt8))+4) (1)) (cond (Ops.lim B (1+List.length (List.getD ((120::mt UInt8)::(121::mt UInt8)::(122::mt UInt8)::mt LB) (Int.toNat y0.1) (mt UInt8))) (1)) (cond (Ops.lim B (List.length (([40]:LB)++List.getD ((120::mt UInt8)::(121::mt UInt8)::(122::mt UInt8)::mt LB) (Int.toNat y0.1) (mt UInt8))+3) (1)) (ob (c94 (2) y2.2.1 y2.2.2) fun y3=>cond (Ops.inb B y3.1 (3)) (cond (Ops.lim B (1+List.length (List.getD ((120::mt UInt8)::(121::mt UInt8)::(122::mt UInt8)::mt LB) (Int.toNat y3.1) (mt UInt8))) (1)) (cond (Ops.lim B (List.length (([40]:LB)++List.getD ((120::mt UInt8)::(121::mt UInt8)::(122::mt UInt8)::mt LB) (Int.toNat y3.1) (mt UInt8))+4) (1)) (ob (c94 (3) y3.2.1 y3.2.2) fun y4=>cond (Ops.inb B y4.1 (3)) (cond (Ops.lim B (List.length v0_0+3) (1)) (cond (Ops.lim B (List.length (v0_0++([32,59,32]:LB))+List.length (List.getD ((120::mt UInt8)::(121::mt UInt8)::(122::mt UInt8)::mt LB) (Int.toNat y0.1) (mt UInt8))) (1)) (cond (Ops.lim B (List.length (v0_0++([32,59,32]:LB)++List.getD ((120::mt UInt8)::(121::mt UInt8)::(122::mt UInt8)::mt LB) (Int.toNat y0.1) (mt UInt8))+3) (1)) (cond (Ops.lim B (List.length (v0_0++([32,59,32]:LB)++List.getD ((120::mt UInt8)::(121::mt UInt8)::(122::mt UInt8)::mt LB) (Int.toNat y0.1) (mt UInt8)++([32,61,32]:LB))+List.length (List.getD ((([49,45,40]:LB)++List.getD ((120::mt UInt8)::(121::mt UInt8)::(122::mt UInt8)::mt LB) (Int.toNat y0.1) (mt UInt8)++([61,61,49,41]:LB))::(([40]:LB)++List.getD ((120::mt UInt8)::(121::mt UInt8)::(122::mt UInt8)::mt LB) (Int.toNat y0.1) (mt UInt8)++([60,49,41]:LB))::(([40]:LB)++List.getD ((120::mt UInt8)::(121::mt UInt8)::(122::mt UInt8)::mt LB) (Int.toNat y3.1) (mt UInt8)++([61,61,48,41]:LB))::mt LB) (Int.toNat y4.1) (mt UInt8))) (1)) (again (.l0 (v0_0++([32,59,32]:LB)++List.getD ((120::mt UInt8)::(121::mt UInt8)::(122::mt UInt8)::mt LB) (Int.toNat y0.1) (mt UInt8)++([32,61,32]:LB)++List.getD ((([49,45,40]:LB)++List.getD ((120::mt UInt8)::(121::mt UInt8)::(122::mt UInt8)::mt LB) (Int.toNat y0.1) (mt UInt8)++([61,61,49,41]:LB))::(([40]:LB)++List.getD ((120::mt UInt8)::(121::mt UInt8)::(122::mt UInt8)::mt LB) (Int.toNat y0.1) (mt UInt8)++([60,49,41]:LB))::(([40]:LB)++List.getD ((120::mt UInt8)::(121::mt UInt8)::(122::mt UInt8)::mt LB) (Int.toNat y3.1) (mt UInt8)++([61,61,48,41]:LB))::mt LB) (Int.toNat y4.1) (mt UInt8)) v0_1 (IntKind.wrap .i64 (v0_2+1)) y4.2.1 y4.2.2)) (none)) (none)) (none)) (none)) (none)) (none)) (none)) (none)) (none)) (none)) (none)) (none)))) (none)) (k v0_0)
def E92 (p0:L3) (p1:Int):S92→List AV×Objs
 | .l0 v0_0 v0_1 v0_2 v0_3 v0_4=>(mk 94 [(5,.c (.ptr 5 0)),(6,.c (.str v0_0)),(8,.c (.int .i64 v0_1)),(9,.c (.int .i64 v0_2))],[(5,.box 86 [.list 3 ty3 v0_3,.int .i64 v0_4])])
def I92:S92→Nat
 | .l0 _ _ _ _ _=>0
theorem eq92 {R:Type} (B:Ops) (c94:C94) (c152:C152) (c153:C153) (c154:C154) (p0:L3) (p1:Int) (k:AV→Objs→Option R) (n:Nat):afun tau B gl0 X92 (ent 94 (e94 c94) (ent 152 (e152 c152) (ent 153 (e153 c153) (ent 154 (e154 c154) (gnil))))) ow Tryz.f92 [.c (.list 3 ty3 p0),.c (.int .i64 p1)] [] k n=T92 B c94 c152 c153 c154 p0 p1 (fun s=>aloop tau B gl0 X92 (ent 94 (e94 c94) (ent 152 (e152 c152) (ent 153 (e153 c153) (ent 154 (e154 c154) (gnil))))) ow [] Tryz.f92 k (I92 s) (E92 p0 p1 s) n) (fun y=>k (.c (.str y)) []) none:=by kernel_rfl
theorem el92 {R:Type} (B:Ops) (c94:C94) (c152:C152) (c153:C153) (c154:C154) (p0:L3) (p1:Int) (k:AV→Objs→Option R) (n:Nat):∀ s,aloop tau B gl0 X92 (ent 94 (e94 c94) (ent 152 (e152 c152) (ent 153 (e153 c153) (ent 154 (e154 c154) (gnil))))) ow [] Tryz.f92 k (I92 s) (E92 p0 p1 s) (n+1)=T92 B c94 c152 c153 c154 p0 p1 (fun s=>aloop tau B gl0 X92 (ent 94 (e94 c94) (ent 152 (e152 c152) (ent 153 (e153 c153) (ent 154 (e154 c154) (gnil))))) ow [] Tryz.f92 k (I92 s) (E92 p0 p1 s) n) (fun y=>k (.c (.str y)) []) (some s)
 | .l0 v0_0 v0_1 v0_2 v0_3 v0_4=>by kernel_rfl
theorem nt92 {R R':Type} (B:Ops) (c94:C94) (c152:C152) (c153:C153) (c154:C154) (p0:L3) (p1:Int) (again:S92→Option R) (again':S92→Option R') (k0:(LB)→Option R') (k:R'→Option R) (h:∀ s,again s=ob (again' s) k):∀ s,T92 B c94 c152 c153 c154 p0 p1 again (fun y=>ob (k0 y) k) s=ob (T92 B c94 c152 c153 c154 p0 p1 again' k0 s) k
 | none=>by unfold T92;repeat' first | exact rfl | exact h _ | apply qac | (apply qah;intro)
 | some (.l0 v0_0 v0_1 v0_2 v0_3 v0_4)=>by unfold T92;repeat' first | exact rfl | exact h _ | apply qac | (apply qah;intro)
def R92 (c94:C94) (c152:C152) (c153:C153) (c154:C154) (p0:L3) (p1:Int):Nat→S92→Option (LB)
 | 0,_=>none
 | n+1,s=>T92 Ops.std c94 c152 c153 c154 p0 p1 (R92 c94 c152 c153 c154 p0 p1 n) some (some s)
theorem rr92 {R:Type} (c94:C94) (c152:C152) (c153:C153) (c154:C154) (p0:L3) (p1:Int) (k:AV→Objs→Option R):∀ (n:Nat) (s:S92),aloop tau Ops.std gl0 X92 (ent 94 (e94 c94) (ent 152 (e152 c152) (ent 153 (e153 c153) (ent 154 (e154 c154) (gnil))))) ow [] Tryz.f92 k (I92 s) (E92 p0 p1 s) n=ob (R92 c94 c152 c153 c154 p0 p1 n s) (fun y=>k (.c (.str y)) [])
 | 0,s=>by cases s<;>rfl
 | n+1,s=>by rw [el92];exact nt92 Ops.std c94 c152 c153 c154 p0 p1 _ _ some (fun y=>k (.c (.str y)) []) (rr92 c94 c152 c153 c154 p0 p1 k n) (some s)
def F92 (c94:C94) (c152:C152) (c153:C153) (c154:C154) (p0:L3) (p1:Int):Option (LB):=T92 Ops.std c94 c152 c153 c154 p0 p1 (R92 c94 c152 c153 c154 p0 p1 1000000) some none
theorem fo92 {R:Type} (c94:C94) (c152:C152) (c153:C153) (c154:C154) (p0:L3) (p1:Int) (k:AV→Objs→Option R):afun tau Ops.std gl0 X92 (ent 94 (e94 c94) (ent 152 (e152 c152) (ent 153 (e153 c153) (ent 154 (e154 c154) (gnil))))) ow Tryz.f92 [.c (.list 3 ty3 p0),.c (.int .i64 p1)] [] k 1000000=ob (F92 c94 c152 c153 c154 p0 p1) (fun y=>k (.c (.str y)) []):=by rw [eq92];exact nt92 Ops.std c94 c152 c153 c154 p0 p1 _ _ some (fun y=>k (.c (.str y)) []) (rr92 c94 c152 c153 c154 p0 p1 k 1000000) none
def e92 {R:Type} (c:L3→Int→Option (LB)):Ent R:=fun args objs k=>
 oCons args fun a0 l0=>oC a0 fun x0=>cList 3 ty3 x0 fun p0=>oCons l0 fun a1 l1=>oC a1 fun x1=>cInt .i64 x1 fun p1=>oNil l1 <| oNilO objs <| ob (c p0 p1) fun y=>k (.c (.str y)) []
abbrev Sp92 (c:L3→Int→Option (LB)):Prop:=∀ (p0:L3) (p1:Int) (y:LB),c p0 p1=some y→Spec Tryz.prog gl0 92 [.c (.list 3 ty3 p0),.c (.int .i64 p1)] [] (.c (.str y)) []
theorem ek92 {R:Type} {c:L3→Int→Option (LB)} (hs:Sp92 c):EOk 92 (e92 (R:=R) c):=fun args objs k r h=>by
 unfold e92 at h
 obtain ⟨a0,l0,rfl,q1⟩:=qaa h
 obtain ⟨x0,rfl,q2⟩:=qaj q1
 obtain ⟨p0,rfl,q3⟩:=qae q2
 obtain ⟨a1,l1,rfl,q4⟩:=qaa q3
 obtain ⟨x1,rfl,q5⟩:=qaj q4
 obtain ⟨p1,rfl,q6⟩:=qal q5
 obtain ⟨rfl,q7⟩:=qag q6
 obtain ⟨rfl,q8⟩:=qaf q7
 exact qar (hs p0 p1) q8
theorem sf92 {c94:C94} {c152:C152} {c153:C153} {c154:C154} (h94:Sp94 c94) (h152:Sp152 c152) (h153:Sp153 c153) (h154:Sp154 c154):Sp92 (F92 c94 c152 c153 c154):=fun p0 p1 y hy=>by
 refine qap (G:=ent 94 (e94 c94) (ent 152 (e152 c152) (ent 153 (e153 c153) (ent 154 (e154 c154) (gnil))))) (qai (ek94 h94) (qai (ek152 h152) (qai (ek153 h153) (qai (ek154 h154) (qao))))) 1000000 (fn:=Tryz.f92) (by kernel_rfl) (by kernel_rfl) (X:=X92) (by kernel_rfl) ?_
 rw [fo92,hy]
 rfl
noncomputable def M92:L3→Int→Option (LB):=F92 M94 M152 M153 M154
theorem sm92:Sp92 M92:=sf92 sm94 sm152 sm153 sm154
def X48:Aux:=⟨[(3,([0,2]++rg 5 103)),(8,([0,2,4]++rg 7 101)),(15,([0,2,4,6]++rg 8 100))],[(5,.lin (rg 0 11++[15,16,17,18,19,20,25,26,27,28,29,30,11,12,13,14,21,22,23,24,31,32,33,34,35])),(17,.lin ([0,1,2,3,4,8,9,10,11,12,13,5,6,7,14,15,16,17]))]⟩
inductive S48 where
 | l0 (v0_0:LB) (v0_1:Int)
 | l1 (v1_0:LB) (v1_1:Int) (v1_2:Int)
 | l2 (v2_0:LB) (v2_1:Int) (v2_2:Int)
abbrev C91:Type:=Int→Option (LB)
abbrev C92:Type:=L3→Int→Option (LB)
def T48 {R:Type} (B:Ops) (c29:C29) (c91:C91) (c92:C92) (p0:Int) (p1:Int) (p2:L22) (again:S48→Option R) (k:(LB)→Option R):Option S48→Option R | none=>again (.l0 (mt UInt8) 0) | some (.l0 v0_0 v0_1)=>ob (c29 p1 (2)) fun y0=>cond (Ops.lt B v0_1 (IntKind.wrap .i64 (2+y0))) (cond (Ops.lim B (List.length v0_0+4) (1)) (cond (Ops.inb B v0_1 (3)) (cond (Ops.lim B (List.length (v0_0++([118,97,114,32]:LB))+List.length (List.getD ((120::mt UInt8)::(121::mt UInt8)::(122::mt UInt8)::mt LB) (Int.toNat v0_1) (mt UInt8))) (1)) (cond (Ops.lim B (List.length (v0_0++([118,97,114,32]:LB)++List.getD ((120::mt UInt8)::(121::mt UInt8)::(122::mt UInt8)::mt LB) (Int.toNat v0_1) (mt UInt8))+1) (1)) (cond (Ops.eq B (7) (0)) (none) (cond (Ops.eq B (IntKind.wrap .i64 (2+v0_1)) (0)) (none) (cond (Ops.eq B (IntKind.wrap .i64 (5+v0_1)) (0)) (none) (ob (c29 (IntKind.wrap .i64 (Int.tdiv p1 (7))) (2)) fun y1=>cond (Ops.inb B y1 (2)) (cond (Ops.lim B (List.length (v0_0++([118,97,114,32]:LB)++List.getD ((120::mt UInt8)::(121::mt UInt8)::(122::mt UInt8)::mt LB) (Int.toNat v0_1) (mt UInt8)++([32]:LB))+List.length (List.getD (([48]:LB)::([45,49]:LB)::mt LB) (Int.toNat y1) (mt UInt8))) (1)) (cond (Ops.lim B (List.length (v0_0++([118,97,114,32]:LB)++List.getD ((120::mt UInt8)::(121::mt UInt8)::(122::mt UInt8)::mt LB) (Int.toNat v0_1) (mt UInt8)++([32]:LB)++List.getD (([48]:LB)::([45,49]:LB)::mt LB) (Int.toNat y1) (mt UInt8))+1) (1)) (ob (c29 (IntKind.wrap .i64 (Int.tdiv p1 (IntKind.wrap .i64 (2+v0_1)))) (3)) fun y2=>cond (Ops.inb B y2 (3)) (cond (Ops.lim B (List.length (v0_0++([118,97,114,32]:LB)++List.getD ((120::mt UInt8)::(121::mt UInt8)::(122::mt UInt8)::mt LB) (Int.toNat v0_1) (mt UInt8)++([32]:LB)++List.getD (([48]:LB)::([45,49]:LB)::mt LB) (Int.toNat y1) (mt UInt8)++([32]:LB))+List.length (List.getD (([49]:LB)::([50]:LB)::([51]:LB)::mt LB) (Int.toNat y2) (mt UInt8))) (1)) (cond (Ops.lim B (List.length (v0_0++([118,97,114,32]:LB)++List.getD ((120::mt UInt8)::(121::mt UInt8)::(122::mt UInt8)::mt LB) (Int.toNat v0_1) (mt UInt8)++([32]:LB)++List.getD (([48]:LB)::([45,49]:LB)::mt LB) (Int.toNat y1) (mt UInt8)++([32]:LB)++List.getD (([49]:LB)::([50]:LB)::([51]:LB)::mt LB) (Int.toNat y2) (mt UInt8))+1) (1)) (ob (c29 (IntKind.wrap .i64 (Int.tdiv p1 (IntKind.wrap .i64 (5+v0_1)))) (2)) fun y3=>cond (Ops.inb B y3 (2)) (cond (Ops.lim B (List.length (v0_0++([118,97,114,32]:LB)++List.getD ((120::mt UInt8)::(121::mt UInt8)::(122::mt UInt8)::mt LB) (Int.toNat v0_1) (mt UInt8)++([32]:LB)++List.getD (([48]:LB)::([45,49]:LB)::mt LB) (Int.toNat y1) (mt UInt8)++([32]:LB)++List.getD (([49]:LB)::([50]:LB)::([51]:LB)::mt LB) (Int.toNat y2) (mt UInt8)++([32]:LB))+List.length (List.getD (([48]:LB)::([49]:LB)::mt LB) (Int.toNat y3) (mt UInt8))) (1)) (cond (Ops.lim B (List.length (v0_0++([118,97,114,32]:LB)++List.getD ((120::mt UInt8)::(121::mt UInt8)::(122::mt UInt8)::mt LB) (Int.toNat v0_1) (mt UInt8)++([32]:LB)++List.getD (([48]:LB)::([45,49]:LB)::mt LB) (Int.toNat y1) (mt UInt8)++([32]:LB)++List.getD (([49]:LB)::([50]:LB)::([51]:LB)::mt LB) (Int.toNat y2) (mt UInt8)++([32]:LB)++List.getD (([48]:LB)::([49]:LB)::mt LB) (Int.toNat y3) (mt UInt8))+1) (1)) (again (.l0 (v0_0++([118,97,114,32]:LB)++List.getD ((120::mt UInt8)::(121::mt UInt8)::(122::mt UInt8)::mt LB) (Int.toNat v0_1) (mt UInt8)++([32]:LB)++List.getD (([48]:LB)::([45,49]:LB)::mt LB) (Int.toNat y1) (mt UInt8)++([32]:LB)++List.getD (([49]:LB)::([50]:LB)::([51]:LB)::mt LB) (Int.toNat y2) (mt UInt8)++([32]:LB)++List.getD (([48]:LB)::([49]:LB)::mt LB) (Int.toNat y3) (mt UInt8)++([10]:LB)) (IntKind.wrap .i64 (v0_1+1)))) (none)) (none)) (none)) (none)) (none)) (none)) (none)) (none)) (none))))) (none)) (none)) (none)) (none)) (ob (c29 p0 (4)) fun y1=>cond (Ops.eq B (3) (0)) (none) (again (.l1 v0_0 (IntKind.wrap .i64 (2+IntKind.wrap .i64 (Int.tdiv y1 (3)))) 0))) | some (.l1 v1_0 v1_1 v1_2)=>cond (Ops.lt B v1_2 v1_1) (cond (Ops.lim B (List.length v1_0+5) (1)) (cond (Ops.inb B v1_2 (3)) (cond (Ops.lim B (List.length (v1_0++([112,114,111,99,32]:LB))+List.length (List.getD ((112::mt UInt8)::(113::mt UInt8)::(114::mt UInt8)::mt LB) (Int.toNat v1_2) (mt UInt8))) (1)) (cond (Ops.lim B (List.length (v1_0++([112,114,111,99,32]:LB)++List.getD ((112::mt UInt8)::(113::mt UInt8)::(114::mt UInt8)::mt LB) (Int.toNat v1_2) (mt UInt8))+6) (1)) (cond (Ops.eq B (IntKind.wrap .i64 (2+v1_2)) (0)) (none) (ob (c29 (IntKind.wrap .i64 (Int.tdiv p0 (IntKind.wrap .i64 (2+v1_2)))) (3)) fun y0=>cond (Ops.eq B y0 (0)) (cond (Ops.lim B (List.length (v1_0++([112,114,111,99,32]:LB)++List.getD ((112::mt UInt8)::(113::mt UInt8)::(114::mt UInt8)::mt LB) (Int.toNat v1_2) (mt UInt8)++([32,97,32,98,32,99]:LB))+2) (1)) (cond (Ops.lim B (List.length (v1_0++([112,114,111,99,32]:LB)++List.getD ((112::mt UInt8)::(113::mt UInt8)::(114::mt UInt8)::mt LB) (Int.toNat v1_2) (mt UInt8)++([32,97,32,98,32,99]:LB)++([32,100]:LB))+1) (1)) (again (.l1 (v1_0++([112,114,111,99,32]:LB)++List.getD ((112::mt UInt8)::(113::mt UInt8)::(114::mt UInt8)::mt LB) (Int.toNat v1_2) (mt UInt8)++([32,97,32,98,32,99]:LB)++([32,100]:LB)++([10]:LB)) v1_1 (IntKind.wrap .i64 (v1_2+1)))) (none)) (none)) (cond (Ops.lim B (List.length (v1_0++([112,114,111,99,32]:LB)++List.getD ((112::mt UInt8)::(113::mt UInt8)::(114::mt UInt8)::mt LB) (Int.toNat v1_2) (mt UInt8)++([32,97,32,98,32,99]:LB))+1) (1)) (again (.l1 (v1_0++([112,114,111,99,32]:LB)++List.getD ((112::mt UInt8)::(113::mt UInt8)::(114::mt UInt8)::mt LB) (Int.toNat v1_2) (mt UInt8)++([32,97,32,98,32,99]:LB)++([10]:LB)) v1_1 (IntKind.wrap .i64 (v1_2+1)))) (none)))) (none)) (none)) (none)) (none)) (again (.l2 v1_0 v1_1 0)) | some (.l2 v2_0 v2_1 v2_2)=>cond (Ops.lt B v2_2 (Nat.cast (List.length p2))) (cond (Ops.lt B v2_2 (10)) (cond (Ops.lim B (List.length v2_0+6) (1)) (cond (Ops.inb B v2_2 (List.length p2)) (ob (c91 (IntKind.wrap .i64 (IntKind.wrap .i64 (3*v2_2)+1))) fun y0=>cond (Ops.lim B (List.length (v2_0++([116,114,97,110,115,32]:LB))+List.length y0) (1)) (cond (Ops.lim B (List.length (v2_0++([116,114,97,110,115,32]:LB)++y0)+1) (1)) (ob (c92 (List.getD p2 (Int.toNat v2_2) (Ty.dflt ty22)) v2_1) fun y1=>cond (Ops.lim B (List.length (v2_0++([116,114,97,110,115,32]:LB)++y0++([32]:LB))+List.length y1) (1)) (cond (Ops.lim B (List.length (v2_0++([116,114,97,110,115,32]:LB)++y0++([32]:LB)++y1)+1) (1)) (again (.l2 (v2_0++([116,114,97,110,115,32]:LB)++y0++([32]:LB)++y1++([10]:LB)) v2_1 (IntKind.wrap .i64 (v2_2+1)))) (none)) (none)) (none)) (none)) (none)) (none)) (k v2_0)) (k v2_0)
def E48 (p0:Int) (p1:Int) (p2:L22):S48→List AV×Objs
 | .l0 v0_0 v0_1=>(mk 108 [(1,.c (.ptr 1 0)),(3,.c (.str v0_0)),(4,.c (.int .i64 v0_1))],[(1,.box 25 [.int .i64 p0,.int .i64 p1,.list 22 ty22 p2])])
 | .l1 v1_0 v1_1 v1_2=>(mk 108 [(1,.c (.ptr 1 0)),(3,.c (.str v1_0)),(5,.c (.int .i64 v1_1)),(6,.c (.int .i64 v1_2))],[(1,.box 25 [.int .i64 p0,.int .i64 p1,.list 22 ty22 p2])])
 | .l2 v2_0 v2_1 v2_2=>(mk 108 [(1,.c (.ptr 1 0)),(3,.c (.str v2_0)),(5,.c (.int .i64 v2_1)),(7,.c (.int .i64 v2_2))],[(1,.box 25 [.int .i64 p0,.int .i64 p1,.list 22 ty22 p2])])
def I48:S48→Nat
 | .l0 _ _=>0
 | .l1 _ _ _=>1
 | .l2 _ _ _=>2
theorem eq48 {R:Type} (B:Ops) (c29:C29) (c91:C91) (c92:C92) (p0:Int) (p1:Int) (p2:L22) (k:AV→Objs→Option R) (n:Nat):afun tau B gl0 X48 (ent 29 (e29 c29) (ent 91 (e91 c91) (ent 92 (e92 c92) (gnil)))) ow Tryz.f48 [.agg [.int .i64 p0,.int .i64 p1,.list 22 ty22 p2]] [] k n=T48 B c29 c91 c92 p0 p1 p2 (fun s=>aloop tau B gl0 X48 (ent 29 (e29 c29) (ent 91 (e91 c91) (ent 92 (e92 c92) (gnil)))) ow [] Tryz.f48 k (I48 s) (E48 p0 p1 p2 s) n) (fun y=>k (.c (.str y)) []) none:=by kernel_rfl
theorem el48 {R:Type} (B:Ops) (c29:C29) (c91:C91) (c92:C92) (p0:Int) (p1:Int) (p2:L22) (k:AV→Objs→Option R) (n:Nat):∀ s,aloop tau B gl0 X48 (ent 29 (e29 c29) (ent 91 (e91 c91) (ent 92 (e92 c92) (gnil)))) ow [] Tryz.f48 k (I48 s) (E48 p0 p1 p2 s) (n+1)=T48 B c29 c91 c92 p0 p1 p2 (fun s=>aloop tau B gl0 X48 (ent 29 (e29 c29) (ent 91 (e91 c91) (ent 92 (e92 c92) (gnil)))) ow [] Tryz.f48 k (I48 s) (E48 p0 p1 p2 s) n) (fun y=>k (.c (.str y)) []) (some s)
 | .l0 v0_0 v0_1=>by kernel_rfl
 | .l1 v1_0 v1_1 v1_2=>by kernel_rfl
 | .l2 v2_0 v2_1 v2_2=>by kernel_rfl
theorem nt48 {R R':Type} (B:Ops) (c29:C29) (c91:C91) (c92:C92) (p0:Int) (p1:Int) (p2:L22) (again:S48→Option R) (again':S48→Option R') (k0:(LB)→Option R') (k:R'→Option R) (h:∀ s,again s=ob (again' s) k):∀ s,T48 B c29 c91 c92 p0 p1 p2 again (fun y=>ob (k0 y) k) s=ob (T48 B c29 c91 c92 p0 p1 p2 again' k0 s) k
 | none=>by unfold T48;repeat' first | exact rfl | exact h _ | apply qac | (apply qah;intro)
 | some (.l0 v0_0 v0_1)=>by unfold T48;repeat' first | exact rfl | exact h _ | apply qac | (apply qah;intro)
 | some (.l1 v1_0 v1_1 v1_2)=>by unfold T48;repeat' first | exact rfl | exact h _ | apply qac | (apply qah;intro)
 | some (.l2 v2_0 v2_1 v2_2)=>by unfold T48;repeat' first | exact rfl | exact h _ | apply qac | (apply qah;intro)
def R48 (c29:C29) (c91:C91) (c92:C92) (p0:Int) (p1:Int) (p2:L22):Nat→S48→Option (LB)
 | 0,_=>none
 | n+1,s=>T48 Ops.std c29 c91 c92 p0 p1 p2 (R48 c29 c91 c92 p0 p1 p2 n) some (some s)
theorem rr48 {R:Type} (c29:C29) (c91:C91) (c92:C92) (p0:Int) (p1:Int) (p2:L22) (k:AV→Objs→Option R):∀ (n:Nat) (s:S48),aloop tau Ops.std gl0 X48 (ent 29 (e29 c29) (ent 91 (e91 c91) (ent 92 (e92 c92) (gnil)))) ow [] Tryz.f48 k (I48 s) (E48 p0 p1 p2 s) n=ob (R48 c29 c91 c92 p0 p1 p2 n s) (fun y=>k (.c (.str y)) [])
 | 0,s=>by cases s<;>rfl
 | n+1,s=>by rw [el48];exact nt48 Ops.std c29 c91 c92 p0 p1 p2 _ _ some (fun y=>k (.c (.str y)) []) (rr48 c29 c91 c92 p0 p1 p2 k n) (some s)
def F48 (c29:C29) (c91:C91) (c92:C92) (p0:Int) (p1:Int) (p2:L22):Option (LB):=T48 Ops.std c29 c91 c92 p0 p1 p2 (R48 c29 c91 c92 p0 p1 p2 1000000) some none
theorem fo48 {R:Type} (c29:C29) (c91:C91) (c92:C92) (p0:Int) (p1:Int) (p2:L22) (k:AV→Objs→Option R):afun tau Ops.std gl0 X48 (ent 29 (e29 c29) (ent 91 (e91 c91) (ent 92 (e92 c92) (gnil)))) ow Tryz.f48 [.agg [.int .i64 p0,.int .i64 p1,.list 22 ty22 p2]] [] k 1000000=ob (F48 c29 c91 c92 p0 p1 p2) (fun y=>k (.c (.str y)) []):=by rw [eq48];exact nt48 Ops.std c29 c91 c92 p0 p1 p2 _ _ some (fun y=>k (.c (.str y)) []) (rr48 c29 c91 c92 p0 p1 p2 k 1000000) none
def e48 {R:Type} (c:Int→Int→L22→Option (LB)):Ent R:=fun args objs k=>
 oCons args fun a0 l0=>oAgg a0 fun x0=>cCons x0 fun z0_0 w0_0=>cInt .i64 z0_0 fun p0=>cCons w0_0 fun z0_1 w0_1=>cInt .i64 z0_1 fun p1=>cCons w0_1 fun z0_2 w0_2=>cList 22 ty22 z0_2 fun p2=>cNil w0_2 <| oNil l0 <| oNilO objs <| ob (c p0 p1 p2) fun y=>k (.c (.str y)) []
abbrev Sp48 (c:Int→Int→L22→Option (LB)):Prop:=∀ (p0:Int) (p1:Int) (p2:L22) (y:LB),c p0 p1 p2=some y→Spec Tryz.prog gl0 48 [.agg [.int .i64 p0,.int .i64 p1,.list 22 ty22 p2]] [] (.c (.str y)) []
theorem ek48 {R:Type} {c:Int→Int→L22→Option (LB)} (hs:Sp48 c):EOk 48 (e48 (R:=R) c):=fun args objs k r h=>by
 unfold e48 at h
 obtain ⟨a0,l0,rfl,q1⟩:=qaa h
 obtain ⟨x0,rfl,q2⟩:=qax q1
 obtain ⟨z0_0,w0_0,rfl,q3⟩:=qad q2
 obtain ⟨p0,rfl,q4⟩:=qal q3
 obtain ⟨z0_1,w0_1,rfl,q5⟩:=qad q4
 obtain ⟨p1,rfl,q6⟩:=qal q5
 obtain ⟨z0_2,w0_2,rfl,q7⟩:=qad q6
 obtain ⟨p2,rfl,q8⟩:=qae q7
 obtain ⟨rfl,q9⟩:=qat q8
 obtain ⟨rfl,q10⟩:=qag q9
 obtain ⟨rfl,q11⟩:=qaf q10
 exact qar (hs p0 p1 p2) q11
theorem sf48 {c29:C29} {c91:C91} {c92:C92} (h29:Sp29 c29) (h91:Sp91 c91) (h92:Sp92 c92):Sp48 (F48 c29 c91 c92):=fun p0 p1 p2 y hy=>by
 refine qap (G:=ent 29 (e29 c29) (ent 91 (e91 c91) (ent 92 (e92 c92) (gnil)))) (qai (ek29 h29) (qai (ek91 h91) (qai (ek92 h92) (qao)))) 1000000 (fn:=Tryz.f48) (by kernel_rfl) (by kernel_rfl) (X:=X48) (by kernel_rfl) ?_
 rw [fo48,hy]
 rfl
noncomputable def M48:Int→Int→L22→Option (LB):=F48 M29 M91 M92
theorem sm48:Sp48 M48:=sf48 sm29 sm91 sm92
def X86:Aux:=⟨[(4,([2,3,4]++rg 8 26))],[]⟩
inductive S86 where
 | l0 (v0_2:Int) (v0_3:Int) (v0_4:L9)
def T86 {R:Type} (B:Ops) (p0:LB) (p1:Int) (again:S86→Option R) (k:(L9)→Option R):Option S86→Option R | none=>again (.l0 0 0 (mt (Ty.den Ty.str))) | some (.l0 v0_2 v0_3 v0_4)=>cond (Ops.lt B v0_3 (Nat.cast (List.length p0))) (cond (Ops.inb B v0_3 (List.length p0)) (cond (Ops.eq B (Nat.cast (UInt8.toNat (List.getD p0 (Int.toNat v0_3) (0)))) p1) (cond (Ops.inb B v0_3 (List.length p0+1)) (cond (bif Ops.le B (0) v0_2 then Ops.le B v0_2 v0_3 else false) (cond (Ops.lim B (List.length v0_4+List.length (List.drop (Int.toNat v0_2) (List.take (Int.toNat v0_3) p0)::mt (Ty.den Ty.str))) (16)) (again (.l0 (IntKind.wrap .i64 (v0_3+1)) (IntKind.wrap .i64 (v0_3+1)) (v0_4++List.drop (Int.toNat v0_2) (List.take (Int.toNat v0_3) p0)::mt (Ty.den Ty.str)))) (none)) (none)) (none)) (again (.l0 v0_2 (IntKind.wrap .i64 (v0_3+1)) v0_4))) (none)) (cond (Ops.inb B v0_2 (List.length p0+1)) (cond (Ops.lim B (List.length v0_4+List.length (List.drop (Int.toNat v0_2) (List.take (List.length p0) p0)::mt (Ty.den Ty.str))) (16)) (k (v0_4++List.drop (Int.toNat v0_2) (List.take (List.length p0) p0)::mt (Ty.den Ty.str))) (none)) (none))
def E86 (p0:LB) (p1:Int):S86→List AV×Objs
 | .l0 v0_2 v0_3 v0_4=>(mk 34 [(0,.c (.str p0)),(1,.c (.int .u8 p1)),(5,.c (.own 5)),(6,.c (.int .i64 v0_2)),(7,.c (.int .i64 v0_3))],[(5,.row 9 ty9 v0_4)])
def I86:S86→Nat
 | .l0 _ _ _=>0
theorem eq86 {R:Type} (B:Ops) (p0:LB) (p1:Int) (k:AV→Objs→Option R) (n:Nat):afun tau B gl0 X86 (gnil) ow Tryz.f86 [.c (.str p0),.c (.int .u8 p1)] [] k n=T86 B p0 p1 (fun s=>aloop tau B gl0 X86 (gnil) ow [] Tryz.f86 k (I86 s) (E86 p0 p1 s) n) (fun y=>k (.c (.own 500)) [(500,.row 9 ty9 y)]) none:=by kernel_rfl
theorem el86 {R:Type} (B:Ops) (p0:LB) (p1:Int) (k:AV→Objs→Option R) (n:Nat):∀ s,aloop tau B gl0 X86 (gnil) ow [] Tryz.f86 k (I86 s) (E86 p0 p1 s) (n+1)=T86 B p0 p1 (fun s=>aloop tau B gl0 X86 (gnil) ow [] Tryz.f86 k (I86 s) (E86 p0 p1 s) n) (fun y=>k (.c (.own 500)) [(500,.row 9 ty9 y)]) (some s)
 | .l0 v0_2 v0_3 v0_4=>by kernel_rfl
theorem nt86 {R R':Type} (B:Ops) (p0:LB) (p1:Int) (again:S86→Option R) (again':S86→Option R') (k0:(L9)→Option R') (k:R'→Option R) (h:∀ s,again s=ob (again' s) k):∀ s,T86 B p0 p1 again (fun y=>ob (k0 y) k) s=ob (T86 B p0 p1 again' k0 s) k
 | none=>by unfold T86;repeat' first | exact rfl | exact h _ | apply qac | (apply qah;intro)
 | some (.l0 v0_2 v0_3 v0_4)=>by unfold T86;repeat' first | exact rfl | exact h _ | apply qac | (apply qah;intro)
def R86 (p0:LB) (p1:Int):Nat→S86→Option (L9)
 | 0,_=>none
 | n+1,s=>T86 Ops.std p0 p1 (R86 p0 p1 n) some (some s)
theorem rr86 {R:Type} (p0:LB) (p1:Int) (k:AV→Objs→Option R):∀ (n:Nat) (s:S86),aloop tau Ops.std gl0 X86 (gnil) ow [] Tryz.f86 k (I86 s) (E86 p0 p1 s) n=ob (R86 p0 p1 n s) (fun y=>k (.c (.own 500)) [(500,.row 9 ty9 y)])
 | 0,s=>by cases s<;>rfl
 | n+1,s=>by rw [el86];exact nt86 Ops.std p0 p1 _ _ some (fun y=>k (.c (.own 500)) [(500,.row 9 ty9 y)]) (rr86 p0 p1 k n) (some s)
def F86 (p0:LB) (p1:Int):Option (L9):=T86 Ops.std p0 p1 (R86 p0 p1 1000000) some none
theorem fo86 {R:Type} (p0:LB) (p1:Int) (k:AV→Objs→Option R):afun tau Ops.std gl0 X86 (gnil) ow Tryz.f86 [.c (.str p0),.c (.int .u8 p1)] [] k 1000000=ob (F86 p0 p1) (fun y=>k (.c (.own 500)) [(500,.row 9 ty9 y)]):=by rw [eq86];exact nt86 Ops.std p0 p1 _ _ some (fun y=>k (.c (.own 500)) [(500,.row 9 ty9 y)]) (rr86 p0 p1 k 1000000) none
def e86 {R:Type} (c:LB→Int→Option (L9)):Ent R:=fun args objs k=>
 oCons args fun a0 l0=>oC a0 fun x0=>cStr x0 fun p0=>oCons l0 fun a1 l1=>oC a1 fun x1=>cInt .u8 x1 fun p1=>oNil l1 <| oNilO objs <| ob (c p0 p1) fun y=>k (.c (.own 500)) [(500,.row 9 ty9 y)]
abbrev Sp86 (c:LB→Int→Option (L9)):Prop:=∀ (p0:LB) (p1:Int) (y:L9),c p0 p1=some y→Spec Tryz.prog gl0 86 [.c (.str p0),.c (.int .u8 p1)] [] (.c (.own 500)) [(500,.row 9 ty9 y)]
theorem ek86 {R:Type} {c:LB→Int→Option (L9)} (hs:Sp86 c):EOk 86 (e86 (R:=R) c):=fun args objs k r h=>by
 unfold e86 at h
 obtain ⟨a0,l0,rfl,q1⟩:=qaa h
 obtain ⟨x0,rfl,q2⟩:=qaj q1
 obtain ⟨p0,rfl,q3⟩:=qav q2
 obtain ⟨a1,l1,rfl,q4⟩:=qaa q3
 obtain ⟨x1,rfl,q5⟩:=qaj q4
 obtain ⟨p1,rfl,q6⟩:=qal q5
 obtain ⟨rfl,q7⟩:=qag q6
 obtain ⟨rfl,q8⟩:=qaf q7
 exact qar (hs p0 p1) q8
theorem sf86:Sp86 (F86):=fun p0 p1 y hy=>by
 refine qap (G:=gnil) (qao) 1000000 (fn:=Tryz.f86) (by kernel_rfl) (by kernel_rfl) (X:=X86) (by kernel_rfl) ?_
 rw [fo86,hy]
 rfl
noncomputable def M86:LB→Int→Option (L9):=F86
theorem sm86:Sp86 M86:=sf86
def X87:Aux:=⟨[(4,([0,1,2]++rg 6 21))],[]⟩
inductive S87 where
 | l0 (v0_0:Int) (v0_1:L9) (v0_2:L9)
abbrev C86:Type:=LB→Int→Option (L9)
def T87 {R:Type} (B:Ops) (c86:C86) (p0:LB) (again:S87→Option R) (k:(L9)→Option R):Option S87→Option R | none=>ob (c86 p0 (32)) fun y0=>again (.l0 0 (mt (Ty.den Ty.str)) y0) | some (.l0 v0_0 v0_1 v0_2)=>cond (Ops.lt B v0_0 (Nat.cast (List.length v0_2))) (cond (Ops.inb B v0_0 (List.length v0_2)) (cond (!List.getD v0_2 (Int.toNat v0_0) (Ty.dflt ty9) == mt UInt8) (cond (Ops.inb B v0_0 (List.length v0_2)) (cond (Ops.lim B (List.length v0_1+List.length (List.getD v0_2 (Int.toNat v0_0) (Ty.dflt ty9)::mt (Ty.den Ty.str))) (16)) (again (.l0 (IntKind.wrap .i64 (v0_0+1)) (v0_1++List.getD v0_2 (Int.toNat v0_0) (Ty.dflt ty9)::mt (Ty.den Ty.str)) v0_2)) (none)) (none)) (again (.l0 (IntKind.wrap .i64 (v0_0+1)) v0_1 v0_2))) (none)) (k v0_1)
def E87 (p0:LB):S87→List AV×Objs
 | .l0 v0_0 v0_1 v0_2=>(mk 27 [(3,.c (.own 3)),(4,.c (.own 4)),(5,.c (.int .i64 v0_0))],[(3,.row 9 ty9 v0_1),(4,.row 9 ty9 v0_2)])
def I87:S87→Nat
 | .l0 _ _ _=>0
theorem eq87 {R:Type} (B:Ops) (c86:C86) (p0:LB) (k:AV→Objs→Option R) (n:Nat):afun tau B gl0 X87 (ent 86 (e86 c86) (gnil)) ow Tryz.f87 [.c (.str p0)] [] k n=T87 B c86 p0 (fun s=>aloop tau B gl0 X87 (ent 86 (e86 c86) (gnil)) ow [] Tryz.f87 k (I87 s) (E87 p0 s) n) (fun y=>k (.c (.own 500)) [(500,.row 9 ty9 y)]) none:=by kernel_rfl
theorem el87 {R:Type} (B:Ops) (c86:C86) (p0:LB) (k:AV→Objs→Option R) (n:Nat):∀ s,aloop tau B gl0 X87 (ent 86 (e86 c86) (gnil)) ow [] Tryz.f87 k (I87 s) (E87 p0 s) (n+1)=T87 B c86 p0 (fun s=>aloop tau B gl0 X87 (ent 86 (e86 c86) (gnil)) ow [] Tryz.f87 k (I87 s) (E87 p0 s) n) (fun y=>k (.c (.own 500)) [(500,.row 9 ty9 y)]) (some s)
 | .l0 v0_0 v0_1 v0_2=>by kernel_rfl
theorem nt87 {R R':Type} (B:Ops) (c86:C86) (p0:LB) (again:S87→Option R) (again':S87→Option R') (k0:(L9)→Option R') (k:R'→Option R) (h:∀ s,again s=ob (again' s) k):∀ s,T87 B c86 p0 again (fun y=>ob (k0 y) k) s=ob (T87 B c86 p0 again' k0 s) k
 | none=>by unfold T87;repeat' first | exact rfl | exact h _ | apply qac | (apply qah;intro)
 | some (.l0 v0_0 v0_1 v0_2)=>by unfold T87;repeat' first | exact rfl | exact h _ | apply qac | (apply qah;intro)
def R87 (c86:C86) (p0:LB):Nat→S87→Option (L9)
 | 0,_=>none
 | n+1,s=>T87 Ops.std c86 p0 (R87 c86 p0 n) some (some s)
theorem rr87 {R:Type} (c86:C86) (p0:LB) (k:AV→Objs→Option R):∀ (n:Nat) (s:S87),aloop tau Ops.std gl0 X87 (ent 86 (e86 c86) (gnil)) ow [] Tryz.f87 k (I87 s) (E87 p0 s) n=ob (R87 c86 p0 n s) (fun y=>k (.c (.own 500)) [(500,.row 9 ty9 y)])
 | 0,s=>by cases s<;>rfl
 | n+1,s=>by rw [el87];exact nt87 Ops.std c86 p0 _ _ some (fun y=>k (.c (.own 500)) [(500,.row 9 ty9 y)]) (rr87 c86 p0 k n) (some s)
def F87 (c86:C86) (p0:LB):Option (L9):=T87 Ops.std c86 p0 (R87 c86 p0 1000000) some none
theorem fo87 {R:Type} (c86:C86) (p0:LB) (k:AV→Objs→Option R):afun tau Ops.std gl0 X87 (ent 86 (e86 c86) (gnil)) ow Tryz.f87 [.c (.str p0)] [] k 1000000=ob (F87 c86 p0) (fun y=>k (.c (.own 500)) [(500,.row 9 ty9 y)]):=by rw [eq87];exact nt87 Ops.std c86 p0 _ _ some (fun y=>k (.c (.own 500)) [(500,.row 9 ty9 y)]) (rr87 c86 p0 k 1000000) none
def e87 {R:Type} (c:LB→Option (L9)):Ent R:=fun args objs k=>
 oCons args fun a0 l0=>oC a0 fun x0=>cStr x0 fun p0=>oNil l0 <| oNilO objs <| ob (c p0) fun y=>k (.c (.own 500)) [(500,.row 9 ty9 y)]
abbrev Sp87 (c:LB→Option (L9)):Prop:=∀ (p0:LB) (y:L9),c p0=some y→Spec Tryz.prog gl0 87 [.c (.str p0)] [] (.c (.own 500)) [(500,.row 9 ty9 y)]
theorem ek87 {R:Type} {c:LB→Option (L9)} (hs:Sp87 c):EOk 87 (e87 (R:=R) c):=fun args objs k r h=>by
 unfold e87 at h
 obtain ⟨a0,l0,rfl,q1⟩:=qaa h
 obtain ⟨x0,rfl,q2⟩:=qaj q1
 obtain ⟨p0,rfl,q3⟩:=qav q2
 obtain ⟨rfl,q4⟩:=qag q3
 obtain ⟨rfl,q5⟩:=qaf q4
 exact qar (hs p0) q5
theorem sf87 {c86:C86} (h86:Sp86 c86):Sp87 (F87 c86):=fun p0 y hy=>by
 refine qap (G:=ent 86 (e86 c86) (gnil)) (qai (ek86 h86) (qao)) 1000000 (fn:=Tryz.f87) (by kernel_rfl) (by kernel_rfl) (X:=X87) (by kernel_rfl) ?_
 rw [fo87,hy]
 rfl
noncomputable def M87:LB→Option (L9):=F87 M86
theorem sm87:Sp87 M87:=sf87 sm86
def X104:Aux:=⟨[],[]⟩
def T104 {R:Type} (B:Ops) (p0:Int) (k:(Bool)→Option R):Option R:=cond (Ops.le B (48) p0) (k (Ops.le B p0 (57))) (k false)
theorem eq104 {R:Type} (B:Ops) (p0:Int) (k:AV→Objs→Option R) (n:Nat):afun tau B gl0 X104 (gnil) ow Tryz.f104 [.c (.int .u8 p0)] [] k n=T104 B p0 (fun y=>k (.c (.bool y)) []):=by kernel_rfl
theorem nt104 {R R':Type} (B:Ops) (p0:Int) (k0:(Bool)→Option R') (k:R'→Option R):T104 B p0 (fun y=>ob (k0 y) k)=ob (T104 B p0 k0) k:=by
 unfold T104
 repeat' first | exact rfl | apply qac | (apply qah;intro)
def F104 (p0:Int):Option (Bool):=T104 Ops.std p0 some
theorem fo104 {R:Type} (p0:Int) (k:AV→Objs→Option R) (n:Nat):afun tau Ops.std gl0 X104 (gnil) ow Tryz.f104 [.c (.int .u8 p0)] [] k n=ob (F104 p0) (fun y=>k (.c (.bool y)) []):=by rw [eq104];exact nt104 Ops.std p0 some (fun y=>k (.c (.bool y)) [])
def e104 {R:Type} (c:Int→Option (Bool)):Ent R:=fun args objs k=>
 oCons args fun a0 l0=>oC a0 fun x0=>cInt .u8 x0 fun p0=>oNil l0 <| oNilO objs <| ob (c p0) fun y=>k (.c (.bool y)) []
abbrev Sp104 (c:Int→Option (Bool)):Prop:=∀ (p0:Int) (y:Bool),c p0=some y→Spec Tryz.prog gl0 104 [.c (.int .u8 p0)] [] (.c (.bool y)) []
theorem ek104 {R:Type} {c:Int→Option (Bool)} (hs:Sp104 c):EOk 104 (e104 (R:=R) c):=fun args objs k r h=>by
 unfold e104 at h
 obtain ⟨a0,l0,rfl,q1⟩:=qaa h
 obtain ⟨x0,rfl,q2⟩:=qaj q1
 obtain ⟨p0,rfl,q3⟩:=qal q2
 obtain ⟨rfl,q4⟩:=qag q3
 obtain ⟨rfl,q5⟩:=qaf q4
 exact qar (hs p0) q5
theorem sf104:Sp104 (F104):=fun p0 y hy=>by
 refine qap (G:=gnil) (qao) 1000000 (fn:=Tryz.f104) (by kernel_rfl) (by kernel_rfl) (X:=X104) (by kernel_rfl) ?_
 rw [fo104,hy]
 rfl
noncomputable def M104:Int→Option (Bool):=F104
theorem sm104:Sp104 M104:=sf104
def e147 {R:Type} (c:LB→Bool→Option (Int×Bool)):Ent R:=fun args objs k=>
 oCons args fun a0 l0=>oC a0 fun x0=>cStr x0 fun p0=>oCons l0 fun a1 l1=>oC a1 fun x1=>cBool x1 fun p1=>oNil l1 <| oNilO objs <| ob (c p0 p1) fun y=>k (.tup [(false,[.int .i64 y.1]),(false,[.bool y.2])]) []
abbrev Sp147 (c:LB→Bool→Option (Int×Bool)):Prop:=∀ (p0:LB) (p1:Bool) (y:Int×Bool),c p0 p1=some y→Spec Tryz.prog gl0 147 [.c (.str p0),.c (.bool p1)] [] (.tup [(false,[.int .i64 y.1]),(false,[.bool y.2])]) []
theorem ek147 {R:Type} {c:LB→Bool→Option (Int×Bool)} (hs:Sp147 c):EOk 147 (e147 (R:=R) c):=fun args objs k r h=>by
 unfold e147 at h
 obtain ⟨a0,l0,rfl,q1⟩:=qaa h
 obtain ⟨x0,rfl,q2⟩:=qaj q1
 obtain ⟨p0,rfl,q3⟩:=qav q2
 obtain ⟨a1,l1,rfl,q4⟩:=qaa q3
 obtain ⟨x1,rfl,q5⟩:=qaj q4
 obtain ⟨p1,rfl,q6⟩:=qc4 q5
 obtain ⟨rfl,q7⟩:=qag q6
 obtain ⟨rfl,q8⟩:=qaf q7
 exact qar (hs p0 p1) q8
def X147:Aux:=⟨[(6,([1,2,3,4,5,6,7]++rg 10 45))],[]⟩
inductive S147 where
 | l0 (v0_1:Int) (v0_2:Int)
abbrev C147:Type:=LB→Bool→Option (Int×Bool)
abbrev C104:Type:=Int→Option (Bool)
def T147 {R:Type} (B:Ops) (c147:C147) (c104:C104) (p0:LB) (p1:Bool) (again:S147→Option R) (k:(Int×Bool)→Option R):Option S147→Option R | none=>cond (p1) (cond (Ops.lt B (1) (Nat.cast (List.length p0))) (cond (Ops.inb B (0) (List.length p0)) (cond (Ops.eq B (Nat.cast (UInt8.toNat (List.getD p0 (Int.toNat (0)) (0)))) (45)) (cond (Ops.inb B (1) (List.length p0+1)) (ob (c147 (List.drop (Int.toNat (1)) (List.take (List.length p0) p0)) false) fun y0=>k ((IntKind.wrap .i64 (0-y0.1),y0.2))) (none)) (again (.l0 0 0))) (none)) (again (.l0 0 0))) (again (.l0 0 0)) | some (.l0 v0_1 v0_2)=>cond (Ops.lt B v0_2 (Nat.cast (List.length p0))) (cond (Ops.inb B v0_2 (List.length p0)) (ob (c104 (Nat.cast (UInt8.toNat (List.getD p0 (Int.toNat v0_2) (0))))) fun y0=>cond (!y0) (k ((0,false))) (cond (Ops.inb B v0_2 (List.length p0)) (cond (Ops.lt B (2) v0_2) (k ((0,false))) (again (.l0 (IntKind.wrap .i64 (IntKind.wrap .i64 (10*v0_1)+IntKind.wrap .i64 (IntKind.wrap IntKind.u8 (Nat.cast (UInt8.toNat (List.getD p0 (Int.toNat v0_2) (0)))-48)))) (IntKind.wrap .i64 (v0_2+1))))) (none))) (none)) (k ((v0_1,Ops.lt B (0) (Nat.cast (List.length p0)))))
def E147 (p0:LB) (p1:Bool):S147→List AV×Objs
 | .l0 v0_1 v0_2=>(mk 55 [(0,.c (.str p0)),(8,.c (.int .i64 v0_1)),(9,.c (.int .i64 v0_2))],[])
def I147:S147→Nat
 | .l0 _ _=>0
theorem eq147 {R:Type} (B:Ops) (c147:C147) (c104:C104) (p0:LB) (p1:Bool) (k:AV→Objs→Option R) (n:Nat):afun tau B gl0 X147 (ent 147 (e147 c147) (ent 104 (e104 c104) (gnil))) ow Tryz.f147 [.c (.str p0),.c (.bool p1)] [] k n=T147 B c147 c104 p0 p1 (fun s=>aloop tau B gl0 X147 (ent 147 (e147 c147) (ent 104 (e104 c104) (gnil))) ow [] Tryz.f147 k (I147 s) (E147 p0 p1 s) n) (fun y=>k (.tup [(false,[.int .i64 y.1]),(false,[.bool y.2])]) []) none:=by kernel_rfl
theorem el147 {R:Type} (B:Ops) (c147:C147) (c104:C104) (p0:LB) (p1:Bool) (k:AV→Objs→Option R) (n:Nat):∀ s,aloop tau B gl0 X147 (ent 147 (e147 c147) (ent 104 (e104 c104) (gnil))) ow [] Tryz.f147 k (I147 s) (E147 p0 p1 s) (n+1)=T147 B c147 c104 p0 p1 (fun s=>aloop tau B gl0 X147 (ent 147 (e147 c147) (ent 104 (e104 c104) (gnil))) ow [] Tryz.f147 k (I147 s) (E147 p0 p1 s) n) (fun y=>k (.tup [(false,[.int .i64 y.1]),(false,[.bool y.2])]) []) (some s)
 | .l0 v0_1 v0_2=>by kernel_rfl
theorem nt147 {R R':Type} (B:Ops) (c147:C147) (c104:C104) (p0:LB) (p1:Bool) (again:S147→Option R) (again':S147→Option R') (k0:(Int×Bool)→Option R') (k:R'→Option R) (h:∀ s,again s=ob (again' s) k):∀ s,T147 B c147 c104 p0 p1 again (fun y=>ob (k0 y) k) s=ob (T147 B c147 c104 p0 p1 again' k0 s) k
 | none=>by unfold T147;repeat' first | exact rfl | exact h _ | apply qac | (apply qah;intro)
 | some (.l0 v0_1 v0_2)=>by unfold T147;repeat' first | exact rfl | exact h _ | apply qac | (apply qah;intro)
def R147 (c147:C147) (c104:C104) (p0:LB) (p1:Bool):Nat→S147→Option (Int×Bool)
 | 0,_=>none
 | n+1,s=>T147 Ops.std c147 c104 p0 p1 (R147 c147 c104 p0 p1 n) some (some s)
theorem rr147 {R:Type} (c147:C147) (c104:C104) (p0:LB) (p1:Bool) (k:AV→Objs→Option R):∀ (n:Nat) (s:S147),aloop tau Ops.std gl0 X147 (ent 147 (e147 c147) (ent 104 (e104 c104) (gnil))) ow [] Tryz.f147 k (I147 s) (E147 p0 p1 s) n=ob (R147 c147 c104 p0 p1 n s) (fun y=>k (.tup [(false,[.int .i64 y.1]),(false,[.bool y.2])]) [])
 | 0,s=>by cases s<;>rfl
 | n+1,s=>by rw [el147];exact nt147 Ops.std c147 c104 p0 p1 _ _ some (fun y=>k (.tup [(false,[.int .i64 y.1]),(false,[.bool y.2])]) []) (rr147 c147 c104 p0 p1 k n) (some s)
def F147 (c147:C147) (c104:C104) (p0:LB) (p1:Bool):Option (Int×Bool):=T147 Ops.std c147 c104 p0 p1 (R147 c147 c104 p0 p1 1000000) some none
theorem fo147 {R:Type} (c147:C147) (c104:C104) (p0:LB) (p1:Bool) (k:AV→Objs→Option R):afun tau Ops.std gl0 X147 (ent 147 (e147 c147) (ent 104 (e104 c104) (gnil))) ow Tryz.f147 [.c (.str p0),.c (.bool p1)] [] k 1000000=ob (F147 c147 c104 p0 p1) (fun y=>k (.tup [(false,[.int .i64 y.1]),(false,[.bool y.2])]) []):=by rw [eq147];exact nt147 Ops.std c147 c104 p0 p1 _ _ some (fun y=>k (.tup [(false,[.int .i64 y.1]),(false,[.bool y.2])]) []) (rr147 c147 c104 p0 p1 k 1000000) none
theorem sf147 {c147:C147} {c104:C104} (h147:Sp147 c147) (h104:Sp104 c104):Sp147 (F147 c147 c104):=fun p0 p1 y hy=>by
 refine qap (G:=ent 147 (e147 c147) (ent 104 (e104 c104) (gnil))) (qai (ek147 h147) (qai (ek104 h104) (qao))) 1000000 (fn:=Tryz.f147) (by kernel_rfl) (by kernel_rfl) (X:=X147) (by kernel_rfl) ?_
 rw [fo147,hy]
 rfl
noncomputable def Rec147:Nat→(LB→Bool→Option (Int×Bool))
 | 0=>fun _ _=>none
 | d+1=>F147 (Rec147 d) M104
theorem rec147:∀ d,Sp147 (Rec147 d)
 | 0=>fun p0 p1 y (h:(none:Option (Int×Bool))=some y)=>by cases h
 | d+1=>sf147 (rec147 d) sm104
noncomputable def M147:LB→Bool→Option (Int×Bool):=(Rec147 1000000)
theorem sm147:Sp147 M147:=(rec147 1000000)
def X88:Aux:=⟨[],[]⟩
def T88 {R:Type} (B:Ops) (c147:C147) (p0:L9) (k:(LB×Int×Int×Int×Bool)→Option R):Option R:=cond (!Ops.eq B (Nat.cast (List.length p0)) (4)) (k ((mt UInt8,0,0,0,false))) (cond (Ops.inb B (1) (List.length p0)) (ob (c147 (List.getD p0 (Int.toNat (1)) (Ty.dflt ty9)) true) fun y0=>cond (Ops.inb B (2) (List.length p0)) (ob (c147 (List.getD p0 (Int.toNat (2)) (Ty.dflt ty9)) true) fun y1=>cond (Ops.inb B (3) (List.length p0)) (ob (c147 (List.getD p0 (Int.toNat (3)) (Ty.dflt ty9)) true) fun y2=>cond (Ops.inb B (0) (List.length p0)) (cond y0.2 (cond y1.2 (k ((List.getD p0 (Int.toNat (0)) (Ty.dflt ty9),y0.1,y1.1,y2.1,y2.2))) (k ((List.getD p0 (Int.toNat (0)) (Ty.dflt ty9),y0.1,y1.1,y2.1,false)))) (k ((List.getD p0 (Int.toNat (0)) (Ty.dflt ty9),y0.1,y1.1,y2.1,false)))) (none)) (none)) (none)) (none))
theorem eq88 {R:Type} (B:Ops) (c147:C147) (p0:L9) (k:AV→Objs→Option R) (n:Nat):afun tau B gl0 X88 (ent 147 (e147 c147) (gnil)) ow Tryz.f88 [.c (.list 9 ty9 p0)] [] k n=T88 B c147 p0 (fun y=>k (.tup [(true,[.str y.1,.int .i64 y.2.1,.int .i64 y.2.2.1,.int .i64 y.2.2.2.1]),(false,[.bool y.2.2.2.2])]) []):=by kernel_rfl
theorem nt88 {R R':Type} (B:Ops) (c147:C147) (p0:L9) (k0:(LB×Int×Int×Int×Bool)→Option R') (k:R'→Option R):T88 B c147 p0 (fun y=>ob (k0 y) k)=ob (T88 B c147 p0 k0) k:=by
 unfold T88
 repeat' first | exact rfl | apply qac | (apply qah;intro)
def F88 (c147:C147) (p0:L9):Option (LB×Int×Int×Int×Bool):=T88 Ops.std c147 p0 some
theorem fo88 {R:Type} (c147:C147) (p0:L9) (k:AV→Objs→Option R) (n:Nat):afun tau Ops.std gl0 X88 (ent 147 (e147 c147) (gnil)) ow Tryz.f88 [.c (.list 9 ty9 p0)] [] k n=ob (F88 c147 p0) (fun y=>k (.tup [(true,[.str y.1,.int .i64 y.2.1,.int .i64 y.2.2.1,.int .i64 y.2.2.2.1]),(false,[.bool y.2.2.2.2])]) []):=by rw [eq88];exact nt88 Ops.std c147 p0 some (fun y=>k (.tup [(true,[.str y.1,.int .i64 y.2.1,.int .i64 y.2.2.1,.int .i64 y.2.2.2.1]),(false,[.bool y.2.2.2.2])]) [])
def e88 {R:Type} (c:L9→Option (LB×Int×Int×Int×Bool)):Ent R:=fun args objs k=>
 oCons args fun a0 l0=>oC a0 fun x0=>cList 9 ty9 x0 fun p0=>oNil l0 <| oNilO objs <| ob (c p0) fun y=>k (.tup [(true,[.str y.1,.int .i64 y.2.1,.int .i64 y.2.2.1,.int .i64 y.2.2.2.1]),(false,[.bool y.2.2.2.2])]) []
abbrev Sp88 (c:L9→Option (LB×Int×Int×Int×Bool)):Prop:=∀ (p0:L9) (y:LB×Int×Int×Int×Bool),c p0=some y→Spec Tryz.prog gl0 88 [.c (.list 9 ty9 p0)] [] (.tup [(true,[.str y.1,.int .i64 y.2.1,.int .i64 y.2.2.1,.int .i64 y.2.2.2.1]),(false,[.bool y.2.2.2.2])]) []
theorem ek88 {R:Type} {c:L9→Option (LB×Int×Int×Int×Bool)} (hs:Sp88 c):EOk 88 (e88 (R:=R) c):=fun args objs k r h=>by
 unfold e88 at h
 obtain ⟨a0,l0,rfl,q1⟩:=qaa h
 obtain ⟨x0,rfl,q2⟩:=qaj q1
 obtain ⟨p0,rfl,q3⟩:=qae q2
 obtain ⟨rfl,q4⟩:=qag q3
 obtain ⟨rfl,q5⟩:=qaf q4
 exact qar (hs p0) q5
theorem sf88 {c147:C147} (h147:Sp147 c147):Sp88 (F88 c147):=fun p0 y hy=>by
 refine qap (G:=ent 147 (e147 c147) (gnil)) (qai (ek147 h147) (qao)) 1000000 (fn:=Tryz.f88) (by kernel_rfl) (by kernel_rfl) (X:=X88) (by kernel_rfl) ?_
 rw [fo88,hy]
 rfl
noncomputable def M88:L9→Option (LB×Int×Int×Int×Bool):=F88 M147
theorem sm88:Sp88 M88:=sf88 sm147
def X90:Aux:=⟨[(1,(rg 2 28)),(3,(rg 2 28)),(5,(rg 2 28))],[]⟩
inductive S90 where
 | l0 (v0_0:LB) (v0_1:Int)
 | l1 (v1_0:LB) (v1_1:Int)
 | l2 (v2_0:LB) (v2_1:Int)
def T90 {R:Type} (B:Ops) (p0:LB) (p1:Int) (again:S90→Option R) (k:(LB)→Option R):Option S90→Option R | none=>again (.l0 p0 p1) | some (.l0 v0_0 v0_1)=>cond (Ops.lt B (0) v0_1) (again (.l1 v0_0 v0_1)) (k v0_0) | some (.l1 v1_0 v1_1)=>cond (Ops.lt B (0) (Nat.cast (List.length v1_0))) (cond (Ops.inb B (0) (List.length v1_0)) (cond (Ops.eq B (Nat.cast (UInt8.toNat (List.getD v1_0 (Int.toNat (0)) (0)))) (32)) (cond (Ops.inb B (1) (List.length v1_0+1)) (again (.l1 (List.drop (Int.toNat (1)) (List.take (List.length v1_0) v1_0)) v1_1)) (none)) (again (.l2 v1_0 v1_1))) (none)) (again (.l2 v1_0 v1_1)) | some (.l2 v2_0 v2_1)=>cond (Ops.lt B (0) (Nat.cast (List.length v2_0))) (cond (Ops.inb B (0) (List.length v2_0)) (cond (!Ops.eq B (Nat.cast (UInt8.toNat (List.getD v2_0 (Int.toNat (0)) (0)))) (32)) (cond (Ops.inb B (1) (List.length v2_0+1)) (again (.l2 (List.drop (Int.toNat (1)) (List.take (List.length v2_0) v2_0)) v2_1)) (none)) (again (.l0 v2_0 (IntKind.wrap .i64 (v2_1-1))))) (none)) (again (.l0 v2_0 (IntKind.wrap .i64 (v2_1-1))))
def E90 (p0:LB) (p1:Int):S90→List AV×Objs
 | .l0 v0_0 v0_1=>(mk 30 [(0,.c (.str v0_0)),(1,.c (.int .i64 v0_1))],[])
 | .l1 v1_0 v1_1=>(mk 30 [(0,.c (.str v1_0)),(1,.c (.int .i64 v1_1))],[])
 | .l2 v2_0 v2_1=>(mk 30 [(0,.c (.str v2_0)),(1,.c (.int .i64 v2_1))],[])
def I90:S90→Nat
 | .l0 _ _=>0
 | .l1 _ _=>1
 | .l2 _ _=>2
theorem eq90 {R:Type} (B:Ops) (p0:LB) (p1:Int) (k:AV→Objs→Option R) (n:Nat):afun tau B gl0 X90 (gnil) ow Tryz.f90 [.c (.str p0),.c (.int .i64 p1)] [] k n=T90 B p0 p1 (fun s=>aloop tau B gl0 X90 (gnil) ow [] Tryz.f90 k (I90 s) (E90 p0 p1 s) n) (fun y=>k (.c (.str y)) []) none:=by kernel_rfl
theorem el90 {R:Type} (B:Ops) (p0:LB) (p1:Int) (k:AV→Objs→Option R) (n:Nat):∀ s,aloop tau B gl0 X90 (gnil) ow [] Tryz.f90 k (I90 s) (E90 p0 p1 s) (n+1)=T90 B p0 p1 (fun s=>aloop tau B gl0 X90 (gnil) ow [] Tryz.f90 k (I90 s) (E90 p0 p1 s) n) (fun y=>k (.c (.str y)) []) (some s)
 | .l0 v0_0 v0_1=>by kernel_rfl
 | .l1 v1_0 v1_1=>by kernel_rfl
 | .l2 v2_0 v2_1=>by kernel_rfl
theorem nt90 {R R':Type} (B:Ops) (p0:LB) (p1:Int) (again:S90→Option R) (again':S90→Option R') (k0:(LB)→Option R') (k:R'→Option R) (h:∀ s,again s=ob (again' s) k):∀ s,T90 B p0 p1 again (fun y=>ob (k0 y) k) s=ob (T90 B p0 p1 again' k0 s) k
 | none=>by unfold T90;repeat' first | exact rfl | exact h _ | apply qac | (apply qah;intro)
 | some (.l0 v0_0 v0_1)=>by unfold T90;repeat' first | exact rfl | exact h _ | apply qac | (apply qah;intro)
 | some (.l1 v1_0 v1_1)=>by unfold T90;repeat' first | exact rfl | exact h _ | apply qac | (apply qah;intro)
 | some (.l2 v2_0 v2_1)=>by unfold T90;repeat' first | exact rfl | exact h _ | apply qac | (apply qah;intro)
def R90 (p0:LB) (p1:Int):Nat→S90→Option (LB)
 | 0,_=>none
 | n+1,s=>T90 Ops.std p0 p1 (R90 p0 p1 n) some (some s)
theorem rr90 {R:Type} (p0:LB) (p1:Int) (k:AV→Objs→Option R):∀ (n:Nat) (s:S90),aloop tau Ops.std gl0 X90 (gnil) ow [] Tryz.f90 k (I90 s) (E90 p0 p1 s) n=ob (R90 p0 p1 n s) (fun y=>k (.c (.str y)) [])
 | 0,s=>by cases s<;>rfl
 | n+1,s=>by rw [el90];exact nt90 Ops.std p0 p1 _ _ some (fun y=>k (.c (.str y)) []) (rr90 p0 p1 k n) (some s)
def F90 (p0:LB) (p1:Int):Option (LB):=T90 Ops.std p0 p1 (R90 p0 p1 1000000) some none
theorem fo90 {R:Type} (p0:LB) (p1:Int) (k:AV→Objs→Option R):afun tau Ops.std gl0 X90 (gnil) ow Tryz.f90 [.c (.str p0),.c (.int .i64 p1)] [] k 1000000=ob (F90 p0 p1) (fun y=>k (.c (.str y)) []):=by rw [eq90];exact nt90 Ops.std p0 p1 _ _ some (fun y=>k (.c (.str y)) []) (rr90 p0 p1 k 1000000) none
def e90 {R:Type} (c:LB→Int→Option (LB)):Ent R:=fun args objs k=>
 oCons args fun a0 l0=>oC a0 fun x0=>cStr x0 fun p0=>oCons l0 fun a1 l1=>oC a1 fun x1=>cInt .i64 x1 fun p1=>oNil l1 <| oNilO objs <| ob (c p0 p1) fun y=>k (.c (.str y)) []
abbrev Sp90 (c:LB→Int→Option (LB)):Prop:=∀ (p0:LB) (p1:Int) (y:LB),c p0 p1=some y→Spec Tryz.prog gl0 90 [.c (.str p0),.c (.int .i64 p1)] [] (.c (.str y)) []
theorem ek90 {R:Type} {c:LB→Int→Option (LB)} (hs:Sp90 c):EOk 90 (e90 (R:=R) c):=fun args objs k r h=>by
 unfold e90 at h
 obtain ⟨a0,l0,rfl,q1⟩:=qaa h
 obtain ⟨x0,rfl,q2⟩:=qaj q1
 obtain ⟨p0,rfl,q3⟩:=qav q2
 obtain ⟨a1,l1,rfl,q4⟩:=qaa q3
 obtain ⟨x1,rfl,q5⟩:=qaj q4
 obtain ⟨p1,rfl,q6⟩:=qal q5
 obtain ⟨rfl,q7⟩:=qag q6
 obtain ⟨rfl,q8⟩:=qaf q7
 exact qar (hs p0 p1) q8
theorem sf90:Sp90 (F90):=fun p0 p1 y hy=>by
 refine qap (G:=gnil) (qao) 1000000 (fn:=Tryz.f90) (by kernel_rfl) (by kernel_rfl) (X:=X90) (by kernel_rfl) ?_
 rw [fo90,hy]
 rfl
noncomputable def M90:LB→Int→Option (LB):=F90
theorem sm90:Sp90 M90:=sf90
def X103:Aux:=⟨[],[]⟩
def T103 {R:Type} (B:Ops) (p0:Int) (k:(Bool)→Option R):Option R:=cond (Ops.le B (97) p0) (cond (Ops.le B p0 (122)) (k true) (k (Ops.eq B p0 (95)))) (k (Ops.eq B p0 (95)))
theorem eq103 {R:Type} (B:Ops) (p0:Int) (k:AV→Objs→Option R) (n:Nat):afun tau B gl0 X103 (gnil) ow Tryz.f103 [.c (.int .u8 p0)] [] k n=T103 B p0 (fun y=>k (.c (.bool y)) []):=by kernel_rfl
theorem nt103 {R R':Type} (B:Ops) (p0:Int) (k0:(Bool)→Option R') (k:R'→Option R):T103 B p0 (fun y=>ob (k0 y) k)=ob (T103 B p0 k0) k:=by
 unfold T103
 repeat' first | exact rfl | apply qac | (apply qah;intro)
def F103 (p0:Int):Option (Bool):=T103 Ops.std p0 some
theorem fo103 {R:Type} (p0:Int) (k:AV→Objs→Option R) (n:Nat):afun tau Ops.std gl0 X103 (gnil) ow Tryz.f103 [.c (.int .u8 p0)] [] k n=ob (F103 p0) (fun y=>k (.c (.bool y)) []):=by rw [eq103];exact nt103 Ops.std p0 some (fun y=>k (.c (.bool y)) [])
def e103 {R:Type} (c:Int→Option (Bool)):Ent R:=fun args objs k=>
 oCons args fun a0 l0=>oC a0 fun x0=>cInt .u8 x0 fun p0=>oNil l0 <| oNilO objs <| ob (c p0) fun y=>k (.c (.bool y)) []
abbrev Sp103 (c:Int→Option (Bool)):Prop:=∀ (p0:Int) (y:Bool),c p0=some y→Spec Tryz.prog gl0 103 [.c (.int .u8 p0)] [] (.c (.bool y)) []
theorem ek103 {R:Type} {c:Int→Option (Bool)} (hs:Sp103 c):EOk 103 (e103 (R:=R) c):=fun args objs k r h=>by
 unfold e103 at h
 obtain ⟨a0,l0,rfl,q1⟩:=qaa h
 obtain ⟨x0,rfl,q2⟩:=qaj q1
 obtain ⟨p0,rfl,q3⟩:=qal q2
 obtain ⟨rfl,q4⟩:=qag q3
 obtain ⟨rfl,q5⟩:=qaf q4
 exact qar (hs p0) q5
theorem sf103:Sp103 (F103):=fun p0 y hy=>by
 refine qap (G:=gnil) (qao) 1000000 (fn:=Tryz.f103) (by kernel_rfl) (by kernel_rfl) (X:=X103) (by kernel_rfl) ?_
 rw [fo103,hy]
 rfl
noncomputable def M103:Int→Option (Bool):=F103
theorem sm103:Sp103 M103:=sf103
def X58:Aux:=⟨[(2,([1,2]++rg 4 30))],[]⟩
inductive S58 where
 | l0 (v0_1:Int)
abbrev C103:Type:=Int→Option (Bool)
def T58 {R:Type} (B:Ops) (c103:C103) (c104:C104) (p0:LB) (again:S58→Option R) (k:(Bool)→Option R):Option S58→Option R | none=>again (.l0 0) | some (.l0 v0_1)=>cond (Ops.lt B v0_1 (Nat.cast (List.length p0))) (cond (Ops.inb B v0_1 (List.length p0)) (ob (c103 (Nat.cast (UInt8.toNat (List.getD p0 (Int.toNat v0_1) (0))))) fun y0=>cond (!y0) (cond (Ops.eq B v0_1 (0)) (k false) (cond (Ops.inb B v0_1 (List.length p0)) (ob (c104 (Nat.cast (UInt8.toNat (List.getD p0 (Int.toNat v0_1) (0))))) fun y1=>cond (!y1) (k false) (again (.l0 (IntKind.wrap .i64 (v0_1+1))))) (none))) (again (.l0 (IntKind.wrap .i64 (v0_1+1))))) (none)) (cond (Ops.le B (1) (Nat.cast (List.length p0))) (k (Ops.le B (Nat.cast (List.length p0)) (8))) (k false))
def E58 (p0:LB):S58→List AV×Objs
 | .l0 v0_1=>(mk 34 [(0,.c (.str p0)),(3,.c (.int .i64 v0_1))],[])
def I58:S58→Nat
 | .l0 _=>0
theorem eq58 {R:Type} (B:Ops) (c103:C103) (c104:C104) (p0:LB) (k:AV→Objs→Option R) (n:Nat):afun tau B gl0 X58 (ent 103 (e103 c103) (ent 104 (e104 c104) (gnil))) ow Tryz.f58 [.c (.str p0)] [] k n=T58 B c103 c104 p0 (fun s=>aloop tau B gl0 X58 (ent 103 (e103 c103) (ent 104 (e104 c104) (gnil))) ow [] Tryz.f58 k (I58 s) (E58 p0 s) n) (fun y=>k (.c (.bool y)) []) none:=by kernel_rfl
theorem el58 {R:Type} (B:Ops) (c103:C103) (c104:C104) (p0:LB) (k:AV→Objs→Option R) (n:Nat):∀ s,aloop tau B gl0 X58 (ent 103 (e103 c103) (ent 104 (e104 c104) (gnil))) ow [] Tryz.f58 k (I58 s) (E58 p0 s) (n+1)=T58 B c103 c104 p0 (fun s=>aloop tau B gl0 X58 (ent 103 (e103 c103) (ent 104 (e104 c104) (gnil))) ow [] Tryz.f58 k (I58 s) (E58 p0 s) n) (fun y=>k (.c (.bool y)) []) (some s)
 | .l0 v0_1=>by kernel_rfl
theorem nt58 {R R':Type} (B:Ops) (c103:C103) (c104:C104) (p0:LB) (again:S58→Option R) (again':S58→Option R') (k0:(Bool)→Option R') (k:R'→Option R) (h:∀ s,again s=ob (again' s) k):∀ s,T58 B c103 c104 p0 again (fun y=>ob (k0 y) k) s=ob (T58 B c103 c104 p0 again' k0 s) k
 | none=>by unfold T58;repeat' first | exact rfl | exact h _ | apply qac | (apply qah;intro)
 | some (.l0 v0_1)=>by unfold T58;repeat' first | exact rfl | exact h _ | apply qac | (apply qah;intro)
def R58 (c103:C103) (c104:C104) (p0:LB):Nat→S58→Option (Bool)
 | 0,_=>none
 | n+1,s=>T58 Ops.std c103 c104 p0 (R58 c103 c104 p0 n) some (some s)
theorem rr58 {R:Type} (c103:C103) (c104:C104) (p0:LB) (k:AV→Objs→Option R):∀ (n:Nat) (s:S58),aloop tau Ops.std gl0 X58 (ent 103 (e103 c103) (ent 104 (e104 c104) (gnil))) ow [] Tryz.f58 k (I58 s) (E58 p0 s) n=ob (R58 c103 c104 p0 n s) (fun y=>k (.c (.bool y)) [])
 | 0,s=>by cases s<;>rfl
 | n+1,s=>by rw [el58];exact nt58 Ops.std c103 c104 p0 _ _ some (fun y=>k (.c (.bool y)) []) (rr58 c103 c104 p0 k n) (some s)
def F58 (c103:C103) (c104:C104) (p0:LB):Option (Bool):=T58 Ops.std c103 c104 p0 (R58 c103 c104 p0 10000000000000000000) some none
theorem fo58 {R:Type} (c103:C103) (c104:C104) (p0:LB) (k:AV→Objs→Option R):afun tau Ops.std gl0 X58 (ent 103 (e103 c103) (ent 104 (e104 c104) (gnil))) ow Tryz.f58 [.c (.str p0)] [] k 10000000000000000000=ob (F58 c103 c104 p0) (fun y=>k (.c (.bool y)) []):=by rw [eq58];exact nt58 Ops.std c103 c104 p0 _ _ some (fun y=>k (.c (.bool y)) []) (rr58 c103 c104 p0 k 10000000000000000000) none
def e58 {R:Type} (c:LB→Option (Bool)):Ent R:=fun args objs k=>
 oCons args fun a0 l0=>oC a0 fun x0=>cStr x0 fun p0=>oNil l0 <| oNilO objs <| ob (c p0) fun y=>k (.c (.bool y)) []
abbrev Sp58 (c:LB→Option (Bool)):Prop:=∀ (p0:LB) (y:Bool),c p0=some y→Spec Tryz.prog gl0 58 [.c (.str p0)] [] (.c (.bool y)) []
theorem ek58 {R:Type} {c:LB→Option (Bool)} (hs:Sp58 c):EOk 58 (e58 (R:=R) c):=fun args objs k r h=>by
 unfold e58 at h
 obtain ⟨a0,l0,rfl,q1⟩:=qaa h
 obtain ⟨x0,rfl,q2⟩:=qaj q1
 obtain ⟨p0,rfl,q3⟩:=qav q2
 obtain ⟨rfl,q4⟩:=qag q3
 obtain ⟨rfl,q5⟩:=qaf q4
 exact qar (hs p0) q5
theorem sf58 {c103:C103} {c104:C104} (h103:Sp103 c103) (h104:Sp104 c104):Sp58 (F58 c103 c104):=fun p0 y hy=>by
 refine qap (G:=ent 103 (e103 c103) (ent 104 (e104 c104) (gnil))) (qai (ek103 h103) (qai (ek104 h104) (qao))) 10000000000000000000 (fn:=Tryz.f58) (by kernel_rfl) (by kernel_rfl) (X:=X58) (by kernel_rfl) ?_
 rw [fo58,hy]
 rfl
noncomputable def M58:LB→Option (Bool):=F58 M103 M104
theorem sm58:Sp58 M58:=sf58 sm103 sm104
def X106:Aux:=⟨[],[]⟩
abbrev C58:Type:=LB→Option (Bool)
def T106 {R:Type} (B:Ops) (c58:C58) (p0:LB) (k:(LB×Bool)→Option R):Option R:=cond (p0 == mt UInt8) (k ((mt UInt8,true))) (cond (Ops.inb B (IntKind.wrap .i64 (Nat.cast (List.length p0)-1)) (List.length p0+1)) (cond (Ops.inb B (IntKind.wrap .i64 (Nat.cast (List.length p0)-1)) (List.length p0+1)) (ob (c58 (List.drop (0) (List.take (Int.toNat (IntKind.wrap .i64 (Nat.cast (List.length p0)-1))) p0))) fun y0=>cond (y0) (cond (List.drop (Int.toNat (IntKind.wrap .i64 (Nat.cast (List.length p0)-1))) (List.take (List.length p0) p0) == ([33]:LB)) (k ((List.drop (0) (List.take (Int.toNat (IntKind.wrap .i64 (Nat.cast (List.length p0)-1))) p0),true))) (k ((List.drop (0) (List.take (Int.toNat (IntKind.wrap .i64 (Nat.cast (List.length p0)-1))) p0),List.drop (Int.toNat (IntKind.wrap .i64 (Nat.cast (List.length p0)-1))) (List.take (List.length p0) p0) == ([63]:LB))))) (k ((List.drop (0) (List.take (Int.toNat (IntKind.wrap .i64 (Nat.cast (List.length p0)-1))) p0),false)))) (none)) (none))
theorem eq106 {R:Type} (B:Ops) (c58:C58) (p0:LB) (k:AV→Objs→Option R) (n:Nat):afun tau B gl0 X106 (ent 58 (e58 c58) (gnil)) ow Tryz.f106 [.c (.str p0)] [] k n=T106 B c58 p0 (fun y=>k (.tup [(false,[.str y.1]),(false,[.bool y.2])]) []):=by kernel_rfl
theorem nt106 {R R':Type} (B:Ops) (c58:C58) (p0:LB) (k0:(LB×Bool)→Option R') (k:R'→Option R):T106 B c58 p0 (fun y=>ob (k0 y) k)=ob (T106 B c58 p0 k0) k:=by
 unfold T106
 repeat' first | exact rfl | apply qac | (apply qah;intro)
def F106 (c58:C58) (p0:LB):Option (LB×Bool):=T106 Ops.std c58 p0 some
theorem fo106 {R:Type} (c58:C58) (p0:LB) (k:AV→Objs→Option R) (n:Nat):afun tau Ops.std gl0 X106 (ent 58 (e58 c58) (gnil)) ow Tryz.f106 [.c (.str p0)] [] k n=ob (F106 c58 p0) (fun y=>k (.tup [(false,[.str y.1]),(false,[.bool y.2])]) []):=by rw [eq106];exact nt106 Ops.std c58 p0 some (fun y=>k (.tup [(false,[.str y.1]),(false,[.bool y.2])]) [])
def e106 {R:Type} (c:LB→Option (LB×Bool)):Ent R:=fun args objs k=>
 oCons args fun a0 l0=>oC a0 fun x0=>cStr x0 fun p0=>oNil l0 <| oNilO objs <| ob (c p0) fun y=>k (.tup [(false,[.str y.1]),(false,[.bool y.2])]) []
abbrev Sp106 (c:LB→Option (LB×Bool)):Prop:=∀ (p0:LB) (y:LB×Bool),c p0=some y→Spec Tryz.prog gl0 106 [.c (.str p0)] [] (.tup [(false,[.str y.1]),(false,[.bool y.2])]) []
theorem ek106 {R:Type} {c:LB→Option (LB×Bool)} (hs:Sp106 c):EOk 106 (e106 (R:=R) c):=fun args objs k r h=>by
 unfold e106 at h
 obtain ⟨a0,l0,rfl,q1⟩:=qaa h
 obtain ⟨x0,rfl,q2⟩:=qaj q1
 obtain ⟨p0,rfl,q3⟩:=qav q2
 obtain ⟨rfl,q4⟩:=qag q3
 obtain ⟨rfl,q5⟩:=qaf q4
 exact qar (hs p0) q5
theorem sf106 {c58:C58} (h58:Sp58 c58):Sp106 (F106 c58):=fun p0 y hy=>by
 refine qap (G:=ent 58 (e58 c58) (gnil)) (qai (ek58 h58) (qao)) 1000000 (fn:=Tryz.f106) (by kernel_rfl) (by kernel_rfl) (X:=X106) (by kernel_rfl) ?_
 rw [fo106,hy]
 rfl
noncomputable def M106:LB→Option (LB×Bool):=F106 M58
theorem sm106:Sp106 M106:=sf106 sm58
def X140:Aux:=⟨[(3,([1,2]++rg 5 37)),(9,([1,2,3,4]++rg 7 35))],[(5,.lin (rg 0 11)),(11,.lin [0,1,2,3,4,5,6,7])]⟩
inductive S140 where
 | l0 (v0_1:Int)
 | l1 (v1_2:Int)
def T140 {R:Type} (B:Ops) (p0:LB) (again:S140→Option R) (k:(LB)→Option R):Option S140→Option R | none=>again (.l0 0) | some (.l0 v0_1)=>cond (Ops.lt B v0_1 (7)) (cond (Ops.lt B (1) (Nat.cast (List.length p0))) (cond (Ops.inb B (2) (List.length p0+1)) (cond (Ops.inb B v0_1 (9)) (cond (List.drop (0) (List.take (Int.toNat (2)) p0) == List.getD (([60,61]:LB)::([62,61]:LB)::([61,61]:LB)::([33,61]:LB)::([38,38]:LB)::([124,124]:LB)::([45,62]:LB)::(mt UInt8)::(mt UInt8)::mt LB) (Int.toNat v0_1) (mt UInt8)) (cond (Ops.inb B v0_1 (9)) (k (List.getD (([60,61]:LB)::([62,61]:LB)::([61,61]:LB)::([33,61]:LB)::([38,38]:LB)::([124,124]:LB)::([45,62]:LB)::(mt UInt8)::(mt UInt8)::mt LB) (Int.toNat v0_1) (mt UInt8))) (none)) (again (.l0 (IntKind.wrap .i64 (v0_1+1))))) (none)) (none)) (again (.l0 (IntKind.wrap .i64 (v0_1+1))))) (again (.l1 0)) | some (.l1 v1_2)=>cond (Ops.lt B v1_2 (Nat.cast (13))) (cond (Ops.inb B (1) (List.length p0+1)) (cond (Ops.inb B (IntKind.wrap .i64 (v1_2+1)) (13+1)) (cond (bif Ops.le B (0) v1_2 then Ops.le B v1_2 (IntKind.wrap .i64 (v1_2+1)) else false) (cond (List.drop (0) (List.take (Int.toNat (1)) p0) == List.drop (Int.toNat v1_2) (List.take (Int.toNat (IntKind.wrap .i64 (v1_2+1))) ([40,41,91,93,43,45,42,60,62,33,64,59,61]:LB))) (cond (Ops.inb B (1) (List.length p0+1)) (k (List.drop (0) (List.take (Int.toNat (1)) p0))) (none)) (again (.l1 (IntKind.wrap .i64 (v1_2+1))))) (none)) (none)) (none)) (k (mt UInt8))
def E140 (p0:LB):S140→List AV×Objs
 | .l0 v0_1=>(mk 42 [(0,.c (.str p0)),(3,.c (.ptr 3 0)),(4,.c (.int .i64 v0_1))],[(3,.box 203 [.str ([60,61]:LB),.str ([62,61]:LB),.str ([61,61]:LB),.str ([33,61]:LB),.str ([38,38]:LB),.str ([124,124]:LB),.str ([45,62]:LB),.str (mt UInt8),.str (mt UInt8)])])
 | .l1 v1_2=>(mk 42 [(0,.c (.str p0)),(5,.c (.str ([40,41,91,93,43,45,42,60,62,33,64,59,61]:LB))),(6,.c (.int .i64 v1_2))],[])
def I140:S140→Nat
 | .l0 _=>0
 | .l1 _=>1
theorem eq140 {R:Type} (B:Ops) (p0:LB) (k:AV→Objs→Option R) (n:Nat):afun tau B gl0 X140 (gnil) ow Tryz.f140 [.c (.str p0)] [] k n=T140 B p0 (fun s=>aloop tau B gl0 X140 (gnil) ow [] Tryz.f140 k (I140 s) (E140 p0 s) n) (fun y=>k (.c (.str y)) []) none:=by kernel_rfl
theorem el140 {R:Type} (B:Ops) (p0:LB) (k:AV→Objs→Option R) (n:Nat):∀ s,aloop tau B gl0 X140 (gnil) ow [] Tryz.f140 k (I140 s) (E140 p0 s) (n+1)=T140 B p0 (fun s=>aloop tau B gl0 X140 (gnil) ow [] Tryz.f140 k (I140 s) (E140 p0 s) n) (fun y=>k (.c (.str y)) []) (some s)
 | .l0 v0_1=>by kernel_rfl
 | .l1 v1_2=>by kernel_rfl
theorem nt140 {R R':Type} (B:Ops) (p0:LB) (again:S140→Option R) (again':S140→Option R') (k0:(LB)→Option R') (k:R'→Option R) (h:∀ s,again s=ob (again' s) k):∀ s,T140 B p0 again (fun y=>ob (k0 y) k) s=ob (T140 B p0 again' k0 s) k
 | none=>by unfold T140;repeat' first | exact rfl | exact h _ | apply qac | (apply qah;intro)
 | some (.l0 v0_1)=>by unfold T140;repeat' first | exact rfl | exact h _ | apply qac | (apply qah;intro)
 | some (.l1 v1_2)=>by unfold T140;repeat' first | exact rfl | exact h _ | apply qac | (apply qah;intro)
def R140 (p0:LB):Nat→S140→Option (LB)
 | 0,_=>none
 | n+1,s=>T140 Ops.std p0 (R140 p0 n) some (some s)
theorem rr140 {R:Type} (p0:LB) (k:AV→Objs→Option R):∀ (n:Nat) (s:S140),aloop tau Ops.std gl0 X140 (gnil) ow [] Tryz.f140 k (I140 s) (E140 p0 s) n=ob (R140 p0 n s) (fun y=>k (.c (.str y)) [])
 | 0,s=>by cases s<;>rfl
 | n+1,s=>by rw [el140];exact nt140 Ops.std p0 _ _ some (fun y=>k (.c (.str y)) []) (rr140 p0 k n) (some s)
def F140 (p0:LB):Option (LB):=T140 Ops.std p0 (R140 p0 1000000) some none
theorem fo140 {R:Type} (p0:LB) (k:AV→Objs→Option R):afun tau Ops.std gl0 X140 (gnil) ow Tryz.f140 [.c (.str p0)] [] k 1000000=ob (F140 p0) (fun y=>k (.c (.str y)) []):=by rw [eq140];exact nt140 Ops.std p0 _ _ some (fun y=>k (.c (.str y)) []) (rr140 p0 k 1000000) none
def e140 {R:Type} (c:LB→Option (LB)):Ent R:=fun args objs k=>
 oCons args fun a0 l0=>oC a0 fun x0=>cStr x0 fun p0=>oNil l0 <| oNilO objs <| ob (c p0) fun y=>k (.c (.str y)) []
abbrev Sp140 (c:LB→Option (LB)):Prop:=∀ (p0:LB) (y:LB),c p0=some y→Spec Tryz.prog gl0 140 [.c (.str p0)] [] (.c (.str y)) []
theorem ek140 {R:Type} {c:LB→Option (LB)} (hs:Sp140 c):EOk 140 (e140 (R:=R) c):=fun args objs k r h=>by
 unfold e140 at h
 obtain ⟨a0,l0,rfl,q1⟩:=qaa h
 obtain ⟨x0,rfl,q2⟩:=qaj q1
 obtain ⟨p0,rfl,q3⟩:=qav q2
 obtain ⟨rfl,q4⟩:=qag q3
 obtain ⟨rfl,q5⟩:=qaf q4
 exact qar (hs p0) q5
theorem sf140:Sp140 (F140):=fun p0 y hy=>by
 refine qap (G:=gnil) (qao) 1000000 (fn:=Tryz.f140) (by kernel_rfl) (by kernel_rfl) (X:=X140) (by kernel_rfl) ?_
 rw [fo140,hy]
 rfl
noncomputable def M140:LB→Option (LB):=F140
theorem sm140:Sp140 M140:=sf140
end Go.Proofs.YtccnmhdgghjgoaaGreatDoor.Av
