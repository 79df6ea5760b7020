/- Twins of functions,printed by gen.py. Conditions: none. -/
import Derived.Test.YtkmpkebaloejhaaDoorEb1
import Derived.KernelRfl
set_option linter.unusedSimpArgs false
set_option linter.unusedVariables false
set_option maxRecDepth 100000
set_option maxHeartbeats 8000000
namespace Go.Proofs.YtkmpkebaloejhaaDoor.Av
open Go
def X16:Aux:=⟨[],[]⟩
def T16 {R:Type} (B:Ops) (c49:C49) (p0:L3) (k:(LB)→Option R):Option R:=ob (c49 0 p0 0) fun y0=>k y0.1
theorem eq16 {R:Type} (B:Ops) (c49:C49) (p0:L3) (k:AV→Objs→Option R) (n:Nat):afun tau B gl0 X16 (ent 49 (e49 c49) gnil) ow Tryd.f16 [.c (.list 3 ty3 p0)] [] k n=T16 B c49 p0 (K3 k):=by kernel_rfl
theorem nt16 {R R':Type} (B:Ops) (c49:C49) (p0:L3) (k0:(LB)→Option R') (k:R'→Option R):T16 B c49 p0 (fun y=>ob (k0 y) k)=ob (T16 B c49 p0 k0) k:=by
 unfold T16
 repeat' first | exact rfl | apply qac | (apply qal;intro)
def F16 (c49:C49) (p0:L3):Option (LB):=T16 Ops.std c49 p0 some
abbrev C16:Type:=L3→Option (LB)
def e16 {R:Type} (c:C16):Ent R:=eG [.aC (.cL 3 ty3)] [] fun v k=>ob (c v.1) (K3 k)
abbrev Sp16 (c:C16):Prop:=∀ (p0:L3) (y:LB),c p0=some y→Spec Tryd.prog gl0 16 [.c (.list 3 ty3 p0)] [] (.c (.str y)) []
theorem ek16 {R:Type} {c:C16} (hs:Sp16 c):EOk 16 (e16 (R:=R) c):=qar fun v=>hs v.1
theorem sf16 {c49:C49} (h49:Sp49 c49):Sp16 (F16 c49):=fun p0 y hy=>by
 refine qah (qad (ek49 h49) qag) 1000000 (fn:=Tryd.f16) (by kernel_rfl) (by kernel_rfl) (X:=X16) (by kernel_rfl) ?_
 rw [eq16]
 exact (nt16 Ops.std c49 p0 some (K3 k0)).trans (by show ob (F16 c49 p0) _=_;rw [hy];rfl)
noncomputable def M16:C16:=F16 M49
theorem sm16:Sp16 M16:=sf16 sm49
def X15:Aux:=⟨[(2,([2,3,4]++rg 6 49))],[(6,.lin (rg 0 17))]⟩
inductive S15 where
 | l0 (v0:LB) (v2:Int)
def T15 {R:Type} (B:Ops) (c24:C24) (p0:LB) (p1:L3) (again:S15→Option R) (k:(LB)→Option R):Option S15→Option R | none=>again (.l0 p0 0) | some (.l0 v0 v2)=>cond (B.lt v2 (↑p1.length)) (cond (B.lt v2 2) (cond (B.lt 0 (↑v0.length)) (cond (B.inb v2 p1.length) (cond (B.eq 17 0) none (ob (c24 (IntKind.wrap .i64 (Int.tdiv (p1.getD v2.toNat ty3.dflt) 17)) (↑v0.length)) fun y0=>cond (B.inb v2 p1.length) (ob (c24 (p1.getD v2.toNat ty3.dflt) 17) fun y1=>cond (B.inb y1 17) (cond (B.inb y0 (List.length v0+1)) (cond (B.lim (List.length (List.drop 0 (List.take y0.toNat v0))+List.length (List.getD (([32]:LB)::([40]:LB)::([41]:LB)::([91]:LB)::([93]:LB)::([85]:LB)::([88]:LB)::([33]:LB)::([45]:LB)::([57]:LB)::([61]:LB)::([60]:LB)::([64]:LB)::([119]:LB)::mt UInt8::([38,38]:LB)::([82]:LB)::mt LB) y1.toNat (mt UInt8))) 1) (cond (B.inb v2 p1.length) (cond (B.eq 7 0) none (ob (c24 (IntKind.wrap .i64 (Int.tdiv (p1.getD v2.toNat ty3.dflt) 7)) 2) fun y2=>cond (B.inb (IntKind.wrap .i64 (y0+y2)) (List.length v0+1)) (cond (B.lim (List.length (List.drop 0 (List.take y0.toNat v0)++List.getD (([32]:LB)::([40]:LB)::([41]:LB)::([91]:LB)::([93]:LB)::([85]:LB)::([88]:LB)::([33]:LB)::([45]:LB)::([57]:LB)::([61]:LB)::([60]:LB)::([64]:LB)::([119]:LB)::mt UInt8::([38,38]:LB)::([82]:LB)::mt LB) y1.toNat (mt UInt8))+List.length (List.drop (Int.toNat (IntKind.wrap .i64 (y0+y2))) (List.take v0.length v0))) 1) (again (.l0 (List.drop 0 (List.take y0.toNat v0)++List.getD (([32]:LB)::([40]:LB)::([41]:LB)::([91]:LB)::([93]:LB)::([85]:LB)::([88]:LB)::([33]:LB)::([45]:LB)::([57]:LB)::([61]:LB)::([60]:LB)::([64]:LB)::([119]:LB)::mt UInt8::([38,38]:LB)::([82]:LB)::mt LB) y1.toNat (mt UInt8)++List.drop (Int.toNat (IntKind.wrap .i64 (y0+y2))) (List.take v0.length v0)) (IntKind.wrap .i64 (v2+1)))) none) none)) none) none) none) none) none)) none) (k v0)) (k v0)) (k v0)
def E15 (p0:LB) (p1:L3):S15→List AV×Objs
 | .l0 v0 v2=>(mk 55 [(0,.c (.str v0)),(1,.c (.list 3 ty3 p1)),(5,.c (.int .i64 v2))],[])
def I15:S15→Nat
 | .l0 _ _=>0
noncomputable abbrev A15 {R:Type} (B:Ops) (c24:C24) (p0:LB) (p1:L3) (k:AV→Objs→Option R) (s:S15) (n:Nat):Option R:=aloop tau B gl0 X15 (ent 24 (e24 c24) gnil) ow [] Tryd.f15 k (I15 s) (E15 p0 p1 s) n
theorem eq15 {R:Type} (B:Ops) (c24:C24) (p0:LB) (p1:L3) (k:AV→Objs→Option R) (n:Nat):afun tau B gl0 X15 (ent 24 (e24 c24) gnil) ow Tryd.f15 [.c (.str p0),.c (.list 3 ty3 p1)] [] k n=T15 B c24 p0 p1 (fun s=>A15 B c24 p0 p1 k s n) (K3 k) none:=by kernel_rfl
theorem el15 {R:Type} (B:Ops) (c24:C24) (p0:LB) (p1:L3) (k:AV→Objs→Option R) (n:Nat):∀ s,A15 B c24 p0 p1 k s (n+1)=T15 B c24 p0 p1 (fun s=>A15 B c24 p0 p1 k s n) (K3 k) (some s):=by
 intro s
 cases s<;>kernel_rfl
theorem nt15 {R R':Type} (B:Ops) (c24:C24) (p0:LB) (p1:L3) (again:S15→Option R) (again':S15→Option R') (k0:(LB)→Option R') (k:R'→Option R) (h:∀ s,again s=ob (again' s) k):∀ s,T15 B c24 p0 p1 again (fun y=>ob (k0 y) k) s=ob (T15 B c24 p0 p1 again' k0 s) k:=by
 rintro (_ | x)
 all_goals try cases x
 all_goals (unfold T15;repeat' first | exact rfl | exact h _ | apply qac | (apply qal;intro))
def R15 (c24:C24) (p0:LB) (p1:L3):Nat→S15→Option (LB)
 | 0,_=>none
 | n+1,s=>T15 Ops.std c24 p0 p1 (R15 c24 p0 p1 n) some (some s)
theorem rr15 {R:Type} (c24:C24) (p0:LB) (p1:L3) (k:AV→Objs→Option R):∀ (n:Nat) (s:S15),A15 Ops.std c24 p0 p1 k s n=ob (R15 c24 p0 p1 n s) (K3 k)
 | 0,s=>by cases s<;>rfl
 | n+1,s=>by rw [el15];exact nt15 Ops.std c24 p0 p1 _ _ some (K3 k) (rr15 c24 p0 p1 k n) (some s)
def F15 (c24:C24) (p0:LB) (p1:L3):Option (LB):=T15 Ops.std c24 p0 p1 (R15 c24 p0 p1 1000000) some none
abbrev C15:Type:=LB→L3→Option (LB)
def e15 {R:Type} (c:C15):Ent R:=eG [.aC .cS,.aC (.cL 3 ty3)] [] fun v k=>ob (c v.1 v.2.1) (K3 k)
abbrev Sp15 (c:C15):Prop:=∀ (p0:LB) (p1:L3) (y:LB),c p0 p1=some y→Spec Tryd.prog gl0 15 [.c (.str p0),.c (.list 3 ty3 p1)] [] (.c (.str y)) []
theorem ek15 {R:Type} {c:C15} (hs:Sp15 c):EOk 15 (e15 (R:=R) c):=qar fun v=>hs v.1 v.2.1
theorem sf15 {c24:C24} (h24:Sp24 c24):Sp15 (F15 c24):=fun p0 p1 y hy=>by
 refine qah (qad (ek24 h24) qag) 1000000 (fn:=Tryd.f15) (by kernel_rfl) (by kernel_rfl) (X:=X15) (by kernel_rfl) ?_
 rw [eq15]
 exact (nt15 Ops.std c24 p0 p1 _ _ some (K3 k0) (rr15 c24 p0 p1 k0 1000000) none).trans (by show ob (F15 c24 p0 p1) _=_;rw [hy];rfl)
noncomputable def M15:C15:=F15 M24
theorem sm15:Sp15 M15:=sf15 sm24
def X65:Aux:=⟨[(4,(rg 2 10++rg 14 12))],[(6,.lin [0,1,2,3,4,5,6,7,8])]⟩
inductive S65 where
 | l0 (v2 v3:Int)
def T65 {R:Type} (B:Ops) (p0 p1:L56) (again:S65→Option R) (k:(Bool)→Option R):Option S65→Option R | none=>cond (!B.eq (↑p0.length) (↑p1.length)) (k false) (again (.l0 (↑p0.length) 0)) | some (.l0 v2 v3)=>cond (B.lt v3 v2) (cond (B.inb v3 p0.length) (cond (B.inb v3 p1.length) (cond (!(B.eq (p0.getD v3.toNat ty56.dflt).1 (p1.getD v3.toNat ty56.dflt).1 && (B.eq ((p0.getD v3.toNat ty56.dflt).2).1 ((p1.getD v3.toNat ty56.dflt).2).1 && ((((p0.getD v3.toNat ty56.dflt).2).2).1 == (((p1.getD v3.toNat ty56.dflt).2).2).1 && ((((p0.getD v3.toNat ty56.dflt).2).2).2 == (((p1.getD v3.toNat ty56.dflt).2).2).2 && true))))) (k false) (again (.l0 v2 (IntKind.wrap .i64 (v3+1))))) none) none) (k true)
def E65 (p0 p1:L56):S65→List AV×Objs
 | .l0 v2 v3=>(mk 26 [(0,.c (.list 56 ty56 p0)),(1,.c (.list 56 ty56 p1)),(12,.c (.int .i64 v2)),(13,.c (.int .i64 v3))],[])
def I65:S65→Nat
 | .l0 _ _=>0
noncomputable abbrev A65 {R:Type} (B:Ops) (p0 p1:L56) (k:AV→Objs→Option R) (s:S65) (n:Nat):Option R:=aloop tau B gl0 X65 gnil ow [] Tryd.f65 k (I65 s) (E65 p0 p1 s) n
theorem eq65 {R:Type} (B:Ops) (p0 p1:L56) (k:AV→Objs→Option R) (n:Nat):afun tau B gl0 X65 gnil ow Tryd.f65 [.c (.list 56 ty56 p0),.c (.list 56 ty56 p1)] [] k n=T65 B p0 p1 (fun s=>A65 B p0 p1 k s n) (K2 k) none:=by kernel_rfl
theorem el65 {R:Type} (B:Ops) (p0 p1:L56) (k:AV→Objs→Option R) (n:Nat):∀ s,A65 B p0 p1 k s (n+1)=T65 B p0 p1 (fun s=>A65 B p0 p1 k s n) (K2 k) (some s):=by
 intro s
 cases s<;>kernel_rfl
theorem nt65 {R R':Type} (B:Ops) (p0 p1:L56) (again:S65→Option R) (again':S65→Option R') (k0:(Bool)→Option R') (k:R'→Option R) (h:∀ s,again s=ob (again' s) k):∀ s,T65 B p0 p1 again (fun y=>ob (k0 y) k) s=ob (T65 B p0 p1 again' k0 s) k:=by
 rintro (_ | x)
 all_goals try cases x
 all_goals (unfold T65;repeat' first | exact rfl | exact h _ | apply qac | (apply qal;intro))
def R65 (p0 p1:L56):Nat→S65→Option (Bool)
 | 0,_=>none
 | n+1,s=>T65 Ops.std p0 p1 (R65 p0 p1 n) some (some s)
theorem rr65 {R:Type} (p0 p1:L56) (k:AV→Objs→Option R):∀ (n:Nat) (s:S65),A65 Ops.std p0 p1 k s n=ob (R65 p0 p1 n s) (K2 k)
 | 0,s=>by cases s<;>rfl
 | n+1,s=>by rw [el65];exact nt65 Ops.std p0 p1 _ _ some (K2 k) (rr65 p0 p1 k n) (some s)
def F65 (p0 p1:L56):Option (Bool):=T65 Ops.std p0 p1 (R65 p0 p1 1000000) some none
abbrev C65:Type:=L56→L56→Option (Bool)
def e65 {R:Type} (c:C65):Ent R:=eG [.aC (.cL 56 ty56),.aC (.cL 56 ty56)] [] fun v k=>ob (c v.1 v.2.1) (K2 k)
abbrev Sp65 (c:C65):Prop:=∀ (p0 p1:L56) (y:Bool),c p0 p1=some y→Spec Tryd.prog gl0 65 [.c (.list 56 ty56 p0),.c (.list 56 ty56 p1)] [] (.c (.bool y)) []
theorem ek65 {R:Type} {c:C65} (hs:Sp65 c):EOk 65 (e65 (R:=R) c):=qar fun v=>hs v.1 v.2.1
theorem sf65:Sp65 (F65):=fun p0 p1 y hy=>by
 refine qah qag 1000000 (fn:=Tryd.f65) (by kernel_rfl) (by kernel_rfl) (X:=X65) (by kernel_rfl) ?_
 rw [eq65]
 exact (nt65 Ops.std p0 p1 _ _ some (K2 k0) (rr65 p0 p1 k0 1000000) none).trans (by show ob (F65 p0 p1) _=_;rw [hy];rfl)
noncomputable def M65:C65:=F65
theorem sm65:Sp65 M65:=sf65
def X27:Aux:=⟨[],[]⟩
def T27 {R:Type} (B:Ops) (c65:C65) (p0 p1:L56) (k:(Bool)→Option R):Option R:=ob (c65 p0 p1) fun y0=>k y0
theorem eq27 {R:Type} (B:Ops) (c65:C65) (p0 p1:L56) (k:AV→Objs→Option R) (n:Nat):afun tau B gl0 X27 (ent 65 (e65 c65) gnil) ow Tryd.f27 [.c (.list 56 ty56 p0),.c (.list 56 ty56 p1)] [] k n=T27 B c65 p0 p1 (K2 k):=by kernel_rfl
theorem nt27 {R R':Type} (B:Ops) (c65:C65) (p0 p1:L56) (k0:(Bool)→Option R') (k:R'→Option R):T27 B c65 p0 p1 (fun y=>ob (k0 y) k)=ob (T27 B c65 p0 p1 k0) k:=by
 unfold T27
 repeat' first | exact rfl | apply qac | (apply qal;intro)
def F27 (c65:C65) (p0 p1:L56):Option (Bool):=T27 Ops.std c65 p0 p1 some
abbrev C27:Type:=L56→L56→Option (Bool)
def e27 {R:Type} (c:C27):Ent R:=eG [.aC (.cL 56 ty56),.aC (.cL 56 ty56)] [] fun v k=>ob (c v.1 v.2.1) (K2 k)
abbrev Sp27 (c:C27):Prop:=∀ (p0 p1:L56) (y:Bool),c p0 p1=some y→Spec Tryd.prog gl0 27 [.c (.list 56 ty56 p0),.c (.list 56 ty56 p1)] [] (.c (.bool y)) []
theorem ek27 {R:Type} {c:C27} (hs:Sp27 c):EOk 27 (e27 (R:=R) c):=qar fun v=>hs v.1 v.2.1
theorem sf27 {c65:C65} (h65:Sp65 c65):Sp27 (F27 c65):=fun p0 p1 y hy=>by
 refine qah (qad (ek65 h65) qag) 1000000 (fn:=Tryd.f27) (by kernel_rfl) (by kernel_rfl) (X:=X27) (by kernel_rfl) ?_
 rw [eq27]
 exact (nt27 Ops.std c65 p0 p1 some (K2 k0)).trans (by show ob (F27 c65 p0 p1) _=_;rw [hy];rfl)
noncomputable def M27:C27:=F27 M65
theorem sm27:Sp27 M27:=sf27 sm65
def X4:Aux:=⟨[(11,([0,1,2,3,4,6,7]++rg 9 50++rg 60 56)),(16,([0,1,2,3,4,6,7,9,10,11]++rg 15 44++rg 60 56))],[(23,.lin (rg 0 24))]⟩
inductive S4 where
 | l0 (v0:LB) (v1:L56) (v2:LB) (v3:Nat)
 | l1 (v0:LB) (v1 v2 v3:Int) (v4:L56) (v5:LB) (v6:Nat)
def T4 {R:Type} (B:Ops) (c14:C14) (c16:C16) (c15:C15) (c17:C17) (c20:C20) (c27:C27) (p0 p1:L3) (again:S4→Option R) (k:(Bool)→Option R):Option S4→Option R | none=>ob (c14) fun y0=>cond (!y0) (k false) (ob (c16 p0) fun y1=>ob (c15 y1 p1) fun y2=>ob (c17 y2) fun y3=>ob (c14) fun y4=>cond (!y4) (ob (c14) fun y5=>k y5) (cond (!B.eq y3.1 0) (ob (c14) fun y5=>k y5) (ob (c20 y3.2.2) fun y5=>ob (c17 y5) fun y6=>cond (!B.eq y6.1 0) (k false) (ob (c27 y3.2.2 y6.2.2) fun y7=>cond (!y7) (k false) (ob (c20 y6.2.2) fun y8=>cond (!y8 == y5) (k false) (again (.l0 y5 y3.2.2 y5 0))))))) | some (.l0 v0 v1 v2 v3)=>cond (B.lt (Nat.cast v3) (↑v2.length)) (cond (B.lt (Nat.cast (UInt8.toNat (v2.getD v3 0))) 128) (cond (B.inb (Nat.cast v3) v0.length) (cond (!B.eq (Nat.cast (UInt8.toNat (v0.getD (Int.toNat (Nat.cast v3)) 0))) 40) (again (.l0 v0 v1 v2 (v3+1))) (again (.l1 v0 (Nat.cast v3) 0 (Nat.cast v3) v1 v2 (v3+1)))) none) none) (k true) | some (.l1 v0 v1 v2 v3 v4 v5 v6)=>cond (B.lt v3 (↑v0.length)) (cond (B.inb v3 v0.length) (cond (B.eq (Nat.cast (UInt8.toNat (v0.getD v3.toNat 0))) 40) (cond (B.inb v3 v0.length) (cond (B.eq (Nat.cast (UInt8.toNat (v0.getD v3.toNat 0))) 41) (cond (B.eq (IntKind.wrap .i64 (IntKind.wrap .i64 (v2+1)-1)) 0) (cond (B.inb v1 (List.length v0+1)) (cond (B.lim (List.length (List.drop 0 (List.take v1.toNat v0))+1) 1) (cond (B.inb v3 (List.length v0+1)) (cond (bif B.le 0 (IntKind.wrap .i64 (v1+1)) then B.le (IntKind.wrap .i64 (v1+1)) v3 else false) (cond (B.lim (List.length (List.drop 0 (List.take v1.toNat v0)++([32]:LB))+List.length (List.drop (Int.toNat (IntKind.wrap .i64 (v1+1))) (List.take v3.toNat v0))) 1) (cond (B.lim (List.length (List.drop 0 (List.take v1.toNat v0)++([32]:LB)++List.drop (Int.toNat (IntKind.wrap .i64 (v1+1))) (List.take v3.toNat v0))+1) 1) (cond (B.inb (IntKind.wrap .i64 (v3+1)) (List.length v0+1)) (cond (B.lim (List.length (List.drop 0 (List.take v1.toNat v0)++([32]:LB)++List.drop (Int.toNat (IntKind.wrap .i64 (v1+1))) (List.take v3.toNat v0)++([32]:LB))+List.length (List.drop (Int.toNat (IntKind.wrap .i64 (v3+1))) (List.take v0.length v0))) 1) (ob (c17 (List.drop 0 (List.take v1.toNat v0)++([32]:LB)++List.drop (Int.toNat (IntKind.wrap .i64 (v1+1))) (List.take v3.toNat v0)++([32]:LB)++List.drop (Int.toNat (IntKind.wrap .i64 (v3+1))) (List.take v0.length v0))) fun y0=>cond (B.eq y0.1 0) (ob (c27 v4 y0.2.2) fun y1=>cond (y1) (k false) (again (.l0 v0 v4 v5 v6))) (again (.l0 v0 v4 v5 v6))) none) none) none) none) none) none) none) none) (again (.l1 v0 v1 (IntKind.wrap .i64 (IntKind.wrap .i64 (v2+1)-1)) (IntKind.wrap .i64 (v3+1)) v4 v5 v6))) (cond (B.eq (IntKind.wrap .i64 (v2+1)) 0) (cond (B.inb v1 (List.length v0+1)) (cond (B.lim (List.length (List.drop 0 (List.take v1.toNat v0))+1) 1) (cond (B.inb v3 (List.length v0+1)) (cond (bif B.le 0 (IntKind.wrap .i64 (v1+1)) then B.le (IntKind.wrap .i64 (v1+1)) v3 else false) (cond (B.lim (List.length (List.drop 0 (List.take v1.toNat v0)++([32]:LB))+List.length (List.drop (Int.toNat (IntKind.wrap .i64 (v1+1))) (List.take v3.toNat v0))) 1) (cond (B.lim (List.length (List.drop 0 (List.take v1.toNat v0)++([32]:LB)++List.drop (Int.toNat (IntKind.wrap .i64 (v1+1))) (List.take v3.toNat v0))+1) 1) (cond (B.inb (IntKind.wrap .i64 (v3+1)) (List.length v0+1)) (cond (B.lim (List.length (List.drop 0 (List.take v1.toNat v0)++([32]:LB)++List.drop (Int.toNat (IntKind.wrap .i64 (v1+1))) (List.take v3.toNat v0)++([32]:LB))+List.length (List.drop (Int.toNat (IntKind.wrap .i64 (v3+1))) (List.take v0.length v0))) 1) (ob (c17 (List.drop 0 (List.take v1.toNat v0)++([32]:LB)++List.drop (Int.toNat (IntKind.wrap .i64 (v1+1))) (List.take v3.toNat v0)++([32]:LB)++List.drop (Int.toNat (IntKind.wrap .i64 (v3+1))) (List.take v0.length v0))) fun y0=>cond (B.eq y0.1 0) (ob (c27 v4 y0.2.2) fun y1=>cond (y1) (k false) (again (.l0 v0 v4 v5 v6))) (again (.l0 v0 v4 v5 v6))) none) none) none) none) none) none) none) none) (again (.l1 v0 v1 (IntKind.wrap .i64 (v2+1)) (IntKind.wrap .i64 (v3+1)) v4 v5 v6)))) none) (cond (B.inb v3 v0.length) (cond (B.eq (Nat.cast (UInt8.toNat (v0.getD v3.toNat 0))) 41) (cond (B.eq (IntKind.wrap .i64 (v2-1)) 0) (cond (B.inb v1 (List.length v0+1)) (cond (B.lim (List.length (List.drop 0 (List.take v1.toNat v0))+1) 1) (cond (B.inb v3 (List.length v0+1)) (cond (bif B.le 0 (IntKind.wrap .i64 (v1+1)) then B.le (IntKind.wrap .i64 (v1+1)) v3 else false) (cond (B.lim (List.length (List.drop 0 (List.take v1.toNat v0)++([32]:LB))+List.length (List.drop (Int.toNat (IntKind.wrap .i64 (v1+1))) (List.take v3.toNat v0))) 1) (cond (B.lim (List.length (List.drop 0 (List.take v1.toNat v0)++([32]:LB)++List.drop (Int.toNat (IntKind.wrap .i64 (v1+1))) (List.take v3.toNat v0))+1) 1) (cond (B.inb (IntKind.wrap .i64 (v3+1)) (List.length v0+1)) (cond (B.lim (List.length (List.drop 0 (List.take v1.toNat v0)++([32]:LB)++List.drop (Int.toNat (IntKind.wrap .i64 (v1+1))) (List.take v3.toNat v0)++([32]:LB))+List.length (List.drop (Int.toNat (IntKind.wrap .i64 (v3+1))) (List.take v0.length v0))) 1) (ob (c17 (List.drop 0 (List.take v1.toNat v0)++([32]:LB)++List.drop (Int.toNat (IntKind.wrap .i64 (v1+1))) (List.take v3.toNat v0)++([32]:LB)++List.drop (Int.toNat (IntKind.wrap .i64 (v3+1))) (List.take v0.length v0))) fun y0=>cond (B.eq y0.1 0) (ob (c27 v4 y0.2.2) fun y1=>cond (y1) (k false) (again (.l0 v0 v4 v5 v6))) (again (.l0 v0 v4 v5 v6))) none) none) none) none) none) none) none) none) (again (.l1 v0 v1 (IntKind.wrap .i64 (v2-1)) (IntKind.wrap .i64 (v3+1)) v4 v5 v6))) (cond (B.eq v2 0) (cond (B.inb v1 (List.length v0+1)) (cond (B.lim (List.length (List.drop 0 (List.take v1.toNat v0))+1) 1) (cond (B.inb v3 (List.length v0+1)) (cond (bif B.le 0 (IntKind.wrap .i64 (v1+1)) then B.le (IntKind.wrap .i64 (v1+1)) v3 else false) (cond (B.lim (List.length (List.drop 0 (List.take v1.toNat v0)++([32]:LB))+List.length (List.drop (Int.toNat (IntKind.wrap .i64 (v1+1))) (List.take v3.toNat v0))) 1) (cond (B.lim (List.length (List.drop 0 (List.take v1.toNat v0)++([32]:LB)++List.drop (Int.toNat (IntKind.wrap .i64 (v1+1))) (List.take v3.toNat v0))+1) 1) (cond (B.inb (IntKind.wrap .i64 (v3+1)) (List.length v0+1)) (cond (B.lim (List.length (List.drop 0 (List.take v1.toNat v0)++([32]:LB)++List.drop (Int.toNat (IntKind.wrap .i64 (v1+1))) (List.take v3.toNat v0)++([32]:LB))+List.length (List.drop (Int.toNat (IntKind.wrap .i64 (v3+1))) (List.take v0.length v0))) 1) (ob (c17 (List.drop 0 (List.take v1.toNat v0)++([32]:LB)++List.drop (Int.toNat (IntKind.wrap .i64 (v1+1))) (List.take v3.toNat v0)++([32]:LB)++List.drop (Int.toNat (IntKind.wrap .i64 (v3+1))) (List.take v0.length v0))) fun y0=>cond (B.eq y0.1 0) (ob (c27 v4 y0.2.2) fun y1=>cond (y1) (k false) (again (.l0 v0 v4 v5 v6))) (again (.l0 v0 v4 v5 v6))) none) none) none) none) none) none) none) none) (again (.l1 v0 v1 v2 (IntKind.wrap .i64 (v3+1)) v4 v5 v6)))) none)) none) (again (.l0 v0 v4 v5 v6))
def E4 (p0 p1:L3):S4→List AV×Objs
 | .l0 v0 v1 v2 v3=>(mk 116 [(5,.c (.own 5)),(8,.c (.str v0)),(59,.c (.own 59))],[(5,.row 56 ty56 v1),(59,.it v2 v3)])
 | .l1 v0 v1 v2 v3 v4 v5 v6=>(mk 116 [(5,.c (.own 5)),(8,.c (.str v0)),(12,.c (.int .i64 v1)),(13,.c (.int .i64 v2)),(14,.c (.int .i64 v3)),(59,.c (.own 59))],[(5,.row 56 ty56 v4),(59,.it v5 v6)])
def I4:S4→Nat
 | .l0 _ _ _ _=>0
 | .l1 _ _ _ _ _ _ _=>1
noncomputable abbrev A4 {R:Type} (B:Ops) (c14:C14) (c16:C16) (c15:C15) (c17:C17) (c20:C20) (c27:C27) (p0 p1:L3) (k:AV→Objs→Option R) (s:S4) (n:Nat):Option R:=aloop tau B gl0 X4 (ent 14 (e14 c14) (ent 16 (e16 c16) (ent 15 (e15 c15) (ent 17 (e17 c17) (ent 20 (e20 c20) (ent 27 (e27 c27) gnil)))))) ow [] Tryd.f4 k (I4 s) (E4 p0 p1 s) n
theorem eq4 {R:Type} (B:Ops) (c14:C14) (c16:C16) (c15:C15) (c17:C17) (c20:C20) (c27:C27) (p0 p1:L3) (k:AV→Objs→Option R) (n:Nat):afun tau B gl0 X4 (ent 14 (e14 c14) (ent 16 (e16 c16) (ent 15 (e15 c15) (ent 17 (e17 c17) (ent 20 (e20 c20) (ent 27 (e27 c27) gnil)))))) ow Tryd.f4 [.c (.list 3 ty3 p0),.c (.list 3 ty3 p1)] [] k n=T4 B c14 c16 c15 c17 c20 c27 p0 p1 (fun s=>A4 B c14 c16 c15 c17 c20 c27 p0 p1 k s n) (K2 k) none:=by kernel_rfl
theorem el4 {R:Type} (B:Ops) (c14:C14) (c16:C16) (c15:C15) (c17:C17) (c20:C20) (c27:C27) (p0 p1:L3) (k:AV→Objs→Option R) (n:Nat):∀ s,A4 B c14 c16 c15 c17 c20 c27 p0 p1 k s (n+1)=T4 B c14 c16 c15 c17 c20 c27 p0 p1 (fun s=>A4 B c14 c16 c15 c17 c20 c27 p0 p1 k s n) (K2 k) (some s):=by
 intro s
 cases s<;>kernel_rfl
theorem nt4 {R R':Type} (B:Ops) (c14:C14) (c16:C16) (c15:C15) (c17:C17) (c20:C20) (c27:C27) (p0 p1:L3) (again:S4→Option R) (again':S4→Option R') (k0:(Bool)→Option R') (k:R'→Option R) (h:∀ s,again s=ob (again' s) k):∀ s,T4 B c14 c16 c15 c17 c20 c27 p0 p1 again (fun y=>ob (k0 y) k) s=ob (T4 B c14 c16 c15 c17 c20 c27 p0 p1 again' k0 s) k:=by
 rintro (_ | x)
 all_goals try cases x
 all_goals (unfold T4;repeat' first | exact rfl | exact h _ | apply qac | (apply qal;intro))
def R4 (c14:C14) (c16:C16) (c15:C15) (c17:C17) (c20:C20) (c27:C27) (p0 p1:L3):Nat→S4→Option (Bool)
 | 0,_=>none
 | n+1,s=>T4 Ops.std c14 c16 c15 c17 c20 c27 p0 p1 (R4 c14 c16 c15 c17 c20 c27 p0 p1 n) some (some s)
theorem rr4 {R:Type} (c14:C14) (c16:C16) (c15:C15) (c17:C17) (c20:C20) (c27:C27) (p0 p1:L3) (k:AV→Objs→Option R):∀ (n:Nat) (s:S4),A4 Ops.std c14 c16 c15 c17 c20 c27 p0 p1 k s n=ob (R4 c14 c16 c15 c17 c20 c27 p0 p1 n s) (K2 k)
 | 0,s=>by cases s<;>rfl
 | n+1,s=>by rw [el4];exact nt4 Ops.std c14 c16 c15 c17 c20 c27 p0 p1 _ _ some (K2 k) (rr4 c14 c16 c15 c17 c20 c27 p0 p1 k n) (some s)
def F4 (c14:C14) (c16:C16) (c15:C15) (c17:C17) (c20:C20) (c27:C27) (p0 p1:L3):Option (Bool):=T4 Ops.std c14 c16 c15 c17 c20 c27 p0 p1 (R4 c14 c16 c15 c17 c20 c27 p0 p1 1000000) some none
abbrev C4:Type:=L3→L3→Option (Bool)
def e4 {R:Type} (c:C4):Ent R:=eG [.aC (.cL 3 ty3),.aC (.cL 3 ty3)] [] fun v k=>ob (c v.1 v.2.1) (K2 k)
abbrev Sp4 (c:C4):Prop:=∀ (p0 p1:L3) (y:Bool),c p0 p1=some y→Spec Tryd.prog gl0 4 [.c (.list 3 ty3 p0),.c (.list 3 ty3 p1)] [] (.c (.bool y)) []
theorem sf4 {c14:C14} {c16:C16} {c15:C15} {c17:C17} {c20:C20} {c27:C27} (h14:Sp14 c14) (h16:Sp16 c16) (h15:Sp15 c15) (h17:Sp17 c17) (h20:Sp20 c20) (h27:Sp27 c27):Sp4 (F4 c14 c16 c15 c17 c20 c27):=fun p0 p1 y hy=>by
 refine qah (qad (ek14 h14) (qad (ek16 h16) (qad (ek15 h15) (qad (ek17 h17) (qad (ek20 h20) (qad (ek27 h27) qag)))))) 1000000 (fn:=Tryd.f4) (by kernel_rfl) (by kernel_rfl) (X:=X4) (by kernel_rfl) ?_
 rw [eq4]
 exact (nt4 Ops.std c14 c16 c15 c17 c20 c27 p0 p1 _ _ some (K2 k0) (rr4 c14 c16 c15 c17 c20 c27 p0 p1 k0 1000000) none).trans (by show ob (F4 c14 c16 c15 c17 c20 c27 p0 p1) _=_;rw [hy];rfl)
noncomputable def M4:C4:=F4 M14 M16 M15 M17 M20 M27
theorem sm4:Sp4 M4:=sf4 sm14 sm16 sm15 sm17 sm20 sm27
end Go.Proofs.YtkmpkebaloejhaaDoor.Av
