/- Twins of functions,printed by gen.py. Conditions: none. -/
import Derived.Test.YtkmpkebaloejhaaDoorEl1
import Derived.KernelRfl
set_option linter.unusedSimpArgs false
set_option linter.unusedVariables false
set_option maxRecDepth 100000
set_option maxHeartbeats 8000000
namespace Go.Proofs.YtkmpkebaloejhaaDoor.Av
open Go
def X16:Aux:=⟨[],[]⟩
def T16 {R:Type} (B:Ops) (c49:C49) (p0:L3) (k:(LB)→Option R):Option R:=ob (c49 0 p0 0) fun y0=>k y0.1
theorem eq16 {R:Type} (B:Ops) (c49:C49) (p0:L3) (k:AV→Objs→Option R) (n:Nat):afun tau B gl0 X16 (ent 49 (e49 c49) gnil) ow Tryd.f16 [.c (.list 3 ty3 p0)] [] k n=T16 B c49 p0 (K3 k):=by kernel_rfl
theorem nt16 {R R':Type} (B:Ops) (c49:C49) (p0:L3) (k0:(LB)→Option R') (k:R'→Option R):T16 B c49 p0 (fun y=>ob (k0 y) k)=ob (T16 B c49 p0 k0) k:=by
 unfold T16
 repeat' first | exact rfl | apply qac | (apply qak;intro)
def F16 (c49:C49) (p0:L3):Option (LB):=T16 Ops.std c49 p0 some
abbrev C16:Type:=L3→Option (LB)
def e16 {R:Type} (c:C16):Ent R:=eG [.aC (.cL 3 ty3)] [] fun v k=>ob (c v.1) (K3 k)
abbrev Sp16 (c:C16):Prop:=∀ (p0:L3) (y:LB),c p0=some y→Spec Tryd.prog gl0 16 [.c (.list 3 ty3 p0)] [] (.c (.str y)) []
theorem ek16 {R:Type} {c:C16} (hs:Sp16 c):EOk 16 (e16 (R:=R) c):=qaq fun v=>hs v.1
theorem sf16 {c49:C49} (h49:Sp49 c49):Sp16 (F16 c49):=fun p0 y hy=>by
 refine qag (qad (ek49 h49) qaf) 1000000 (fn:=Tryd.f16) (by kernel_rfl) (by kernel_rfl) (X:=X16) (by kernel_rfl) ?_
 rw [eq16]
 exact (nt16 Ops.std c49 p0 some (K3 k0)).trans (by show ob (F16 c49 p0) _=_;rw [hy];rfl)
noncomputable def M16:C16:=F16 M49
theorem sm16:Sp16 M16:=sf16 sm49
def X65:Aux:=⟨[(4,(rg 2 10++rg 14 12))],[(6,.lin [0,1,2,3,4,5,6,7,8])]⟩
inductive S65 where
 | l0 (v2 v3:Int)
def T65 {R:Type} (B:Ops) (p0 p1:L56) (again:S65→Option R) (k:(Bool)→Option R):Option S65→Option R | none=>cond (!B.eq (↑p0.length) (↑p1.length)) (k false) (again (.l0 (↑p0.length) 0)) | some (.l0 v2 v3)=>cond (B.lt v3 v2) (cond (B.inb v3 p0.length) (cond (B.inb v3 p1.length) (cond (!(B.eq (p0.getD v3.toNat ty56.dflt).1 (p1.getD v3.toNat ty56.dflt).1 && (B.eq ((p0.getD v3.toNat ty56.dflt).2).1 ((p1.getD v3.toNat ty56.dflt).2).1 && ((((p0.getD v3.toNat ty56.dflt).2).2).1 == (((p1.getD v3.toNat ty56.dflt).2).2).1 && ((((p0.getD v3.toNat ty56.dflt).2).2).2 == (((p1.getD v3.toNat ty56.dflt).2).2).2 && true))))) (k false) (again (.l0 v2 (IntKind.wrap .i64 (v3+1))))) none) none) (k true)
def E65 (p0 p1:L56):S65→List AV×Objs
 | .l0 v2 v3=>(mk 26 [(0,.c (.list 56 ty56 p0)),(1,.c (.list 56 ty56 p1)),(12,.c (.int .i64 v2)),(13,.c (.int .i64 v3))],[])
def I65:S65→Nat
 | .l0 _ _=>0
noncomputable abbrev A65 {R:Type} (B:Ops) (p0 p1:L56) (k:AV→Objs→Option R) (s:S65) (n:Nat):Option R:=aloop tau B gl0 X65 gnil ow [] Tryd.f65 k (I65 s) (E65 p0 p1 s) n
theorem eq65 {R:Type} (B:Ops) (p0 p1:L56) (k:AV→Objs→Option R) (n:Nat):afun tau B gl0 X65 gnil ow Tryd.f65 [.c (.list 56 ty56 p0),.c (.list 56 ty56 p1)] [] k n=T65 B p0 p1 (fun s=>A65 B p0 p1 k s n) (K2 k) none:=by kernel_rfl
theorem el65 {R:Type} (B:Ops) (p0 p1:L56) (k:AV→Objs→Option R) (n:Nat):∀ s,A65 B p0 p1 k s (n+1)=T65 B p0 p1 (fun s=>A65 B p0 p1 k s n) (K2 k) (some s):=by
 intro s
 cases s<;>kernel_rfl
theorem nt65 {R R':Type} (B:Ops) (p0 p1:L56) (again:S65→Option R) (again':S65→Option R') (k0:(Bool)→Option R') (k:R'→Option R) (h:∀ s,again s=ob (again' s) k):∀ s,T65 B p0 p1 again (fun y=>ob (k0 y) k) s=ob (T65 B p0 p1 again' k0 s) k:=by
 rintro (_ | x)
 all_goals try cases x
 all_goals (unfold T65;repeat' first | exact rfl | exact h _ | apply qac | (apply qak;intro))
def R65 (p0 p1:L56):Nat→S65→Option (Bool)
 | 0,_=>none
 | n+1,s=>T65 Ops.std p0 p1 (R65 p0 p1 n) some (some s)
theorem rr65 {R:Type} (p0 p1:L56) (k:AV→Objs→Option R):∀ (n:Nat) (s:S65),A65 Ops.std p0 p1 k s n=ob (R65 p0 p1 n s) (K2 k)
 | 0,s=>by cases s<;>rfl
 | n+1,s=>by rw [el65];exact nt65 Ops.std p0 p1 _ _ some (K2 k) (rr65 p0 p1 k n) (some s)
def F65 (p0 p1:L56):Option (Bool):=T65 Ops.std p0 p1 (R65 p0 p1 1000000) some none
abbrev C65:Type:=L56→L56→Option (Bool)
def e65 {R:Type} (c:C65):Ent R:=eG [.aC (.cL 56 ty56),.aC (.cL 56 ty56)] [] fun v k=>ob (c v.1 v.2.1) (K2 k)
abbrev Sp65 (c:C65):Prop:=∀ (p0 p1:L56) (y:Bool),c p0 p1=some y→Spec Tryd.prog gl0 65 [.c (.list 56 ty56 p0),.c (.list 56 ty56 p1)] [] (.c (.bool y)) []
theorem ek65 {R:Type} {c:C65} (hs:Sp65 c):EOk 65 (e65 (R:=R) c):=qaq fun v=>hs v.1 v.2.1
theorem sf65:Sp65 (F65):=fun p0 p1 y hy=>by
 refine qag qaf 1000000 (fn:=Tryd.f65) (by kernel_rfl) (by kernel_rfl) (X:=X65) (by kernel_rfl) ?_
 rw [eq65]
 exact (nt65 Ops.std p0 p1 _ _ some (K2 k0) (rr65 p0 p1 k0 1000000) none).trans (by show ob (F65 p0 p1) _=_;rw [hy];rfl)
noncomputable def M65:C65:=F65
theorem sm65:Sp65 M65:=sf65
def X27:Aux:=⟨[],[]⟩
def T27 {R:Type} (B:Ops) (c65:C65) (p0 p1:L56) (k:(Bool)→Option R):Option R:=ob (c65 p0 p1) fun y0=>k y0
theorem eq27 {R:Type} (B:Ops) (c65:C65) (p0 p1:L56) (k:AV→Objs→Option R) (n:Nat):afun tau B gl0 X27 (ent 65 (e65 c65) gnil) ow Tryd.f27 [.c (.list 56 ty56 p0),.c (.list 56 ty56 p1)] [] k n=T27 B c65 p0 p1 (K2 k):=by kernel_rfl
theorem nt27 {R R':Type} (B:Ops) (c65:C65) (p0 p1:L56) (k0:(Bool)→Option R') (k:R'→Option R):T27 B c65 p0 p1 (fun y=>ob (k0 y) k)=ob (T27 B c65 p0 p1 k0) k:=by
 unfold T27
 repeat' first | exact rfl | apply qac | (apply qak;intro)
def F27 (c65:C65) (p0 p1:L56):Option (Bool):=T27 Ops.std c65 p0 p1 some
abbrev C27:Type:=L56→L56→Option (Bool)
def e27 {R:Type} (c:C27):Ent R:=eG [.aC (.cL 56 ty56),.aC (.cL 56 ty56)] [] fun v k=>ob (c v.1 v.2.1) (K2 k)
abbrev Sp27 (c:C27):Prop:=∀ (p0 p1:L56) (y:Bool),c p0 p1=some y→Spec Tryd.prog gl0 27 [.c (.list 56 ty56 p0),.c (.list 56 ty56 p1)] [] (.c (.bool y)) []
theorem ek27 {R:Type} {c:C27} (hs:Sp27 c):EOk 27 (e27 (R:=R) c):=qaq fun v=>hs v.1 v.2.1
theorem sf27 {c65:C65} (h65:Sp65 c65):Sp27 (F27 c65):=fun p0 p1 y hy=>by
 refine qag (qad (ek65 h65) qaf) 1000000 (fn:=Tryd.f27) (by kernel_rfl) (by kernel_rfl) (X:=X27) (by kernel_rfl) ?_
 rw [eq27]
 exact (nt27 Ops.std c65 p0 p1 some (K2 k0)).trans (by show ob (F27 c65 p0 p1) _=_;rw [hy];rfl)
noncomputable def M27:C27:=F27 M65
theorem sm27:Sp27 M27:=sf27 sm65
def X5:Aux:=⟨[(9,([0,2,3,4,6,7]++rg 10 28++rg 39 76))],[]⟩
inductive S5 where
 | l0 (v1 v2:LB) (v3:L56) (v4:LB) (v5:Nat)
def T5 {R:Type} (B:Ops) (c14:C14) (c16:C16) (c17:C17) (c20:C20) (c24:C24) (c27:C27) (p0 p1:L3) (again:S5→Option R) (k:(Bool)→Option R):Option S5→Option R | none=>ob (c14) fun y0=>cond (!y0) (k false) (ob (c16 p0) fun y1=>ob (c17 y1) fun y2=>ob (c14) fun y3=>cond (!y3) (ob (c14) fun y4=>k y4) (cond (!B.eq y2.1 0) (ob (c14) fun y4=>k y4) (ob (c20 y2.2.2) fun y4=>again (.l0 y4 (mt UInt8) y2.2.2 y4 0)))) | some (.l0 v1 v2 v3 v4 v5)=>cond (B.lt (Nat.cast v5) (↑v4.length)) (cond (B.lt (Nat.cast (UInt8.toNat (v4.getD v5 0))) 128) (cond (B.inb (IntKind.wrap .i64 (Nat.cast v5+1)) (List.length v1+1)) (cond (bif B.le 0 (Nat.cast v5) then B.le (Nat.cast v5) (IntKind.wrap .i64 (Nat.cast v5+1)) else false) (cond (B.lt (Nat.cast v5) (↑p1.length)) (cond (List.drop (Int.toNat (Nat.cast v5)) (List.take (Int.toNat (IntKind.wrap .i64 (Nat.cast v5+1))) v1) == ([40]:LB)) (cond (B.inb (Nat.cast v5) p1.length) (ob (c24 (p1.getD (Int.toNat (Nat.cast v5)) ty3.dflt) 4) fun y0=>cond (B.inb y0 4) (cond (B.lim (List.length v2+List.length (List.getD (mt UInt8::([32]:LB)::([9]:LB)::([32,10]:LB)::mt LB) y0.toNat (mt UInt8))) 1) (cond (B.lim (List.length (v2++List.getD (mt UInt8::([32]:LB)::([9]:LB)::([32,10]:LB)::mt LB) y0.toNat (mt UInt8))+List.length (List.drop (Int.toNat (Nat.cast v5)) (List.take (Int.toNat (IntKind.wrap .i64 (Nat.cast v5+1))) v1))) 1) (cond (B.lim (List.length (v2++List.getD (mt UInt8::([32]:LB)::([9]:LB)::([32,10]:LB)::mt LB) y0.toNat (mt UInt8)++List.drop (Int.toNat (Nat.cast v5)) (List.take (Int.toNat (IntKind.wrap .i64 (Nat.cast v5+1))) v1))+List.length (List.getD (mt UInt8::([32]:LB)::([9]:LB)::([32,10]:LB)::mt LB) y0.toNat (mt UInt8))) 1) (again (.l0 v1 (v2++List.getD (mt UInt8::([32]:LB)::([9]:LB)::([32,10]:LB)::mt LB) y0.toNat (mt UInt8)++List.drop (Int.toNat (Nat.cast v5)) (List.take (Int.toNat (IntKind.wrap .i64 (Nat.cast v5+1))) v1)++List.getD (mt UInt8::([32]:LB)::([9]:LB)::([32,10]:LB)::mt LB) y0.toNat (mt UInt8)) v3 v4 (v5+1))) none) none) none) none) none) (cond (List.drop (Int.toNat (Nat.cast v5)) (List.take (Int.toNat (IntKind.wrap .i64 (Nat.cast v5+1))) v1) == ([41]:LB)) (cond (B.inb (Nat.cast v5) p1.length) (ob (c24 (p1.getD (Int.toNat (Nat.cast v5)) ty3.dflt) 4) fun y0=>cond (B.inb y0 4) (cond (B.lim (List.length v2+List.length (List.getD (mt UInt8::([32]:LB)::([9]:LB)::([32,10]:LB)::mt LB) y0.toNat (mt UInt8))) 1) (cond (B.lim (List.length (v2++List.getD (mt UInt8::([32]:LB)::([9]:LB)::([32,10]:LB)::mt LB) y0.toNat (mt UInt8))+List.length (List.drop (Int.toNat (Nat.cast v5)) (List.take (Int.toNat (IntKind.wrap .i64 (Nat.cast v5+1))) v1))) 1) (cond (B.lim (List.length (v2++List.getD (mt UInt8::([32]:LB)::([9]:LB)::([32,10]:LB)::mt LB) y0.toNat (mt UInt8)++List.drop (Int.toNat (Nat.cast v5)) (List.take (Int.toNat (IntKind.wrap .i64 (Nat.cast v5+1))) v1))+List.length (List.getD (mt UInt8::([32]:LB)::([9]:LB)::([32,10]:LB)::mt LB) y0.toNat (mt UInt8))) 1) (again (.l0 v1 (v2++List.getD (mt UInt8::([32]:LB)::([9]:LB)::([32,10]:LB)::mt LB) y0.toNat (mt UInt8)++List.drop (Int.toNat (Nat.cast v5)) (List.take (Int.toNat (IntKind.wrap .i64 (Nat.cast v5+1))) v1)++List.getD (mt UInt8::([32]:LB)::([9]:LB)::([32,10]:LB)::mt LB) y0.toNat (mt UInt8)) v3 v4 (v5+1))) none) none) none) none) none) (cond (List.drop (Int.toNat (Nat.cast v5)) (List.take (Int.toNat (IntKind.wrap .i64 (Nat.cast v5+1))) v1) == ([43]:LB)) (cond (B.inb (Nat.cast v5) p1.length) (ob (c24 (p1.getD (Int.toNat (Nat.cast v5)) ty3.dflt) 4) fun y0=>cond (B.inb y0 4) (cond (B.lim (List.length v2+List.length (List.getD (mt UInt8::([32]:LB)::([9]:LB)::([32,10]:LB)::mt LB) y0.toNat (mt UInt8))) 1) (cond (B.lim (List.length (v2++List.getD (mt UInt8::([32]:LB)::([9]:LB)::([32,10]:LB)::mt LB) y0.toNat (mt UInt8))+List.length (List.drop (Int.toNat (Nat.cast v5)) (List.take (Int.toNat (IntKind.wrap .i64 (Nat.cast v5+1))) v1))) 1) (cond (B.lim (List.length (v2++List.getD (mt UInt8::([32]:LB)::([9]:LB)::([32,10]:LB)::mt LB) y0.toNat (mt UInt8)++List.drop (Int.toNat (Nat.cast v5)) (List.take (Int.toNat (IntKind.wrap .i64 (Nat.cast v5+1))) v1))+List.length (List.getD (mt UInt8::([32]:LB)::([9]:LB)::([32,10]:LB)::mt LB) y0.toNat (mt UInt8))) 1) (again (.l0 v1 (v2++List.getD (mt UInt8::([32]:LB)::([9]:LB)::([32,10]:LB)::mt LB) y0.toNat (mt UInt8)++List.drop (Int.toNat (Nat.cast v5)) (List.take (Int.toNat (IntKind.wrap .i64 (Nat.cast v5+1))) v1)++List.getD (mt UInt8::([32]:LB)::([9]:LB)::([32,10]:LB)::mt LB) y0.toNat (mt UInt8)) v3 v4 (v5+1))) none) none) none) none) none) (cond (List.drop (Int.toNat (Nat.cast v5)) (List.take (Int.toNat (IntKind.wrap .i64 (Nat.cast v5+1))) v1) == ([42]:LB)) (cond (B.inb (Nat.cast v5) p1.length) (ob (c24 (p1.getD (Int.toNat (Nat.cast v5)) ty3.dflt) 4) fun y0=>cond (B.inb y0 4) (cond (B.lim (List.length v2+List.length (List.getD (mt UInt8::([32]:LB)::([9]:LB)::([32,10]:LB)::mt LB) y0.toNat (mt UInt8))) 1) (cond (B.lim (List.length (v2++List.getD (mt UInt8::([32]:LB)::([9]:LB)::([32,10]:LB)::mt LB) y0.toNat (mt UInt8))+List.length (List.drop (Int.toNat (Nat.cast v5)) (List.take (Int.toNat (IntKind.wrap .i64 (Nat.cast v5+1))) v1))) 1) (cond (B.lim (List.length (v2++List.getD (mt UInt8::([32]:LB)::([9]:LB)::([32,10]:LB)::mt LB) y0.toNat (mt UInt8)++List.drop (Int.toNat (Nat.cast v5)) (List.take (Int.toNat (IntKind.wrap .i64 (Nat.cast v5+1))) v1))+List.length (List.getD (mt UInt8::([32]:LB)::([9]:LB)::([32,10]:LB)::mt LB) y0.toNat (mt UInt8))) 1) (again (.l0 v1 (v2++List.getD (mt UInt8::([32]:LB)::([9]:LB)::([32,10]:LB)::mt LB) y0.toNat (mt UInt8)++List.drop (Int.toNat (Nat.cast v5)) (List.take (Int.toNat (IntKind.wrap .i64 (Nat.cast v5+1))) v1)++List.getD (mt UInt8::([32]:LB)::([9]:LB)::([32,10]:LB)::mt LB) y0.toNat (mt UInt8)) v3 v4 (v5+1))) none) none) none) none) none) (cond (List.drop (Int.toNat (Nat.cast v5)) (List.take (Int.toNat (IntKind.wrap .i64 (Nat.cast v5+1))) v1) == ([64]:LB)) (cond (B.inb (Nat.cast v5) p1.length) (ob (c24 (p1.getD (Int.toNat (Nat.cast v5)) ty3.dflt) 4) fun y0=>cond (B.inb y0 4) (cond (B.lim (List.length v2+List.length (List.getD (mt UInt8::([32]:LB)::([9]:LB)::([32,10]:LB)::mt LB) y0.toNat (mt UInt8))) 1) (cond (B.lim (List.length (v2++List.getD (mt UInt8::([32]:LB)::([9]:LB)::([32,10]:LB)::mt LB) y0.toNat (mt UInt8))+List.length (List.drop (Int.toNat (Nat.cast v5)) (List.take (Int.toNat (IntKind.wrap .i64 (Nat.cast v5+1))) v1))) 1) (cond (B.lim (List.length (v2++List.getD (mt UInt8::([32]:LB)::([9]:LB)::([32,10]:LB)::mt LB) y0.toNat (mt UInt8)++List.drop (Int.toNat (Nat.cast v5)) (List.take (Int.toNat (IntKind.wrap .i64 (Nat.cast v5+1))) v1))+List.length (List.getD (mt UInt8::([32]:LB)::([9]:LB)::([32,10]:LB)::mt LB) y0.toNat (mt UInt8))) 1) (again (.l0 v1 (v2++List.getD (mt UInt8::([32]:LB)::([9]:LB)::([32,10]:LB)::mt LB) y0.toNat (mt UInt8)++List.drop (Int.toNat (Nat.cast v5)) (List.take (Int.toNat (IntKind.wrap .i64 (Nat.cast v5+1))) v1)++List.getD (mt UInt8::([32]:LB)::([9]:LB)::([32,10]:LB)::mt LB) y0.toNat (mt UInt8)) v3 v4 (v5+1))) none) none) none) none) none) (cond (B.lim (List.length v2+List.length (mt UInt8)) 1) (cond (B.lim (List.length (v2++mt UInt8)+List.length (List.drop (Int.toNat (Nat.cast v5)) (List.take (Int.toNat (IntKind.wrap .i64 (Nat.cast v5+1))) v1))) 1) (cond (B.lim (List.length (v2++mt UInt8++List.drop (Int.toNat (Nat.cast v5)) (List.take (Int.toNat (IntKind.wrap .i64 (Nat.cast v5+1))) v1))+List.length (mt UInt8)) 1) (again (.l0 v1 (v2++mt UInt8++List.drop (Int.toNat (Nat.cast v5)) (List.take (Int.toNat (IntKind.wrap .i64 (Nat.cast v5+1))) v1)++mt UInt8) v3 v4 (v5+1))) none) none) none)))))) (cond (B.lim (List.length v2+List.length (mt UInt8)) 1) (cond (B.lim (List.length (v2++mt UInt8)+List.length (List.drop (Int.toNat (Nat.cast v5)) (List.take (Int.toNat (IntKind.wrap .i64 (Nat.cast v5+1))) v1))) 1) (cond (B.lim (List.length (v2++mt UInt8++List.drop (Int.toNat (Nat.cast v5)) (List.take (Int.toNat (IntKind.wrap .i64 (Nat.cast v5+1))) v1))+List.length (mt UInt8)) 1) (again (.l0 v1 (v2++mt UInt8++List.drop (Int.toNat (Nat.cast v5)) (List.take (Int.toNat (IntKind.wrap .i64 (Nat.cast v5+1))) v1)++mt UInt8) v3 v4 (v5+1))) none) none) none)) none) none) none) (ob (c17 v2) fun y0=>cond (B.lim (2+List.length v1) 1) (cond (B.lim (List.length (([40,40]:LB)++v1)+2) 1) (ob (c17 (([40,40]:LB)++v1++([41,41]:LB))) fun y1=>cond (B.eq y0.1 0) (cond (B.eq y1.1 0) (ob (c27 v3 y0.2.2) fun y2=>cond (y2) (ob (c27 v3 y1.2.2) fun y3=>k y3) (k false)) (k false)) (k false)) none) none)
def E5 (p0 p1:L3):S5→List AV×Objs
 | .l0 v1 v2 v3 v4 v5=>(mk 115 [(1,.c (.list 3 ty3 p1)),(5,.c (.own 5)),(8,.c (.str v1)),(9,.c (.str v2)),(38,.c (.own 38))],[(5,.row 56 ty56 v3),(38,.it v4 v5)])
def I5:S5→Nat
 | .l0 _ _ _ _ _=>0
noncomputable abbrev A5 {R:Type} (B:Ops) (c14:C14) (c16:C16) (c17:C17) (c20:C20) (c24:C24) (c27:C27) (p0 p1:L3) (k:AV→Objs→Option R) (s:S5) (n:Nat):Option R:=aloop tau B gl0 X5 (ent 14 (e14 c14) (ent 16 (e16 c16) (ent 17 (e17 c17) (ent 20 (e20 c20) (ent 24 (e24 c24) (ent 27 (e27 c27) gnil)))))) ow [] Tryd.f5 k (I5 s) (E5 p0 p1 s) n
theorem eq5 {R:Type} (B:Ops) (c14:C14) (c16:C16) (c17:C17) (c20:C20) (c24:C24) (c27:C27) (p0 p1:L3) (k:AV→Objs→Option R) (n:Nat):afun tau B gl0 X5 (ent 14 (e14 c14) (ent 16 (e16 c16) (ent 17 (e17 c17) (ent 20 (e20 c20) (ent 24 (e24 c24) (ent 27 (e27 c27) gnil)))))) ow Tryd.f5 [.c (.list 3 ty3 p0),.c (.list 3 ty3 p1)] [] k n=T5 B c14 c16 c17 c20 c24 c27 p0 p1 (fun s=>A5 B c14 c16 c17 c20 c24 c27 p0 p1 k s n) (K2 k) none:=by kernel_rfl
theorem el5 {R:Type} (B:Ops) (c14:C14) (c16:C16) (c17:C17) (c20:C20) (c24:C24) (c27:C27) (p0 p1:L3) (k:AV→Objs→Option R) (n:Nat):∀ s,A5 B c14 c16 c17 c20 c24 c27 p0 p1 k s (n+1)=T5 B c14 c16 c17 c20 c24 c27 p0 p1 (fun s=>A5 B c14 c16 c17 c20 c24 c27 p0 p1 k s n) (K2 k) (some s):=by
 intro s
 cases s<;>kernel_rfl
theorem nt5 {R R':Type} (B:Ops) (c14:C14) (c16:C16) (c17:C17) (c20:C20) (c24:C24) (c27:C27) (p0 p1:L3) (again:S5→Option R) (again':S5→Option R') (k0:(Bool)→Option R') (k:R'→Option R) (h:∀ s,again s=ob (again' s) k):∀ s,T5 B c14 c16 c17 c20 c24 c27 p0 p1 again (fun y=>ob (k0 y) k) s=ob (T5 B c14 c16 c17 c20 c24 c27 p0 p1 again' k0 s) k:=by
 rintro (_ | x)
 all_goals try cases x
 all_goals (unfold T5;repeat' first | exact rfl | exact h _ | apply qac | (apply qak;intro))
def R5 (c14:C14) (c16:C16) (c17:C17) (c20:C20) (c24:C24) (c27:C27) (p0 p1:L3):Nat→S5→Option (Bool)
 | 0,_=>none
 | n+1,s=>T5 Ops.std c14 c16 c17 c20 c24 c27 p0 p1 (R5 c14 c16 c17 c20 c24 c27 p0 p1 n) some (some s)
theorem rr5 {R:Type} (c14:C14) (c16:C16) (c17:C17) (c20:C20) (c24:C24) (c27:C27) (p0 p1:L3) (k:AV→Objs→Option R):∀ (n:Nat) (s:S5),A5 Ops.std c14 c16 c17 c20 c24 c27 p0 p1 k s n=ob (R5 c14 c16 c17 c20 c24 c27 p0 p1 n s) (K2 k)
 | 0,s=>by cases s<;>rfl
 | n+1,s=>by rw [el5];exact nt5 Ops.std c14 c16 c17 c20 c24 c27 p0 p1 _ _ some (K2 k) (rr5 c14 c16 c17 c20 c24 c27 p0 p1 k n) (some s)
def F5 (c14:C14) (c16:C16) (c17:C17) (c20:C20) (c24:C24) (c27:C27) (p0 p1:L3):Option (Bool):=T5 Ops.std c14 c16 c17 c20 c24 c27 p0 p1 (R5 c14 c16 c17 c20 c24 c27 p0 p1 1000000) some none
abbrev C5:Type:=L3→L3→Option (Bool)
def e5 {R:Type} (c:C5):Ent R:=eG [.aC (.cL 3 ty3),.aC (.cL 3 ty3)] [] fun v k=>ob (c v.1 v.2.1) (K2 k)
abbrev Sp5 (c:C5):Prop:=∀ (p0 p1:L3) (y:Bool),c p0 p1=some y→Spec Tryd.prog gl0 5 [.c (.list 3 ty3 p0),.c (.list 3 ty3 p1)] [] (.c (.bool y)) []
theorem sf5 {c14:C14} {c16:C16} {c17:C17} {c20:C20} {c24:C24} {c27:C27} (h14:Sp14 c14) (h16:Sp16 c16) (h17:Sp17 c17) (h20:Sp20 c20) (h24:Sp24 c24) (h27:Sp27 c27):Sp5 (F5 c14 c16 c17 c20 c24 c27):=fun p0 p1 y hy=>by
 refine qag (qad (ek14 h14) (qad (ek16 h16) (qad (ek17 h17) (qad (ek20 h20) (qad (ek24 h24) (qad (ek27 h27) qaf)))))) 1000000 (fn:=Tryd.f5) (by kernel_rfl) (by kernel_rfl) (X:=X5) (by kernel_rfl) ?_
 rw [eq5]
 exact (nt5 Ops.std c14 c16 c17 c20 c24 c27 p0 p1 _ _ some (K2 k0) (rr5 c14 c16 c17 c20 c24 c27 p0 p1 k0 1000000) none).trans (by show ob (F5 c14 c16 c17 c20 c24 c27 p0 p1) _=_;rw [hy];rfl)
noncomputable def M5:C5:=F5 M14 M16 M17 M20 M24 M27
theorem sm5:Sp5 M5:=sf5 sm14 sm16 sm17 sm20 sm24 sm27
end Go.Proofs.YtkmpkebaloejhaaDoor.Av
