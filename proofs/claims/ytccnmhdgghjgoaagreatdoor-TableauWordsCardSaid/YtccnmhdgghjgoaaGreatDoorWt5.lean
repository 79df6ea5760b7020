/- Twins of functions,printed by gen.py. Conditions: none. -/
import Derived.Test.YtccnmhdgghjgoaaGreatDoorWt4
import Derived.KernelRfl
set_option linter.unusedSimpArgs false
set_option linter.unusedVariables false
set_option maxRecDepth 100000
set_option maxHeartbeats 8000000
namespace Go.Proofs.YtccnmhdgghjgoaaGreatDoor.Av
open Go
def X73:Aux:=⟨[],[]⟩
def T73 {R:Type} (B:Ops) (p0:Int) (k:(Int)→Option R):Option R:=cond (B.eq p0 (1)) (k 0) (cond (B.eq p0 (2)) (k 0) (cond (B.eq p0 (3)) (k 0) (cond (B.eq p0 (4)) (k 1) (cond (B.eq p0 (8)) (k 1) (cond (B.eq p0 (11)) (k 1) (cond (B.eq p0 (12)) (k 1) (cond (B.eq p0 (5)) (k 2) (cond (B.eq p0 (6)) (k 2) (cond (B.eq p0 (7)) (k 2) (cond (B.eq p0 (9)) (k 2) (cond (B.eq p0 (10)) (k 2) (k (-1)))))))))))))
theorem eq73 {R:Type} (B:Ops) (p0:Int) (k:AV→Objs→Option R) (n:Nat):afun tau B gl0 X73 gnil ow Tryz.f73 [.c (.int .i64 p0)] [] k n=T73 B p0 (K1 k):=by kernel_rfl
theorem nt73 {R R':Type} (B:Ops) (p0:Int) (k0:(Int)→Option R') (k:R'→Option R):T73 B p0 (fun y=>ob (k0 y) k)=ob (T73 B p0 k0) k:=by
 unfold T73
 repeat' first | exact rfl | apply qaf | (apply qao;intro)
def F73 (p0:Int):Option (Int):=T73 Ops.std p0 some
def e73 {R:Type} (c:Int→Option (Int)):Ent R:=fun args objs k=>
 oI args .i64 fun p0 l0=>oE l0 objs <| ob (c p0) (K1 k)
abbrev Sp73 (c:Int→Option (Int)):Prop:=∀ (p0:Int) (y:Int),c p0=some y→Spec Tryz.prog gl0 73 [.c (.int .i64 p0)] [] (.c (.int .i64 y)) []
theorem ek73 {R:Type} {c:Int→Option (Int)} (hs:Sp73 c):EOk 73 (e73 (R:=R) c):=fun args objs k r h=>by
 unfold e73 at h
 obtain ⟨p0,l0,rfl,q3⟩:=qau h
 obtain ⟨rfl,rfl,q5⟩:=qan q3
 exact qap (hs p0) q5
theorem sf73:Sp73 (F73):=fun p0 y hy=>by
 refine qak qaj 1000000 (fn:=Tryz.f73) (by kernel_rfl) (by kernel_rfl) (X:=X73) (by kernel_rfl) ?_
 rw [eq73]
 exact (nt73 Ops.std p0 some (K1 k0)).trans (by show ob (F73 p0) _=_;rw [hy];rfl)
noncomputable def M73:Int→Option (Int):=F73
theorem sm73:Sp73 M73:=sf73
def X63:Aux:=⟨[(3,([1,2]++rg 5 65))],[]⟩
inductive S63 where
 | l0 (v1:Int) (v2:Int)
abbrev C73:Type:=Int→Option (Int)
def T63 {R:Type} (B:Ops) (c73:C73) (c110:C110) (p0:L66) (again:S63→Option R) (k:(Bool)→Option R):Option S63→Option R | none=>again (.l0 0 0) | some (.l0 v1 v2)=>cond (B.lt v2 (↑p0.length)) (cond (B.inb v2 p0.length) (ob (c73 ((p0.getD v2.toNat ty66.dflt).1)) fun y0=>cond (B.lt y0 (0)) (k false) (cond (B.lt v1 y0) (k false) (cond (B.inb v2 p0.length) (cond (B.eq ((p0.getD v2.toNat ty66.dflt).1) (3)) (cond (B.inb v2 p0.length) (ob (c110 ((p0.getD v2.toNat ty66.dflt).2)) fun y1=>cond (!y1) (k false) (cond (B.inb v2 p0.length) (cond (!B.eq ((p0.getD v2.toNat ty66.dflt).1) (3)) (cond (B.inb v2 p0.length) (cond (B.lt (0) (Nat.cast (List.length ((p0.getD v2.toNat ty66.dflt).2)))) (k false) (again (.l0 (IntKind.wrap .i64 (IntKind.wrap .i64 (v1-y0)+1)) (IntKind.wrap .i64 (v2+1))))) none) (again (.l0 (IntKind.wrap .i64 (IntKind.wrap .i64 (v1-y0)+1)) (IntKind.wrap .i64 (v2+1))))) none)) none) (cond (B.inb v2 p0.length) (cond (!B.eq ((p0.getD v2.toNat ty66.dflt).1) (3)) (cond (B.inb v2 p0.length) (cond (B.lt (0) (Nat.cast (List.length ((p0.getD v2.toNat ty66.dflt).2)))) (k false) (again (.l0 (IntKind.wrap .i64 (IntKind.wrap .i64 (v1-y0)+1)) (IntKind.wrap .i64 (v2+1))))) none) (again (.l0 (IntKind.wrap .i64 (IntKind.wrap .i64 (v1-y0)+1)) (IntKind.wrap .i64 (v2+1))))) none)) none))) none) (cond (B.eq v1 (1)) (k (B.le (↑p0.length) (60))) (k false))
def E63 (p0:L66):S63→List AV×Objs
 | .l0 v1 v2=>(mk 70 [(0,.c (.list 66 ty66 p0)),(3,.c (.int .i64 v1)),(4,.c (.int .i64 v2))],[])
def I63:S63→Nat
 | .l0 _ _=>0
theorem eq63 {R:Type} (B:Ops) (c73:C73) (c110:C110) (p0:L66) (k:AV→Objs→Option R) (n:Nat):afun tau B gl0 X63 (ent 73 (e73 c73) (ent 110 (e110 c110) gnil)) ow Tryz.f63 [.c (.list 66 ty66 p0)] [] k n=T63 B c73 c110 p0 (fun s=>aloop tau B gl0 X63 (ent 73 (e73 c73) (ent 110 (e110 c110) gnil)) ow [] Tryz.f63 k (I63 s) (E63 p0 s) n) (K2 k) none:=by kernel_rfl
theorem el63 {R:Type} (B:Ops) (c73:C73) (c110:C110) (p0:L66) (k:AV→Objs→Option R) (n:Nat):∀ s,aloop tau B gl0 X63 (ent 73 (e73 c73) (ent 110 (e110 c110) gnil)) ow [] Tryz.f63 k (I63 s) (E63 p0 s) (n+1)=T63 B c73 c110 p0 (fun s=>aloop tau B gl0 X63 (ent 73 (e73 c73) (ent 110 (e110 c110) gnil)) ow [] Tryz.f63 k (I63 s) (E63 p0 s) n) (K2 k) (some s):=by
 intro s
 cases s<;>kernel_rfl
theorem nt63 {R R':Type} (B:Ops) (c73:C73) (c110:C110) (p0:L66) (again:S63→Option R) (again':S63→Option R') (k0:(Bool)→Option R') (k:R'→Option R) (h:∀ s,again s=ob (again' s) k):∀ s,T63 B c73 c110 p0 again (fun y=>ob (k0 y) k) s=ob (T63 B c73 c110 p0 again' k0 s) k:=by
 rintro (_ | x)
 all_goals try cases x
 all_goals (unfold T63;repeat' first | exact rfl | exact h _ | apply qaf | (apply qao;intro))
def R63 (c73:C73) (c110:C110) (p0:L66):Nat→S63→Option (Bool)
 | 0,_=>none
 | n+1,s=>T63 Ops.std c73 c110 p0 (R63 c73 c110 p0 n) some (some s)
theorem rr63 {R:Type} (c73:C73) (c110:C110) (p0:L66) (k:AV→Objs→Option R):∀ (n:Nat) (s:S63),aloop tau Ops.std gl0 X63 (ent 73 (e73 c73) (ent 110 (e110 c110) gnil)) ow [] Tryz.f63 k (I63 s) (E63 p0 s) n=ob (R63 c73 c110 p0 n s) (K2 k)
 | 0,s=>by cases s<;>rfl
 | n+1,s=>by rw [el63];exact nt63 Ops.std c73 c110 p0 _ _ some (K2 k) (rr63 c73 c110 p0 k n) (some s)
def F63 (c73:C73) (c110:C110) (p0:L66):Option (Bool):=T63 Ops.std c73 c110 p0 (R63 c73 c110 p0 1000000) some none
def e63 {R:Type} (c:L66→Option (Bool)):Ent R:=fun args objs k=>
 oL args 66 ty66 fun p0 l0=>oE l0 objs <| ob (c p0) (K2 k)
abbrev Sp63 (c:L66→Option (Bool)):Prop:=∀ (p0:L66) (y:Bool),c p0=some y→Spec Tryz.prog gl0 63 [.c (.list 66 ty66 p0)] [] (.c (.bool y)) []
theorem ek63 {R:Type} {c:L66→Option (Bool)} (hs:Sp63 c):EOk 63 (e63 (R:=R) c):=fun args objs k r h=>by
 unfold e63 at h
 obtain ⟨p0,l0,rfl,q3⟩:=qaw h
 obtain ⟨rfl,rfl,q5⟩:=qan q3
 exact qap (hs p0) q5
theorem sf63 {c73:C73} {c110:C110} (h73:Sp73 c73) (h110:Sp110 c110):Sp63 (F63 c73 c110):=fun p0 y hy=>by
 refine qak (qae (ek73 h73) (qae (ek110 h110) qaj)) 1000000 (fn:=Tryz.f63) (by kernel_rfl) (by kernel_rfl) (X:=X63) (by kernel_rfl) ?_
 rw [eq63]
 exact (nt63 Ops.std c73 c110 p0 _ _ some (K2 k0) (rr63 c73 c110 p0 k0 1000000) none).trans (by show ob (F63 c73 c110 p0) _=_;rw [hy];rfl)
noncomputable def M63:L66→Option (Bool):=F63 M73 M110
theorem sm63:Sp63 M63:=sf63 sm73 sm110
def e50 {R:Type} (c:Int→L3→Int→Option (LB×L3×Int)):Ent R:=fun args objs k=>
 oCons args fun a0 l0=>oC a0 fun x0=>cPtr 0 x0 <| oI l0 .i64 fun p0 l1=>oNil l1 <| oBox 0 86 objs fun b0 o0=>cCons b0 fun u0_0 v0=>cList 3 ty3 u0_0 fun p1=>cCons v0 fun u0_1 v1=>cInt .i64 u0_1 fun p2=>cNil v1 <| oNilO o0 <| ob (c p0 p1 p2) (K14 k)
abbrev Sp50 (c:Int→L3→Int→Option (LB×L3×Int)):Prop:=∀ (p0:Int) (p1:L3) (p2:Int) (y:LB×L3×Int),c p0 p1 p2=some y→Spec Tryz.prog gl0 50 [.c (.ptr 0 0),.c (.int .i64 p0)] [(0,.box 86 [.list 3 ty3 p1,.int .i64 p2])] (.c (.str y.1)) [(0,.box 86 [.list 3 ty3 y.2.1,.int .i64 y.2.2])]
theorem ek50 {R:Type} {c:Int→L3→Int→Option (LB×L3×Int)} (hs:Sp50 c):EOk 50 (e50 (R:=R) c):=fun args objs k r h=>by
 unfold e50 at h
 obtain ⟨a0,l0,rfl,q1⟩:=qai h
 obtain ⟨x0,rfl,q2⟩:=qa6 q1
 obtain ⟨rfl,q3⟩:=qa1 q2
 obtain ⟨p0,l1,rfl,q6⟩:=qau q3
 obtain ⟨rfl,q7⟩:=qay q6
 obtain ⟨b0,o0,rfl,q8⟩:=qa2 q7
 obtain ⟨u0_0,v0,rfl,q9⟩:=qaa q8
 obtain ⟨p1,rfl,q10⟩:=qac q9
 obtain ⟨u0_1,v1,rfl,q11⟩:=qaa q10
 obtain ⟨p2,rfl,q12⟩:=qar q11
 obtain ⟨rfl,q13⟩:=qam q12
 obtain ⟨rfl,q14⟩:=qax q13
 exact qap (hs p0 p1 p2) q14
def X50:Aux:=⟨[(1000004,([2,3,4]++rg 6 105))],[(11,.lin ([0,1,2,5,6,10,11,12,3,4,7,8,9,13,14,15,16])),(13,.lin ([0,1,2,5,6,10,11,12,3,4,7,8,9,13,14,15,16]))]⟩
inductive S50 where
 | l1004 (v1:Int) (v2:L3) (v3:Int)
abbrev C50:Type:=Int→L3→Int→Option (LB×L3×Int)
def T50 {R:Type} (B:Ops) (c94:C94) (c50:C50) (p0:Int) (p1:L3) (p2:Int) (again:S50→Option R) (k:(LB×L3×Int)→Option R):Option S50→Option R | none=>ob (c94 (22) p1 p2) fun y0=>cond (B.lt (2) p0) (cond (B.eq (4) (0)) none (again (.l1004 (IntKind.wrap .i64 (18+Int.tmod y0.1 (4))) y0.2.1 y0.2.2))) (cond (B.lt (9) y0.2.2) (cond (B.eq (4) (0)) none (again (.l1004 (IntKind.wrap .i64 (18+Int.tmod y0.1 (4))) y0.2.1 y0.2.2))) (again (.l1004 y0.1 y0.2.1 y0.2.2))) | some (.l1004 v1 v2 v3)=>cond (B.lt v1 (3)) (ob (c50 (IntKind.wrap .i64 (p0+1)) v2 v3) fun y0=>cond (B.lim (3+List.length y0.1) (1)) (cond (B.lim (List.length (([71,32,40]:LB)++y0.1)+1) (1)) (k ((([71,32,40]:LB)++y0.1++([41]:LB),y0.2.1,y0.2.2))) none) none) (cond (B.lt v1 (6)) (ob (c50 (IntKind.wrap .i64 (p0+1)) v2 v3) fun y0=>cond (B.lim (3+List.length y0.1) (1)) (cond (B.lim (List.length (([70,32,40]:LB)++y0.1)+1) (1)) (k ((([70,32,40]:LB)++y0.1++([41]:LB),y0.2.1,y0.2.2))) none) none) (cond (B.lt v1 (8)) (ob (c50 (IntKind.wrap .i64 (p0+1)) v2 v3) fun y0=>cond (B.lim (2+List.length y0.1) (1)) (k ((([88,32]:LB)++y0.1,y0.2.1,y0.2.2))) none) (cond (B.lt v1 (11)) (ob (c50 (IntKind.wrap .i64 (p0+1)) v2 v3) fun y0=>cond (B.lim (1+List.length y0.1) (1)) (ob (c94 (2) y0.2.1 y0.2.2) fun y1=>cond (B.inb y1.1 (2)) (cond (B.lim (List.length (([40]:LB)++y0.1)+List.length (List.getD (([32,85,32]:LB)::([32,82,32]:LB)::mt LB) (Int.toNat y1.1) (mt UInt8))) (1)) (ob (c50 (IntKind.wrap .i64 (p0+1)) y1.2.1 y1.2.2) fun y2=>cond (B.lim (List.length (([40]:LB)++y0.1++List.getD (([32,85,32]:LB)::([32,82,32]:LB)::mt LB) (Int.toNat y1.1) (mt UInt8))+List.length y2.1) (1)) (cond (B.lim (List.length (([40]:LB)++y0.1++List.getD (([32,85,32]:LB)::([32,82,32]:LB)::mt LB) (Int.toNat y1.1) (mt UInt8)++y2.1)+1) (1)) (k ((([40]:LB)++y0.1++List.getD (([32,85,32]:LB)::([32,82,32]:LB)::mt LB) (Int.toNat y1.1) (mt UInt8)++y2.1++([41]:LB),y2.2.1,y2.2.2))) none) none) none) none) none) (cond (B.lt v1 (15)) (ob (c50 (IntKind.wrap .i64 (p0+1)) v2 v3) fun y0=>cond (B.lim (1+List.length y0.1) (1)) (ob (c94 (3) y0.2.1 y0.2.2) fun y1=>cond (B.inb y1.1 (3)) (cond (B.lim (List.length (([40]:LB)++y0.1)+List.length (List.getD (([32,38,38,32]:LB)::([32,124,124,32]:LB)::([32,45,62,32]:LB)::mt LB) (Int.toNat y1.1) (mt UInt8))) (1)) (ob (c50 (IntKind.wrap .i64 (p0+1)) y1.2.1 y1.2.2) fun y2=>cond (B.lim (List.length (([40]:LB)++y0.1++List.getD (([32,38,38,32]:LB)::([32,124,124,32]:LB)::([32,45,62,32]:LB)::mt LB) (Int.toNat y1.1) (mt UInt8))+List.length y2.1) (1)) (cond (B.lim (List.length (([40]:LB)++y0.1++List.getD (([32,38,38,32]:LB)::([32,124,124,32]:LB)::([32,45,62,32]:LB)::mt LB) (Int.toNat y1.1) (mt UInt8)++y2.1)+1) (1)) (k ((([40]:LB)++y0.1++List.getD (([32,38,38,32]:LB)::([32,124,124,32]:LB)::([32,45,62,32]:LB)::mt LB) (Int.toNat y1.1) (mt UInt8)++y2.1++([41]:LB),y2.2.1,y2.2.2))) none) none) none) none) none) (cond (B.lt v1 (17)) (ob (c50 (IntKind.wrap .i64 (p0+1)) v2 v3) fun y0=>cond (B.lim (1+List.length y0.1) (1)) (k ((([33]:LB)++y0.1,y0.2.1,y0.2.2))) none) (cond (B.eq v1 (17)) (ob (c50 (IntKind.wrap .i64 (p0+1)) v2 v3) fun y0=>cond (B.lim (4+List.length y0.1) (1)) (k ((([71,32,70,32]:LB)++y0.1,y0.2.1,y0.2.2))) none) (cond (B.eq v1 (18)) (ob (c94 (2) v2 v3) fun y0=>cond (B.inb y0.1 (2)) (k ((List.getD (([116,114,117,101]:LB)::([102,97,108,115,101]:LB)::mt LB) (Int.toNat y0.1) (mt UInt8),y0.2.1,y0.2.2))) none) (ob (c94 (6) v2 v3) fun y0=>cond (B.inb y0.1 (6)) (k ((List.getD (([91,120,61,61,49,93]:LB)::([91,112,64,97,93]:LB)::([91,121,60,49,93]:LB)::([91,113,64,98,38,38,120,62,48,93]:LB)::([91,120,61,61,121,93]:LB)::([91,112,64,98,93]:LB)::mt LB) (Int.toNat y0.1) (mt UInt8),y0.2.1,y0.2.2))) none))))))))
def E50 (p0:Int) (p1:L3) (p2:Int):S50→List AV×Objs
 | .l1004 v1 v2 v3=>(mk 111 [(0,.c (.ptr 0 0)),(1,.c (.int .i64 p0)),(5,.c (.int .i64 v1))],[(0,.box 86 [.list 3 ty3 v2,.int .i64 v3])])
def I50:S50→Nat
 | .l1004 _ _ _=>1004
theorem eq50 {R:Type} (B:Ops) (c94:C94) (c50:C50) (p0:Int) (p1:L3) (p2:Int) (k:AV→Objs→Option R) (n:Nat):afun tau B gl0 X50 (ent 94 (e94 c94) (ent 50 (e50 c50) gnil)) ow Tryz.f50 [.c (.ptr 0 0),.c (.int .i64 p0)] [(0,.box 86 [.list 3 ty3 p1,.int .i64 p2])] k n=T50 B c94 c50 p0 p1 p2 (fun s=>aloop tau B gl0 X50 (ent 94 (e94 c94) (ent 50 (e50 c50) gnil)) ow [0] Tryz.f50 k (I50 s) (E50 p0 p1 p2 s) n) (K14 k) none:=by kernel_rfl
theorem el50 {R:Type} (B:Ops) (c94:C94) (c50:C50) (p0:Int) (p1:L3) (p2:Int) (k:AV→Objs→Option R) (n:Nat):∀ s,aloop tau B gl0 X50 (ent 94 (e94 c94) (ent 50 (e50 c50) gnil)) ow [0] Tryz.f50 k (I50 s) (E50 p0 p1 p2 s) (n+1)=T50 B c94 c50 p0 p1 p2 (fun s=>aloop tau B gl0 X50 (ent 94 (e94 c94) (ent 50 (e50 c50) gnil)) ow [0] Tryz.f50 k (I50 s) (E50 p0 p1 p2 s) n) (K14 k) (some s):=by
 intro s
 cases s<;>kernel_rfl
theorem nt50 {R R':Type} (B:Ops) (c94:C94) (c50:C50) (p0:Int) (p1:L3) (p2:Int) (again:S50→Option R) (again':S50→Option R') (k0:(LB×L3×Int)→Option R') (k:R'→Option R) (h:∀ s,again s=ob (again' s) k):∀ s,T50 B c94 c50 p0 p1 p2 again (fun y=>ob (k0 y) k) s=ob (T50 B c94 c50 p0 p1 p2 again' k0 s) k:=by
 rintro (_ | x)
 all_goals try cases x
 all_goals (unfold T50;repeat' first | exact rfl | exact h _ | apply qaf | (apply qao;intro))
def R50 (c94:C94) (c50:C50) (p0:Int) (p1:L3) (p2:Int):Nat→S50→Option (LB×L3×Int)
 | 0,_=>none
 | n+1,s=>T50 Ops.std c94 c50 p0 p1 p2 (R50 c94 c50 p0 p1 p2 n) some (some s)
theorem rr50 {R:Type} (c94:C94) (c50:C50) (p0:Int) (p1:L3) (p2:Int) (k:AV→Objs→Option R):∀ (n:Nat) (s:S50),aloop tau Ops.std gl0 X50 (ent 94 (e94 c94) (ent 50 (e50 c50) gnil)) ow [0] Tryz.f50 k (I50 s) (E50 p0 p1 p2 s) n=ob (R50 c94 c50 p0 p1 p2 n s) (K14 k)
 | 0,s=>by cases s<;>rfl
 | n+1,s=>by rw [el50];exact nt50 Ops.std c94 c50 p0 p1 p2 _ _ some (K14 k) (rr50 c94 c50 p0 p1 p2 k n) (some s)
def F50 (c94:C94) (c50:C50) (p0:Int) (p1:L3) (p2:Int):Option (LB×L3×Int):=T50 Ops.std c94 c50 p0 p1 p2 (R50 c94 c50 p0 p1 p2 1000000) some none
theorem sf50 {c94:C94} {c50:C50} (h94:Sp94 c94) (h50:Sp50 c50):Sp50 (F50 c94 c50):=fun p0 p1 p2 y hy=>by
 refine qak (qae (ek94 h94) (qae (ek50 h50) qaj)) 1000000 (fn:=Tryz.f50) (by kernel_rfl) (by kernel_rfl) (X:=X50) (by kernel_rfl) ?_
 rw [eq50]
 exact (nt50 Ops.std c94 c50 p0 p1 p2 _ _ some (K14 k0) (rr50 c94 c50 p0 p1 p2 k0 1000000) none).trans (by show ob (F50 c94 c50 p0 p1 p2) _=_;rw [hy];rfl)
noncomputable def Rec50:Nat→(Int→L3→Int→Option (LB×L3×Int))
 | 0=>fun _ _ _=>none
 | d+1=>F50 M94 (Rec50 d)
theorem rec50:∀ d,Sp50 (Rec50 d)
 | 0=>fun p0 p1 p2 y (h:(none:Option (LB×L3×Int))=some y)=>by cases h
 | d+1=>sf50 sm94 (rec50 d)
noncomputable def M50:Int→L3→Int→Option (LB×L3×Int):=(Rec50 1000000)
theorem sm50:Sp50 M50:=(rec50 1000000)
def X15:Aux:=⟨[],[]⟩
def T15 {R:Type} (B:Ops) (c50:C50) (p0:L3) (k:(LB)→Option R):Option R:=ob (c50 (0) p0 (0)) fun y0=>k y0.1
theorem eq15 {R:Type} (B:Ops) (c50:C50) (p0:L3) (k:AV→Objs→Option R) (n:Nat):afun tau B gl0 X15 (ent 50 (e50 c50) gnil) ow Tryz.f15 [.c (.list 3 ty3 p0)] [] k n=T15 B c50 p0 (K3 k):=by kernel_rfl
theorem nt15 {R R':Type} (B:Ops) (c50:C50) (p0:L3) (k0:(LB)→Option R') (k:R'→Option R):T15 B c50 p0 (fun y=>ob (k0 y) k)=ob (T15 B c50 p0 k0) k:=by
 unfold T15
 repeat' first | exact rfl | apply qaf | (apply qao;intro)
def F15 (c50:C50) (p0:L3):Option (LB):=T15 Ops.std c50 p0 some
def e15 {R:Type} (c:L3→Option (LB)):Ent R:=fun args objs k=>
 oL args 3 ty3 fun p0 l0=>oE l0 objs <| ob (c p0) (K3 k)
abbrev Sp15 (c:L3→Option (LB)):Prop:=∀ (p0:L3) (y:LB),c p0=some y→Spec Tryz.prog gl0 15 [.c (.list 3 ty3 p0)] [] (.c (.str y)) []
theorem ek15 {R:Type} {c:L3→Option (LB)} (hs:Sp15 c):EOk 15 (e15 (R:=R) c):=fun args objs k r h=>by
 unfold e15 at h
 obtain ⟨p0,l0,rfl,q3⟩:=qaw h
 obtain ⟨rfl,rfl,q5⟩:=qan q3
 exact qap (hs p0) q5
theorem sf15 {c50:C50} (h50:Sp50 c50):Sp15 (F15 c50):=fun p0 y hy=>by
 refine qak (qae (ek50 h50) qaj) 1000000 (fn:=Tryz.f15) (by kernel_rfl) (by kernel_rfl) (X:=X15) (by kernel_rfl) ?_
 rw [eq15]
 exact (nt15 Ops.std c50 p0 some (K3 k0)).trans (by show ob (F15 c50 p0) _=_;rw [hy];rfl)
noncomputable def M15:L3→Option (LB):=F15 M50
theorem sm15:Sp15 M15:=sf15 sm50
def X37:Aux:=⟨[(6,([1,2]++rg 6 37))],[]⟩
inductive S37 where
 | l0 (v1:Int) (v2:L22) (v3:L3)
abbrev C63:Type:=L66→Option (Bool)
def T37 {R:Type} (B:Ops) (c63:C63) (c73:C73) (p0:L66) (again:S37→Option R) (k:(L22)→Option R):Option S37→Option R | none=>ob (c63 p0) fun y0=>cond (!y0) (k (mt (Ty.den ty22))) (again (.l0 0 (mt (Ty.den ty22)) (mt (Ty.den (Ty.int .i64))))) | some (.l0 v1 v2 v3)=>cond (B.lt v1 (↑p0.length)) (cond (B.inb v1 p0.length) (ob (c73 ((p0.getD v1.toNat ty66.dflt).1)) fun y0=>cond (B.lt (IntKind.wrap .i64 (Nat.cast v3.length-y0)) (0)) (k (mt (Ty.den ty22))) (cond (B.inb (IntKind.wrap .i64 (Nat.cast v3.length-y0)) (List.length v3+1)) (cond (B.lim (List.length (mt (Ty.den (Ty.int .i64)))+List.length (List.drop (Int.toNat (IntKind.wrap .i64 (Nat.cast v3.length-y0))) (List.take v3.length v3))) (8)) (cond (B.lim (List.length v2+List.length ((mt (Ty.den (Ty.int .i64))++List.drop (Int.toNat (IntKind.wrap .i64 (Nat.cast v3.length-y0))) (List.take v3.length v3))::mt (Ty.den ty22))) (24)) (cond (B.eq (IntKind.wrap .i64 (Nat.cast v3.length-y0)) (IntKind.wrap .i64 (Nat.cast v3.length-y0))) (cond (B.inb (IntKind.wrap .i64 (Nat.cast v3.length-y0)) (List.length v3+1)) (cond (B.lt (0) (Nat.cast (List.length (v1::mt (Ty.den (Ty.int .i64)))))) (cond (B.lim (List.length (List.take (Int.toNat (IntKind.wrap .i64 (Nat.cast v3.length-y0))) v3)+List.length (v1::mt (Ty.den (Ty.int .i64)))) (8)) (again (.l0 (IntKind.wrap .i64 (v1+1)) (v2++(mt (Ty.den (Ty.int .i64))++List.drop (Int.toNat (IntKind.wrap .i64 (Nat.cast v3.length-y0))) (List.take v3.length v3))::mt (Ty.den ty22)) (List.take (Int.toNat (IntKind.wrap .i64 (Nat.cast v3.length-y0))) v3++v1::mt (Ty.den (Ty.int .i64))))) none) none) none) none) none) none) none)) none) (k v2)
def E37 (p0:L66):S37→List AV×Objs
 | .l0 v1 v2 v3=>(mk 43 [(0,.c (.list 66 ty66 p0)),(3,.c (.own 3)),(4,.c (.own 4)),(5,.c (.int .i64 v1))],[(3,.row 22 ty22 v2),(4,.row 3 ty3 v3)])
def I37:S37→Nat
 | .l0 _ _ _=>0
theorem eq37 {R:Type} (B:Ops) (c63:C63) (c73:C73) (p0:L66) (k:AV→Objs→Option R) (n:Nat):afun tau B gl0 X37 (ent 63 (e63 c63) (ent 73 (e73 c73) gnil)) ow Tryz.f37 [.c (.list 66 ty66 p0)] [] k n=T37 B c63 c73 p0 (fun s=>aloop tau B gl0 X37 (ent 63 (e63 c63) (ent 73 (e73 c73) gnil)) ow [] Tryz.f37 k (I37 s) (E37 p0 s) n) (K5 k) none:=by kernel_rfl
theorem el37 {R:Type} (B:Ops) (c63:C63) (c73:C73) (p0:L66) (k:AV→Objs→Option R) (n:Nat):∀ s,aloop tau B gl0 X37 (ent 63 (e63 c63) (ent 73 (e73 c73) gnil)) ow [] Tryz.f37 k (I37 s) (E37 p0 s) (n+1)=T37 B c63 c73 p0 (fun s=>aloop tau B gl0 X37 (ent 63 (e63 c63) (ent 73 (e73 c73) gnil)) ow [] Tryz.f37 k (I37 s) (E37 p0 s) n) (K5 k) (some s):=by
 intro s
 cases s<;>kernel_rfl
theorem nt37 {R R':Type} (B:Ops) (c63:C63) (c73:C73) (p0:L66) (again:S37→Option R) (again':S37→Option R') (k0:(L22)→Option R') (k:R'→Option R) (h:∀ s,again s=ob (again' s) k):∀ s,T37 B c63 c73 p0 again (fun y=>ob (k0 y) k) s=ob (T37 B c63 c73 p0 again' k0 s) k:=by
 rintro (_ | x)
 all_goals try cases x
 all_goals (unfold T37;repeat' first | exact rfl | exact h _ | apply qaf | (apply qao;intro))
def R37 (c63:C63) (c73:C73) (p0:L66):Nat→S37→Option (L22)
 | 0,_=>none
 | n+1,s=>T37 Ops.std c63 c73 p0 (R37 c63 c73 p0 n) some (some s)
theorem rr37 {R:Type} (c63:C63) (c73:C73) (p0:L66) (k:AV→Objs→Option R):∀ (n:Nat) (s:S37),aloop tau Ops.std gl0 X37 (ent 63 (e63 c63) (ent 73 (e73 c73) gnil)) ow [] Tryz.f37 k (I37 s) (E37 p0 s) n=ob (R37 c63 c73 p0 n s) (K5 k)
 | 0,s=>by cases s<;>rfl
 | n+1,s=>by rw [el37];exact nt37 Ops.std c63 c73 p0 _ _ some (K5 k) (rr37 c63 c73 p0 k n) (some s)
def F37 (c63:C63) (c73:C73) (p0:L66):Option (L22):=T37 Ops.std c63 c73 p0 (R37 c63 c73 p0 1000000) some none
def e37 {R:Type} (c:L66→Option (L22)):Ent R:=fun args objs k=>
 oL args 66 ty66 fun p0 l0=>oE l0 objs <| ob (c p0) (K5 k)
abbrev Sp37 (c:L66→Option (L22)):Prop:=∀ (p0:L66) (y:L22),c p0=some y→Spec Tryz.prog gl0 37 [.c (.list 66 ty66 p0)] [] (.c (.own 500)) [(500,.row 22 ty22 y)]
theorem ek37 {R:Type} {c:L66→Option (L22)} (hs:Sp37 c):EOk 37 (e37 (R:=R) c):=fun args objs k r h=>by
 unfold e37 at h
 obtain ⟨p0,l0,rfl,q3⟩:=qaw h
 obtain ⟨rfl,rfl,q5⟩:=qan q3
 exact qap (hs p0) q5
theorem sf37 {c63:C63} {c73:C73} (h63:Sp63 c63) (h73:Sp73 c73):Sp37 (F37 c63 c73):=fun p0 y hy=>by
 refine qak (qae (ek63 h63) (qae (ek73 h73) qaj)) 1000000 (fn:=Tryz.f37) (by kernel_rfl) (by kernel_rfl) (X:=X37) (by kernel_rfl) ?_
 rw [eq37]
 exact (nt37 Ops.std c63 c73 p0 _ _ some (K5 k0) (rr37 c63 c73 p0 k0 1000000) none).trans (by show ob (F37 c63 c73 p0) _=_;rw [hy];rfl)
noncomputable def M37:L66→Option (L22):=F37 M63 M73
theorem sm37:Sp37 M37:=sf37 sm63 sm73
def X155:Aux:=⟨[],[]⟩
def T155 {R:Type} (B:Ops) (p0:Int) (k:(Int)→Option R):Option R:=cond (B.eq p0 (5)) (k 6) (cond (B.eq p0 (6)) (k 5) (cond (B.eq p0 (9)) (k 10) (k 9)))
theorem eq155 {R:Type} (B:Ops) (p0:Int) (k:AV→Objs→Option R) (n:Nat):afun tau B gl0 X155 gnil ow Tryz.f155 [.c (.int .i64 p0)] [] k n=T155 B p0 (K1 k):=by kernel_rfl
theorem nt155 {R R':Type} (B:Ops) (p0:Int) (k0:(Int)→Option R') (k:R'→Option R):T155 B p0 (fun y=>ob (k0 y) k)=ob (T155 B p0 k0) k:=by
 unfold T155
 repeat' first | exact rfl | apply qaf | (apply qao;intro)
def F155 (p0:Int):Option (Int):=T155 Ops.std p0 some
def e155 {R:Type} (c:Int→Option (Int)):Ent R:=fun args objs k=>
 oI args .i64 fun p0 l0=>oE l0 objs <| ob (c p0) (K1 k)
abbrev Sp155 (c:Int→Option (Int)):Prop:=∀ (p0:Int) (y:Int),c p0=some y→Spec Tryz.prog gl0 155 [.c (.int .i64 p0)] [] (.c (.int .i64 y)) []
theorem ek155 {R:Type} {c:Int→Option (Int)} (hs:Sp155 c):EOk 155 (e155 (R:=R) c):=fun args objs k r h=>by
 unfold e155 at h
 obtain ⟨p0,l0,rfl,q3⟩:=qau h
 obtain ⟨rfl,rfl,q5⟩:=qan q3
 exact qap (hs p0) q5
theorem sf155:Sp155 (F155):=fun p0 y hy=>by
 refine qak qaj 1000000 (fn:=Tryz.f155) (by kernel_rfl) (by kernel_rfl) (X:=X155) (by kernel_rfl) ?_
 rw [eq155]
 exact (nt155 Ops.std p0 some (K1 k0)).trans (by show ob (F155 p0) _=_;rw [hy];rfl)
noncomputable def M155:Int→Option (Int):=F155
theorem sm155:Sp155 M155:=sf155
abbrev K30 {R:Type} (k:AV→Objs→Option R) (y:(L66)):Option R:=k (.c (.own 500)) [(500,.row 66 ty66 y)]
def e93 {R:Type} (c:L66→L22→Int→Bool→L66→Option (L66)):Ent R:=fun args objs k=>
 oL args 66 ty66 fun p0 l0=>oL l0 22 ty22 fun p1 l1=>oI l1 .i64 fun p2 l2=>oCons l2 fun a3 l3=>oC a3 fun x3=>cBool x3 fun p3=>oCons l3 fun a4 l4=>oC a4 fun x4=>cOwn 4 x4 <| oNil l4 <| oRow 4 66 ty66 objs fun p4 o0=>oNilO o0 <| ob (c p0 p1 p2 p3 p4) (K30 k)
abbrev Sp93 (c:L66→L22→Int→Bool→L66→Option (L66)):Prop:=∀ (p0:L66) (p1:L22) (p2:Int) (p3:Bool) (p4:L66) (y:L66),c p0 p1 p2 p3 p4=some y→Spec Tryz.prog gl0 93 [.c (.list 66 ty66 p0),.c (.list 22 ty22 p1),.c (.int .i64 p2),.c (.bool p3),.c (.own 4)] [(4,.row 66 ty66 p4)] (.c (.own 500)) [(500,.row 66 ty66 y)]
theorem ek93 {R:Type} {c:L66→L22→Int→Bool→L66→Option (L66)} (hs:Sp93 c):EOk 93 (e93 (R:=R) c):=fun args objs k r h=>by
 unfold e93 at h
 obtain ⟨p0,l0,rfl,q3⟩:=qaw h
 obtain ⟨p1,l1,rfl,q6⟩:=qaw q3
 obtain ⟨p2,l2,rfl,q9⟩:=qau q6
 obtain ⟨a3,l3,rfl,q10⟩:=qai q9
 obtain ⟨x3,rfl,q11⟩:=qa6 q10
 obtain ⟨p3,rfl,q12⟩:=qbq q11
 obtain ⟨a4,l4,rfl,q13⟩:=qai q12
 obtain ⟨x4,rfl,q14⟩:=qa6 q13
 obtain ⟨rfl,q15⟩:=qbk q14
 obtain ⟨rfl,q16⟩:=qay q15
 obtain ⟨p4,o0,rfl,q17⟩:=qbl q16
 obtain ⟨rfl,q18⟩:=qax q17
 exact qap (hs p0 p1 p2 p3 p4) q18
def X93:Aux:=⟨[(1000010,([0,1,2,3,5,6,7,8,9,10]++rg 12 145)),(1000015,([0,1,2,3]++rg 5 152)),(1000026,([2,5,6,7,8,9,10]++rg 14 143)),(1000033,([2,5,6,7,8,9,10,13]++rg 15 142)),(1000038,([0,1,2,5,6,7,8,9,10]++rg 12 145))],[(26,.seq ([0,1,2,3,4,5,6,7,8,12,13]) (.alt (.seq [9] (.alt (.seq [10] (.alt (.lin [11,14,15,16]) (.lin [14,11,15,16]))) (.lin [14,10,11,15,16]))) (.lin [14,9,10,11,15,16]))),(33,.seq ([0,1,2,3,4,5,6,7,8,12,13]) (.alt (.seq [9] (.alt (.seq [10] (.alt (.lin [11,14,15,16]) (.lin [14,11,15,16]))) (.lin [14,10,11,15,16]))) (.lin [14,9,10,11,15,16])))]⟩
inductive S93 where
 | l1010 (v0:Int)
 | l1015 (v0:L66)
 | l1026 (v3:Int) (v4:L3) (v5:Int)
 | l1033 (v3:Int) (v4:L3) (v5:Int)
 | l1038 (v1:Int) (v2:L66)
abbrev C93:Type:=L66→L22→Int→Bool→L66→Option (L66)
abbrev C155:Type:=Int→Option (Int)
def T93 {R:Type} (B:Ops) (c93:C93) (c155:C155) (p0:L66) (p1:L22) (p2:Int) (p3:Bool) (p4:L66) (again:S93→Option R) (k:(L66)→Option R):Option S93→Option R | none=>cond (B.inb p2 p0.length) (cond (B.inb p2 p1.length) (cond (B.eq ((p0.getD p2.toNat ty66.dflt).1) (1)) (cond (p3) (again (.l1010 (IntKind.wrap .i64 (3-(p0.getD p2.toNat ty66.dflt).1)))) (again (.l1010 ((p0.getD p2.toNat ty66.dflt).1)))) (cond (B.eq ((p0.getD p2.toNat ty66.dflt).1) (2)) (cond (p3) (again (.l1010 (IntKind.wrap .i64 (3-(p0.getD p2.toNat ty66.dflt).1)))) (again (.l1010 ((p0.getD p2.toNat ty66.dflt).1)))) (cond (B.eq ((p0.getD p2.toNat ty66.dflt).1) (3)) (cond (B.inb p2 p0.length) (cond (B.lim (List.length p4+List.length (((p0.getD p2.toNat ty66.dflt).1,(p0.getD p2.toNat ty66.dflt).2)::mt (Ty.den ty66))) (32)) (cond (p3) (cond (B.lim (List.length (p4++((p0.getD p2.toNat ty66.dflt).1,(p0.getD p2.toNat ty66.dflt).2)::mt (Ty.den ty66))+List.length ((4,mt (Ty.den ty150))::mt (Ty.den ty66))) (32)) (again (.l1015 (p4++((p0.getD p2.toNat ty66.dflt).1,(p0.getD p2.toNat ty66.dflt).2)::mt (Ty.den ty66)++(4,mt (Ty.den ty150))::mt (Ty.den ty66)))) none) (again (.l1015 (p4++((p0.getD p2.toNat ty66.dflt).1,(p0.getD p2.toNat ty66.dflt).2)::mt (Ty.den ty66))))) none) none) (cond (B.eq ((p0.getD p2.toNat ty66.dflt).1) (4)) (cond (B.inb (0) (List.length (p1.getD p2.toNat ty22.dflt))) (ob (c93 p0 p1 (List.getD (p1.getD p2.toNat ty22.dflt) (Int.toNat (0)) (Ty.dflt (Ty.int .i64))) (!p3) p4) fun y0=>k y0) none) (cond (B.eq ((p0.getD p2.toNat ty66.dflt).1) (8)) (cond (B.inb (0) (List.length (p1.getD p2.toNat ty22.dflt))) (ob (c93 p0 p1 (List.getD (p1.getD p2.toNat ty22.dflt) (Int.toNat (0)) (Ty.dflt (Ty.int .i64))) p3 p4) fun y0=>cond (B.lim (List.length y0+List.length (((p0.getD p2.toNat ty66.dflt).1,mt (Ty.den ty150))::mt (Ty.den ty66))) (32)) (k (y0++((p0.getD p2.toNat ty66.dflt).1,mt (Ty.den ty150))::mt (Ty.den ty66))) none) none) (cond (B.eq ((p0.getD p2.toNat ty66.dflt).1) (11)) (cond (p3) (again (.l1026 10 (p1.getD p2.toNat ty22.dflt) 2)) (again (.l1026 9 (p1.getD p2.toNat ty22.dflt) 1))) (cond (B.eq ((p0.getD p2.toNat ty66.dflt).1) (12)) (cond (p3) (again (.l1033 9 (p1.getD p2.toNat ty22.dflt) 1)) (again (.l1033 10 (p1.getD p2.toNat ty22.dflt) 2))) (cond (B.eq ((p0.getD p2.toNat ty66.dflt).1) (7)) (cond (B.inb (0) (List.length (p1.getD p2.toNat ty22.dflt))) (ob (c93 p0 p1 (List.getD (p1.getD p2.toNat ty22.dflt) (Int.toNat (0)) (Ty.dflt (Ty.int .i64))) (!p3) p4) fun y0=>cond (B.inb (1) (List.length (p1.getD p2.toNat ty22.dflt))) (ob (c93 p0 p1 (List.getD (p1.getD p2.toNat ty22.dflt) (Int.toNat (1)) (Ty.dflt (Ty.int .i64))) p3 y0) fun y1=>again (.l1038 6 y1)) none) none) (cond (B.inb (0) (List.length (p1.getD p2.toNat ty22.dflt))) (ob (c93 p0 p1 (List.getD (p1.getD p2.toNat ty22.dflt) (Int.toNat (0)) (Ty.dflt (Ty.int .i64))) p3 p4) fun y0=>cond (B.inb (1) (List.length (p1.getD p2.toNat ty22.dflt))) (ob (c93 p0 p1 (List.getD (p1.getD p2.toNat ty22.dflt) (Int.toNat (1)) (Ty.dflt (Ty.int .i64))) p3 y0) fun y1=>again (.l1038 ((p0.getD p2.toNat ty66.dflt).1) y1)) none) none))))))))) none) none | some (.l1010 v0)=>cond (B.lim (List.length p4+List.length ((v0,mt (Ty.den ty150))::mt (Ty.den ty66))) (32)) (k (p4++(v0,mt (Ty.den ty150))::mt (Ty.den ty66))) none | some (.l1015 v0)=>k v0 | some (.l1026 v3 v4 v5)=>cond (B.inb (0) v4.length) (cond (B.lim (List.length p4+List.length ((v5,mt (Ty.den ty150))::mt (Ty.den ty66))) (32)) (ob (c93 p0 p1 (v4.getD (Int.toNat (0)) ty3.dflt) p3 (p4++(v5,mt (Ty.den ty150))::mt (Ty.den ty66))) fun y0=>cond (B.lim (List.length y0+List.length ((v3,mt (Ty.den ty150))::mt (Ty.den ty66))) (32)) (k (y0++(v3,mt (Ty.den ty150))::mt (Ty.den ty66))) none) none) none | some (.l1033 v3 v4 v5)=>cond (B.inb (0) v4.length) (cond (B.lim (List.length p4+List.length ((v5,mt (Ty.den ty150))::mt (Ty.den ty66))) (32)) (ob (c93 p0 p1 (v4.getD (Int.toNat (0)) ty3.dflt) p3 (p4++(v5,mt (Ty.den ty150))::mt (Ty.den ty66))) fun y0=>cond (B.lim (List.length y0+List.length ((v3,mt (Ty.den ty150))::mt (Ty.den ty66))) (32)) (k (y0++(v3,mt (Ty.den ty150))::mt (Ty.den ty66))) none) none) none | some (.l1038 v1 v2)=>cond (p3) (ob (c155 v1) fun y0=>cond (B.lim (List.length v2+List.length ((y0,mt (Ty.den ty150))::mt (Ty.den ty66))) (32)) (k (v2++(y0,mt (Ty.den ty150))::mt (Ty.den ty66))) none) (cond (B.lim (List.length v2+List.length ((v1,mt (Ty.den ty150))::mt (Ty.den ty66))) (32)) (k (v2++(v1,mt (Ty.den ty150))::mt (Ty.den ty66))) none)
def E93 (p0:L66) (p1:L22) (p2:Int) (p3:Bool) (p4:L66):S93→List AV×Objs
 | .l1010 v0=>(mk 157 [(4,.c (.own 4)),(11,.c (.int .i64 v0))],[(4,.row 66 ty66 p4)])
 | .l1015 v0=>(mk 157 [(4,.c (.own 4))],[(4,.row 66 ty66 v0)])
 | .l1026 v3 v4 v5=>(mk 157 [(0,.c (.list 66 ty66 p0)),(1,.c (.list 22 ty22 p1)),(3,.c (.bool p3)),(4,.c (.own 4)),(11,.c (.int .i64 v3)),(12,.c (.list 3 ty3 v4)),(13,.c (.int .i64 v5))],[(4,.row 66 ty66 p4)])
 | .l1033 v3 v4 v5=>(mk 157 [(0,.c (.list 66 ty66 p0)),(1,.c (.list 22 ty22 p1)),(3,.c (.bool p3)),(4,.c (.own 4)),(11,.c (.int .i64 v3)),(12,.c (.list 3 ty3 v4)),(14,.c (.int .i64 v5))],[(4,.row 66 ty66 p4)])
 | .l1038 v1 v2=>(mk 157 [(3,.c (.bool p3)),(4,.c (.own 4)),(11,.c (.int .i64 v1))],[(4,.row 66 ty66 v2)])
def I93:S93→Nat
 | .l1010 _=>1010
 | .l1015 _=>1015
 | .l1026 _ _ _=>1026
 | .l1033 _ _ _=>1033
 | .l1038 _ _=>1038
noncomputable def Ta93 {R:Type} (B:Ops) (c93:C93) (c155:C155) (p0:L66) (p1:L22) (p2:Int) (p3:Bool) (p4:L66) (again:S93→Option R) (k:(L66)→Option R):Option S93→Option R | none=>cond (Ops.inb B p2 (List.length p0)) (cond (Ops.inb B p2 (List.length p1)) (cond (Ops.eq B ((List.getD p0 (Int.toNat p2) (Ty.dflt ty66)).1) (1)) (cond (p3) (again (.l1010 (IntKind.wrap .i64 (3-(List.getD p0 (Int.toNat p2) (Ty.dflt ty66)).1)))) (again (.l1010 ((List.getD p0 (Int.toNat p2) (Ty.dflt ty66)).1)))) (cond (Ops.eq B ((List.getD p0 (Int.toNat p2) (Ty.dflt ty66)).1) (2)) (cond (p3) (again (.l1010 (IntKind.wrap .i64 (3-(List.getD p0 (Int.toNat p2) (Ty.dflt ty66)).1)))) (again (.l1010 ((List.getD p0 (Int.toNat p2) (Ty.dflt ty66)).1)))) (cond (Ops.eq B ((List.getD p0 (Int.toNat p2) (Ty.dflt ty66)).1) (3)) (cond (Ops.inb B p2 (List.length p0)) (cond (Ops.lim B (List.length p4+List.length (((List.getD p0 (Int.toNat p2) (Ty.dflt ty66)).1,(List.getD p0 (Int.toNat p2) (Ty.dflt ty66)).2)::mt (Ty.den ty66))) (32)) (cond (p3) (cond (Ops.lim B (List.length (p4++((List.getD p0 (Int.toNat p2) (Ty.dflt ty66)).1,(List.getD p0 (Int.toNat p2) (Ty.dflt ty66)).2)::mt (Ty.den ty66))+List.length ((4,mt (Ty.den ty150))::mt (Ty.den ty66))) (32)) (again (.l1015 (p4++((List.getD p0 (Int.toNat p2) (Ty.dflt ty66)).1,(List.getD p0 (Int.toNat p2) (Ty.dflt ty66)).2)::mt (Ty.den ty66)++(4,mt (Ty.den ty150))::mt (Ty.den ty66)))) none) (again (.l1015 (p4++((List.getD p0 (Int.toNat p2) (Ty.dflt ty66)).1,(List.getD p0 (Int.toNat p2) (Ty.dflt ty66)).2)::mt (Ty.den ty66))))) none) none) (cond (Ops.eq B ((List.getD p0 (Int.toNat p2) (Ty.dflt ty66)).1) (4)) (cond (Ops.inb B (0) (List.length (List.getD p1 (Int.toNat p2) (Ty.dflt ty22)))) (ob (c93 p0 p1 (List.getD (List.getD p1 (Int.toNat p2) (Ty.dflt ty22)) (Int.toNat (0)) (Ty.dflt (Ty.int .i64))) (!p3) p4) fun y0=>k y0) none) (cond (Ops.eq B ((List.getD p0 (Int.toNat p2) (Ty.dflt ty66)).1) (8)) (cond (Ops.inb B (0) (List.length (List.getD p1 (Int.toNat p2) (Ty.dflt ty22)))) (ob (c93 p0 p1 (List.getD (List.getD p1 (Int.toNat p2) (Ty.dflt ty22)) (Int.toNat (0)) (Ty.dflt (Ty.int .i64))) p3 p4) fun y0=>cond (Ops.lim B (List.length y0+List.length (((List.getD p0 (Int.toNat p2) (Ty.dflt ty66)).1,mt (Ty.den ty150))::mt (Ty.den ty66))) (32)) (k (y0++((List.getD p0 (Int.toNat p2) (Ty.dflt ty66)).1,mt (Ty.den ty150))::mt (Ty.den ty66))) none) none) (cond (Ops.eq B ((List.getD p0 (Int.toNat p2) (Ty.dflt ty66)).1) (11)) (cond (p3) (again (.l1026 10 (List.getD p1 (Int.toNat p2) (Ty.dflt ty22)) 2)) (again (.l1026 9 (List.getD p1 (Int.toNat p2) (Ty.dflt ty22)) 1))) (cond (Ops.eq B ((List.getD p0 (Int.toNat p2) (Ty.dflt ty66)).1) (12)) (cond (p3) (again (.l1033 9 (List.getD p1 (Int.toNat p2) (Ty.dflt ty22)) 1)) (again (.l1033 10 (List.getD p1 (Int.toNat p2) (Ty.dflt ty22)) 2))) (cond (Ops.eq B ((List.getD p0 (Int.toNat p2) (Ty.dflt ty66)).1) (7)) (cond (Ops.inb B (0) (List.length (List.getD p1 (Int.toNat p2) (Ty.dflt ty22)))) (ob (c93 p0 p1 (List.getD (List.getD p1 (Int.toNat p2) (Ty.dflt ty22)) (Int.toNat (0)) (Ty.dflt (Ty.int .i64))) (!p3) p4) fun y0=>cond (Ops.inb B (1) (List.length (List.getD p1 (Int.toNat p2) (Ty.dflt ty22)))) (ob (c93 p0 p1 (List.getD (List.getD p1 (Int.toNat p2) (Ty.dflt ty22)) (Int.toNat (1)) (Ty.dflt (Ty.int .i64))) p3 y0) fun y1=>again (.l1038 6 y1)) none) none) (cond (Ops.inb B (0) (List.length (List.getD p1 (Int.toNat p2) (Ty.dflt ty22)))) (ob (c93 p0 p1 (List.getD (List.getD p1 (Int.toNat p2) (Ty.dflt ty22)) (Int.toNat (0)) (Ty.dflt (Ty.int .i64))) p3 p4) fun y0=>cond (Ops.inb B (1) (List.length (List.getD p1 (Int.toNat p2) (Ty.dflt ty22)))) (ob (c93 p0 p1 (List.getD (List.getD p1 (Int.toNat p2) (Ty.dflt ty22)) (Int.toNat (1)) (Ty.dflt (Ty.int .i64))) p3 y0) fun y1=>again (.l1038 ((List.getD p0 (Int.toNat p2) (Ty.dflt ty66)).1) y1)) none) none))))))))) none) none | some (.l1010 v0)=>cond (Ops.lim B (List.length p4+List.length ((v0,mt (Ty.den ty150))::mt (Ty.den ty66))) (32)) (k (p4++(v0,mt (Ty.den ty150))::mt (Ty.den ty66))) none | some (.l1015 v0)=>k v0 | some (.l1026 v3 v4 v5)=>cond (Ops.inb B (0) (List.length v4)) (agree (agree (cond (Ops.lim B (List.length p4+List.length ((v5,mt (Ty.den ty150))::mt (Ty.den ty66))) (32)) (agree (ob (c93 p0 p1 (List.getD v4 (Int.toNat (0)) (Ty.dflt ty3)) p3 (p4++(v5,mt (Ty.den ty150))::mt (Ty.den ty66))) fun y0=>cond (Ops.lim B (List.length y0+List.length ((v3,mt (Ty.den ty150))::mt (Ty.den ty66))) (32)) (k (y0++(v3,mt (Ty.den ty150))::mt (Ty.den ty66))) none) (ob (c93 p0 p1 (List.getD v4 (Int.toNat (0)) (Ty.dflt ty3)) p3 (p4++(v5,mt (Ty.den ty150))::mt (Ty.den ty66))) fun y0=>cond (Ops.lim B (List.length y0+List.length ((v3,mt (Ty.den ty150))::mt (Ty.den ty66))) (32)) (k (y0++(v3,mt (Ty.den ty150))::mt (Ty.den ty66))) none)) none) (cond (Ops.lim B (List.length p4+List.length ((v5,mt (Ty.den ty150))::mt (Ty.den ty66))) (32)) (ob (c93 p0 p1 (List.getD v4 (Int.toNat (0)) (Ty.dflt ty3)) p3 (p4++(v5,mt (Ty.den ty150))::mt (Ty.den ty66))) fun y0=>cond (Ops.lim B (List.length y0+List.length ((v3,mt (Ty.den ty150))::mt (Ty.den ty66))) (32)) (k (y0++(v3,mt (Ty.den ty150))::mt (Ty.den ty66))) none) none)) (cond (Ops.lim B (List.length p4+List.length ((v5,mt (Ty.den ty150))::mt (Ty.den ty66))) (32)) (ob (c93 p0 p1 (List.getD v4 (Int.toNat (0)) (Ty.dflt ty3)) p3 (p4++(v5,mt (Ty.den ty150))::mt (Ty.den ty66))) fun y0=>cond (Ops.lim B (List.length y0+List.length ((v3,mt (Ty.den ty150))::mt (Ty.den ty66))) (32)) (k (y0++(v3,mt (Ty.den ty150))::mt (Ty.den ty66))) none) none)) none | some (.l1033 v3 v4 v5)=>cond (Ops.inb B (0) (List.length v4)) (agree (agree (cond (Ops.lim B (List.length p4+List.length ((v5,mt (Ty.den ty150))::mt (Ty.den ty66))) (32)) (agree (ob (c93 p0 p1 (List.getD v4 (Int.toNat (0)) (Ty.dflt ty3)) p3 (p4++(v5,mt (Ty.den ty150))::mt (Ty.den ty66))) fun y0=>cond (Ops.lim B (List.length y0+List.length ((v3,mt (Ty.den ty150))::mt (Ty.den ty66))) (32)) (k (y0++(v3,mt (Ty.den ty150))::mt (Ty.den ty66))) none) (ob (c93 p0 p1 (List.getD v4 (Int.toNat (0)) (Ty.dflt ty3)) p3 (p4++(v5,mt (Ty.den ty150))::mt (Ty.den ty66))) fun y0=>cond (Ops.lim B (List.length y0+List.length ((v3,mt (Ty.den ty150))::mt (Ty.den ty66))) (32)) (k (y0++(v3,mt (Ty.den ty150))::mt (Ty.den ty66))) none)) none) (cond (Ops.lim B (List.length p4+List.length ((v5,mt (Ty.den ty150))::mt (Ty.den ty66))) (32)) (ob (c93 p0 p1 (List.getD v4 (Int.toNat (0)) (Ty.dflt ty3)) p3 (p4++(v5,mt (Ty.den ty150))::mt (Ty.den ty66))) fun y0=>cond (Ops.lim B (List.length y0+List.length ((v3,mt (Ty.den ty150))::mt (Ty.den ty66))) (32)) (k (y0++(v3,mt (Ty.den ty150))::mt (Ty.den ty66))) none) none)) (cond (Ops.lim B (List.length p4+List.length ((v5,mt (Ty.den ty150))::mt (Ty.den ty66))) (32)) (ob (c93 p0 p1 (List.getD v4 (Int.toNat (0)) (Ty.dflt ty3)) p3 (p4++(v5,mt (Ty.den ty150))::mt (Ty.den ty66))) fun y0=>cond (Ops.lim B (List.length y0+List.length ((v3,mt (Ty.den ty150))::mt (Ty.den ty66))) (32)) (k (y0++(v3,mt (Ty.den ty150))::mt (Ty.den ty66))) none) none)) none | some (.l1038 v1 v2)=>cond (p3) (ob (c155 v1) fun y0=>cond (Ops.lim B (List.length v2+List.length ((y0,mt (Ty.den ty150))::mt (Ty.den ty66))) (32)) (k (v2++(y0,mt (Ty.den ty150))::mt (Ty.den ty66))) none) (cond (Ops.lim B (List.length v2+List.length ((v1,mt (Ty.den ty150))::mt (Ty.den ty66))) (32)) (k (v2++(v1,mt (Ty.den ty150))::mt (Ty.den ty66))) none)
theorem ta93 {R:Type} (B:Ops) (c93:C93) (c155:C155) (p0:L66) (p1:L22) (p2:Int) (p3:Bool) (p4:L66) (again:S93→Option R) (k:(L66)→Option R):∀ s,Ta93 B c93 c155 p0 p1 p2 p3 p4 again k s=T93 B c93 c155 p0 p1 p2 p3 p4 again k s
 | none=>by unfold Ta93 T93;simp only [qbv]
 | some (.l1010 v0)=>by unfold Ta93 T93;simp only [qbv]
 | some (.l1015 v0)=>by unfold Ta93 T93;simp only [qbv]
 | some (.l1026 v3 v4 v5)=>by unfold Ta93 T93;simp only [qbv]
 | some (.l1033 v3 v4 v5)=>by unfold Ta93 T93;simp only [qbv]
 | some (.l1038 v1 v2)=>by unfold Ta93 T93;simp only [qbv]
theorem eq93 {R:Type} (B:Ops) (c93:C93) (c155:C155) (p0:L66) (p1:L22) (p2:Int) (p3:Bool) (p4:L66) (k:AV→Objs→Option R) (n:Nat):afun tau B gl0 X93 (ent 93 (e93 c93) (ent 155 (e155 c155) gnil)) ow Tryz.f93 [.c (.list 66 ty66 p0),.c (.list 22 ty22 p1),.c (.int .i64 p2),.c (.bool p3),.c (.own 4)] [(4,.row 66 ty66 p4)] k n=T93 B c93 c155 p0 p1 p2 p3 p4 (fun s=>aloop tau B gl0 X93 (ent 93 (e93 c93) (ent 155 (e155 c155) gnil)) ow [] Tryz.f93 k (I93 s) (E93 p0 p1 p2 p3 p4 s) n) (K30 k) none:=by rw [←ta93];kernel_rfl
theorem el93 {R:Type} (B:Ops) (c93:C93) (c155:C155) (p0:L66) (p1:L22) (p2:Int) (p3:Bool) (p4:L66) (k:AV→Objs→Option R) (n:Nat):∀ s,aloop tau B gl0 X93 (ent 93 (e93 c93) (ent 155 (e155 c155) gnil)) ow [] Tryz.f93 k (I93 s) (E93 p0 p1 p2 p3 p4 s) (n+1)=T93 B c93 c155 p0 p1 p2 p3 p4 (fun s=>aloop tau B gl0 X93 (ent 93 (e93 c93) (ent 155 (e155 c155) gnil)) ow [] Tryz.f93 k (I93 s) (E93 p0 p1 p2 p3 p4 s) n) (K30 k) (some s)
 | .l1010 v0=>by rw [←ta93];kernel_rfl
 | .l1015 v0=>by rw [←ta93];kernel_rfl
 | .l1026 v3 v4 v5=>by rw [←ta93];kernel_rfl
 | .l1033 v3 v4 v5=>by rw [←ta93];kernel_rfl
 | .l1038 v1 v2=>by rw [←ta93];kernel_rfl
theorem nt93 {R R':Type} (B:Ops) (c93:C93) (c155:C155) (p0:L66) (p1:L22) (p2:Int) (p3:Bool) (p4:L66) (again:S93→Option R) (again':S93→Option R') (k0:(L66)→Option R') (k:R'→Option R) (h:∀ s,again s=ob (again' s) k):∀ s,T93 B c93 c155 p0 p1 p2 p3 p4 again (fun y=>ob (k0 y) k) s=ob (T93 B c93 c155 p0 p1 p2 p3 p4 again' k0 s) k:=by
 rintro (_ | x)
 all_goals try cases x
 all_goals (unfold T93;repeat' first | exact rfl | exact h _ | apply qaf | (apply qao;intro))
def R93 (c93:C93) (c155:C155) (p0:L66) (p1:L22) (p2:Int) (p3:Bool) (p4:L66):Nat→S93→Option (L66)
 | 0,_=>none
 | n+1,s=>T93 Ops.std c93 c155 p0 p1 p2 p3 p4 (R93 c93 c155 p0 p1 p2 p3 p4 n) some (some s)
theorem rr93 {R:Type} (c93:C93) (c155:C155) (p0:L66) (p1:L22) (p2:Int) (p3:Bool) (p4:L66) (k:AV→Objs→Option R):∀ (n:Nat) (s:S93),aloop tau Ops.std gl0 X93 (ent 93 (e93 c93) (ent 155 (e155 c155) gnil)) ow [] Tryz.f93 k (I93 s) (E93 p0 p1 p2 p3 p4 s) n=ob (R93 c93 c155 p0 p1 p2 p3 p4 n s) (K30 k)
 | 0,s=>by cases s<;>rfl
 | n+1,s=>by rw [el93];exact nt93 Ops.std c93 c155 p0 p1 p2 p3 p4 _ _ some (K30 k) (rr93 c93 c155 p0 p1 p2 p3 p4 k n) (some s)
def F93 (c93:C93) (c155:C155) (p0:L66) (p1:L22) (p2:Int) (p3:Bool) (p4:L66):Option (L66):=T93 Ops.std c93 c155 p0 p1 p2 p3 p4 (R93 c93 c155 p0 p1 p2 p3 p4 1000000) some none
theorem sf93 {c93:C93} {c155:C155} (h93:Sp93 c93) (h155:Sp155 c155):Sp93 (F93 c93 c155):=fun p0 p1 p2 p3 p4 y hy=>by
 refine qak (qae (ek93 h93) (qae (ek155 h155) qaj)) 1000000 (fn:=Tryz.f93) (by kernel_rfl) (by kernel_rfl) (X:=X93) (by kernel_rfl) ?_
 rw [eq93]
 exact (nt93 Ops.std c93 c155 p0 p1 p2 p3 p4 _ _ some (K30 k0) (rr93 c93 c155 p0 p1 p2 p3 p4 k0 1000000) none).trans (by show ob (F93 c93 c155 p0 p1 p2 p3 p4) _=_;rw [hy];rfl)
noncomputable def Rec93:Nat→(L66→L22→Int→Bool→L66→Option (L66))
 | 0=>fun _ _ _ _ _=>none
 | d+1=>F93 (Rec93 d) M155
theorem rec93:∀ d,Sp93 (Rec93 d)
 | 0=>fun p0 p1 p2 p3 p4 y (h:(none:Option (L66))=some y)=>by cases h
 | d+1=>sf93 (rec93 d) sm155
noncomputable def M93:L66→L22→Int→Bool→L66→Option (L66):=(Rec93 1000000)
theorem sm93:Sp93 M93:=(rec93 1000000)
def X49:Aux:=⟨[],[]⟩
abbrev C37:Type:=L66→Option (L22)
def T49 {R:Type} (B:Ops) (c63:C63) (c37:C37) (c93:C93) (p0:L66) (p1:Bool) (k:(L66)→Option R):Option R:=ob (c63 p0) fun y0=>cond (!y0) (k (mt (Ty.den ty66))) (ob (c37 p0) fun y1=>ob (c93 p0 y1 (IntKind.wrap .i64 (Nat.cast p0.length-1)) p1 (mt (Ty.den ty66))) fun y2=>cond (B.lt (60) (↑y2.length)) (k (mt (Ty.den ty66))) (k y2))
theorem eq49 {R:Type} (B:Ops) (c63:C63) (c37:C37) (c93:C93) (p0:L66) (p1:Bool) (k:AV→Objs→Option R) (n:Nat):afun tau B gl0 X49 (ent 63 (e63 c63) (ent 37 (e37 c37) (ent 93 (e93 c93) gnil))) ow Tryz.f49 [.c (.list 66 ty66 p0),.c (.bool p1)] [] k n=T49 B c63 c37 c93 p0 p1 (K30 k):=by kernel_rfl
theorem nt49 {R R':Type} (B:Ops) (c63:C63) (c37:C37) (c93:C93) (p0:L66) (p1:Bool) (k0:(L66)→Option R') (k:R'→Option R):T49 B c63 c37 c93 p0 p1 (fun y=>ob (k0 y) k)=ob (T49 B c63 c37 c93 p0 p1 k0) k:=by
 unfold T49
 repeat' first | exact rfl | apply qaf | (apply qao;intro)
def F49 (c63:C63) (c37:C37) (c93:C93) (p0:L66) (p1:Bool):Option (L66):=T49 Ops.std c63 c37 c93 p0 p1 some
def e49 {R:Type} (c:L66→Bool→Option (L66)):Ent R:=fun args objs k=>
 oL args 66 ty66 fun p0 l0=>oCons l0 fun a1 l1=>oC a1 fun x1=>cBool x1 fun p1=>oE l1 objs <| ob (c p0 p1) (K30 k)
abbrev Sp49 (c:L66→Bool→Option (L66)):Prop:=∀ (p0:L66) (p1:Bool) (y:L66),c p0 p1=some y→Spec Tryz.prog gl0 49 [.c (.list 66 ty66 p0),.c (.bool p1)] [] (.c (.own 500)) [(500,.row 66 ty66 y)]
theorem ek49 {R:Type} {c:L66→Bool→Option (L66)} (hs:Sp49 c):EOk 49 (e49 (R:=R) c):=fun args objs k r h=>by
 unfold e49 at h
 obtain ⟨p0,l0,rfl,q3⟩:=qaw h
 obtain ⟨a1,l1,rfl,q4⟩:=qai q3
 obtain ⟨x1,rfl,q5⟩:=qa6 q4
 obtain ⟨p1,rfl,q6⟩:=qbq q5
 obtain ⟨rfl,rfl,q8⟩:=qan q6
 exact qap (hs p0 p1) q8
theorem sf49 {c63:C63} {c37:C37} {c93:C93} (h63:Sp63 c63) (h37:Sp37 c37) (h93:Sp93 c93):Sp49 (F49 c63 c37 c93):=fun p0 p1 y hy=>by
 refine qak (qae (ek63 h63) (qae (ek37 h37) (qae (ek93 h93) qaj))) 1000000 (fn:=Tryz.f49) (by kernel_rfl) (by kernel_rfl) (X:=X49) (by kernel_rfl) ?_
 rw [eq49]
 exact (nt49 Ops.std c63 c37 c93 p0 p1 some (K30 k0)).trans (by show ob (F49 c63 c37 c93 p0 p1) _=_;rw [hy];rfl)
noncomputable def M49:L66→Bool→Option (L66):=F49 M63 M37 M93
theorem sm49:Sp49 M49:=sf49 sm63 sm37 sm93
def X13:Aux:=⟨[],[]⟩
abbrev C49:Type:=L66→Bool→Option (L66)
def T13 {R:Type} (B:Ops) (c49:C49) (p0:L66) (k:(L66)→Option R):Option R:=ob (c49 p0 false) fun y0=>k y0
theorem eq13 {R:Type} (B:Ops) (c49:C49) (p0:L66) (k:AV→Objs→Option R) (n:Nat):afun tau B gl0 X13 (ent 49 (e49 c49) gnil) ow Tryz.f13 [.c (.list 66 ty66 p0)] [] k n=T13 B c49 p0 (K30 k):=by kernel_rfl
theorem nt13 {R R':Type} (B:Ops) (c49:C49) (p0:L66) (k0:(L66)→Option R') (k:R'→Option R):T13 B c49 p0 (fun y=>ob (k0 y) k)=ob (T13 B c49 p0 k0) k:=by
 unfold T13
 repeat' first | exact rfl | apply qaf | (apply qao;intro)
def F13 (c49:C49) (p0:L66):Option (L66):=T13 Ops.std c49 p0 some
def e13 {R:Type} (c:L66→Option (L66)):Ent R:=fun args objs k=>
 oL args 66 ty66 fun p0 l0=>oE l0 objs <| ob (c p0) (K30 k)
abbrev Sp13 (c:L66→Option (L66)):Prop:=∀ (p0:L66) (y:L66),c p0=some y→Spec Tryz.prog gl0 13 [.c (.list 66 ty66 p0)] [] (.c (.own 500)) [(500,.row 66 ty66 y)]
theorem ek13 {R:Type} {c:L66→Option (L66)} (hs:Sp13 c):EOk 13 (e13 (R:=R) c):=fun args objs k r h=>by
 unfold e13 at h
 obtain ⟨p0,l0,rfl,q3⟩:=qaw h
 obtain ⟨rfl,rfl,q5⟩:=qan q3
 exact qap (hs p0) q5
theorem sf13 {c49:C49} (h49:Sp49 c49):Sp13 (F13 c49):=fun p0 y hy=>by
 refine qak (qae (ek49 h49) qaj) 1000000 (fn:=Tryz.f13) (by kernel_rfl) (by kernel_rfl) (X:=X13) (by kernel_rfl) ?_
 rw [eq13]
 exact (nt13 Ops.std c49 p0 some (K30 k0)).trans (by show ob (F13 c49 p0) _=_;rw [hy];rfl)
noncomputable def M13:L66→Option (L66):=F13 M49
theorem sm13:Sp13 M13:=sf13 sm49
def X16:Aux:=⟨[],[]⟩
def T16 {R:Type} (B:Ops) (c49:C49) (p0:L66) (k:(L66)→Option R):Option R:=ob (c49 p0 true) fun y0=>k y0
theorem eq16 {R:Type} (B:Ops) (c49:C49) (p0:L66) (k:AV→Objs→Option R) (n:Nat):afun tau B gl0 X16 (ent 49 (e49 c49) gnil) ow Tryz.f16 [.c (.list 66 ty66 p0)] [] k n=T16 B c49 p0 (K30 k):=by kernel_rfl
theorem nt16 {R R':Type} (B:Ops) (c49:C49) (p0:L66) (k0:(L66)→Option R') (k:R'→Option R):T16 B c49 p0 (fun y=>ob (k0 y) k)=ob (T16 B c49 p0 k0) k:=by
 unfold T16
 repeat' first | exact rfl | apply qaf | (apply qao;intro)
def F16 (c49:C49) (p0:L66):Option (L66):=T16 Ops.std c49 p0 some
def e16 {R:Type} (c:L66→Option (L66)):Ent R:=fun args objs k=>
 oL args 66 ty66 fun p0 l0=>oE l0 objs <| ob (c p0) (K30 k)
abbrev Sp16 (c:L66→Option (L66)):Prop:=∀ (p0:L66) (y:L66),c p0=some y→Spec Tryz.prog gl0 16 [.c (.list 66 ty66 p0)] [] (.c (.own 500)) [(500,.row 66 ty66 y)]
theorem ek16 {R:Type} {c:L66→Option (L66)} (hs:Sp16 c):EOk 16 (e16 (R:=R) c):=fun args objs k r h=>by
 unfold e16 at h
 obtain ⟨p0,l0,rfl,q3⟩:=qaw h
 obtain ⟨rfl,rfl,q5⟩:=qan q3
 exact qap (hs p0) q5
theorem sf16 {c49:C49} (h49:Sp49 c49):Sp16 (F16 c49):=fun p0 y hy=>by
 refine qak (qae (ek49 h49) qaj) 1000000 (fn:=Tryz.f16) (by kernel_rfl) (by kernel_rfl) (X:=X16) (by kernel_rfl) ?_
 rw [eq16]
 exact (nt16 Ops.std c49 p0 some (K30 k0)).trans (by show ob (F16 c49 p0) _=_;rw [hy];rfl)
noncomputable def M16:L66→Option (L66):=F16 M49
theorem sm16:Sp16 M16:=sf16 sm49
def X19:Aux:=⟨[(2,([0,3,4]++rg 6 24))],[(4,.lin (rg 0 16))]⟩
inductive S19 where
 | l0 (v1:Int)
def T19 {R:Type} (B:Ops) (c62:C62) (c63:C63) (p0:L94) (p1:L98) (p2:L103) (p3:L66) (again:S19→Option R) (k:(Bool)→Option R):Option S19→Option R | none=>again (.l0 0) | some (.l0 v1)=>cond (B.lt v1 (↑p3.length)) (cond (B.inb v1 p3.length) (cond (B.eq ((p3.getD v1.toNat ty66.dflt).1) (3)) (cond (B.inb v1 p3.length) (ob (c62 p0 p1 p2 ((p3.getD v1.toNat ty66.dflt).2)) fun y0=>cond (!y0) (k false) (again (.l0 (IntKind.wrap .i64 (v1+1))))) none) (again (.l0 (IntKind.wrap .i64 (v1+1))))) none) (ob (c63 p3) fun y0=>k y0)
def E19 (p0:L94) (p1:L98) (p2:L103) (p3:L66):S19→List AV×Objs
 | .l0 v1=>(mk 30 [(1,.c (.list 66 ty66 p3)),(2,.c (.ptr 2 0)),(5,.c (.int .i64 v1))],[(2,.box 31 [.list 94 ty94 p0,.list 98 ty98 p1,.list 103 ty103 p2])])
def I19:S19→Nat
 | .l0 _=>0
theorem eq19 {R:Type} (B:Ops) (c62:C62) (c63:C63) (p0:L94) (p1:L98) (p2:L103) (p3:L66) (k:AV→Objs→Option R) (n:Nat):afun tau B gl0 X19 (ent 62 (e62 c62) (ent 63 (e63 c63) gnil)) ow Tryz.f19 [.agg [.list 94 ty94 p0,.list 98 ty98 p1,.list 103 ty103 p2],.c (.list 66 ty66 p3)] [] k n=T19 B c62 c63 p0 p1 p2 p3 (fun s=>aloop tau B gl0 X19 (ent 62 (e62 c62) (ent 63 (e63 c63) gnil)) ow [] Tryz.f19 k (I19 s) (E19 p0 p1 p2 p3 s) n) (K2 k) none:=by kernel_rfl
theorem el19 {R:Type} (B:Ops) (c62:C62) (c63:C63) (p0:L94) (p1:L98) (p2:L103) (p3:L66) (k:AV→Objs→Option R) (n:Nat):∀ s,aloop tau B gl0 X19 (ent 62 (e62 c62) (ent 63 (e63 c63) gnil)) ow [] Tryz.f19 k (I19 s) (E19 p0 p1 p2 p3 s) (n+1)=T19 B c62 c63 p0 p1 p2 p3 (fun s=>aloop tau B gl0 X19 (ent 62 (e62 c62) (ent 63 (e63 c63) gnil)) ow [] Tryz.f19 k (I19 s) (E19 p0 p1 p2 p3 s) n) (K2 k) (some s):=by
 intro s
 cases s<;>kernel_rfl
theorem nt19 {R R':Type} (B:Ops) (c62:C62) (c63:C63) (p0:L94) (p1:L98) (p2:L103) (p3:L66) (again:S19→Option R) (again':S19→Option R') (k0:(Bool)→Option R') (k:R'→Option R) (h:∀ s,again s=ob (again' s) k):∀ s,T19 B c62 c63 p0 p1 p2 p3 again (fun y=>ob (k0 y) k) s=ob (T19 B c62 c63 p0 p1 p2 p3 again' k0 s) k:=by
 rintro (_ | x)
 all_goals try cases x
 all_goals (unfold T19;repeat' first | exact rfl | exact h _ | apply qaf | (apply qao;intro))
def R19 (c62:C62) (c63:C63) (p0:L94) (p1:L98) (p2:L103) (p3:L66):Nat→S19→Option (Bool)
 | 0,_=>none
 | n+1,s=>T19 Ops.std c62 c63 p0 p1 p2 p3 (R19 c62 c63 p0 p1 p2 p3 n) some (some s)
theorem rr19 {R:Type} (c62:C62) (c63:C63) (p0:L94) (p1:L98) (p2:L103) (p3:L66) (k:AV→Objs→Option R):∀ (n:Nat) (s:S19),aloop tau Ops.std gl0 X19 (ent 62 (e62 c62) (ent 63 (e63 c63) gnil)) ow [] Tryz.f19 k (I19 s) (E19 p0 p1 p2 p3 s) n=ob (R19 c62 c63 p0 p1 p2 p3 n s) (K2 k)
 | 0,s=>by cases s<;>rfl
 | n+1,s=>by rw [el19];exact nt19 Ops.std c62 c63 p0 p1 p2 p3 _ _ some (K2 k) (rr19 c62 c63 p0 p1 p2 p3 k n) (some s)
def F19 (c62:C62) (c63:C63) (p0:L94) (p1:L98) (p2:L103) (p3:L66):Option (Bool):=T19 Ops.std c62 c63 p0 p1 p2 p3 (R19 c62 c63 p0 p1 p2 p3 1000000) some none
def e19 {R:Type} (c:L94→L98→L103→L66→Option (Bool)):Ent R:=fun args objs k=>
 oCons args fun a0 l0=>oAgg a0 fun x0=>cCons x0 fun z0_0 w0_0=>cList 94 ty94 z0_0 fun p0=>cCons w0_0 fun z0_1 w0_1=>cList 98 ty98 z0_1 fun p1=>cCons w0_1 fun z0_2 w0_2=>cList 103 ty103 z0_2 fun p2=>cNil w0_2 <| oL l0 66 ty66 fun p3 l1=>oE l1 objs <| ob (c p0 p1 p2 p3) (K2 k)
abbrev Sp19 (c:L94→L98→L103→L66→Option (Bool)):Prop:=∀ (p0:L94) (p1:L98) (p2:L103) (p3:L66) (y:Bool),c p0 p1 p2 p3=some y→Spec Tryz.prog gl0 19 [.agg [.list 94 ty94 p0,.list 98 ty98 p1,.list 103 ty103 p2],.c (.list 66 ty66 p3)] [] (.c (.bool y)) []
theorem ek19 {R:Type} {c:L94→L98→L103→L66→Option (Bool)} (hs:Sp19 c):EOk 19 (e19 (R:=R) c):=fun args objs k r h=>by
 unfold e19 at h
 obtain ⟨a0,l0,rfl,q1⟩:=qai h
 obtain ⟨x0,rfl,q2⟩:=qas q1
 obtain ⟨z0_0,w0_0,rfl,q3⟩:=qaa q2
 obtain ⟨p0,rfl,q4⟩:=qac q3
 obtain ⟨z0_1,w0_1,rfl,q5⟩:=qaa q4
 obtain ⟨p1,rfl,q6⟩:=qac q5
 obtain ⟨z0_2,w0_2,rfl,q7⟩:=qaa q6
 obtain ⟨p2,rfl,q8⟩:=qac q7
 obtain ⟨rfl,q9⟩:=qam q8
 obtain ⟨p3,l1,rfl,q12⟩:=qaw q9
 obtain ⟨rfl,rfl,q14⟩:=qan q12
 exact qap (hs p0 p1 p2 p3) q14
theorem sf19 {c62:C62} {c63:C63} (h62:Sp62 c62) (h63:Sp63 c63):Sp19 (F19 c62 c63):=fun p0 p1 p2 p3 y hy=>by
 refine qak (qae (ek62 h62) (qae (ek63 h63) qaj)) 1000000 (fn:=Tryz.f19) (by kernel_rfl) (by kernel_rfl) (X:=X19) (by kernel_rfl) ?_
 rw [eq19]
 exact (nt19 Ops.std c62 c63 p0 p1 p2 p3 _ _ some (K2 k0) (rr19 c62 c63 p0 p1 p2 p3 k0 1000000) none).trans (by show ob (F19 c62 c63 p0 p1 p2 p3) _=_;rw [hy];rfl)
noncomputable def M19:L94→L98→L103→L66→Option (Bool):=F19 M62 M63
theorem sm19:Sp19 M19:=sf19 sm62 sm63
def X30:Aux:=⟨[(3,([0,3]++rg 7 65)),(7,([0,3,6]++rg 8 64))],[(5,.lin (rg 0 18)),(9,.lin (rg 0 33))]⟩
inductive S30 where
 | l0 (v1:Int) (v7:L3)
 | l1 (v1:Int) (v7:L3) (v8:L3)
def T30 {R:Type} (B:Ops) (c29:C29) (p0:L94) (p1:L98) (p2:L103) (p3:Int) (again:S30→Option R) (k:(L3×L3)→Option R):Option S30→Option R | none=>again (.l0 0 (mt (Ty.den (Ty.int .i64)))) | some (.l0 v1 v7)=>cond (B.lt v1 (↑p1.length)) (cond (B.eq (IntKind.wrap .i64 (1+v1)) (0)) none (cond (B.inb v1 p1.length) (ob (c29 (IntKind.wrap .i64 (Int.tdiv p3 (IntKind.wrap .i64 (1+v1)))) (Nat.cast (List.length ((p1.getD v1.toNat ty98.dflt).2)))) fun y0=>cond (B.lim (List.length v7+List.length (y0::mt (Ty.den (Ty.int .i64)))) (8)) (again (.l0 (IntKind.wrap .i64 (v1+1)) (v7++y0::mt (Ty.den (Ty.int .i64))))) none) none)) (again (.l1 0 v7 ((mt (Ty.den (Ty.int .i64)))))) | some (.l1 v1 v7 v8)=>cond (B.lt v1 (↑p0.length)) (cond (B.inb v1 p0.length) (cond (B.eq (IntKind.wrap .i64 (3+IntKind.wrap .i64 (4*v1))) (0)) none (cond (B.inb v1 p0.length) (cond (B.inb v1 p0.length) (ob (c29 (IntKind.wrap .i64 (Int.tdiv p3 (IntKind.wrap .i64 (3+IntKind.wrap .i64 (4*v1))))) (IntKind.wrap .i64 (IntKind.wrap .i64 ((((p0.getD v1.toNat ty94.dflt).2).2).1-((p0.getD v1.toNat ty94.dflt).2).1)+1))) fun y0=>cond (B.lim (List.length v8+List.length (IntKind.wrap .i64 (((p0.getD v1.toNat ty94.dflt).2).1+y0)::mt (Ty.den (Ty.int .i64)))) (8)) (again (.l1 (IntKind.wrap .i64 (v1+1)) v7 (v8++IntKind.wrap .i64 (((p0.getD v1.toNat ty94.dflt).2).1+y0)::mt (Ty.den (Ty.int .i64))))) none) none) none)) none) (k ((v7,v8)))
def E30 (p0:L94) (p1:L98) (p2:L103) (p3:Int):S30→List AV×Objs
 | .l0 v1 v7=>(mk 72 [(1,.c (.int .i64 p3)),(2,.c (.ptr 2 0)),(4,.c (.ptr 4 0)),(5,.c (.ptr 5 0)),(6,.c (.int .i64 v1))],[(2,.box 31 [.list 94 ty94 p0,.list 98 ty98 p1,.list 103 ty103 p2]),(4,.box 57 [.own 5000,.own 5001]),(5,.box 57 [.own 6000,.own 6001]),(5000,.row 3 ty3 (mt (Ty.den (Ty.int .i64)))),(5001,.row 3 ty3 (mt (Ty.den (Ty.int .i64)))),(6000,.row 3 ty3 v7),(6001,.row 3 ty3 (mt (Ty.den (Ty.int .i64))))])
 | .l1 v1 v7 v8=>(mk 72 [(1,.c (.int .i64 p3)),(2,.c (.ptr 2 0)),(4,.c (.ptr 4 0)),(5,.c (.ptr 5 0)),(7,.c (.int .i64 v1))],[(2,.box 31 [.list 94 ty94 p0,.list 98 ty98 p1,.list 103 ty103 p2]),(4,.box 57 [.own 5000,.own 5001]),(5,.box 57 [.own 6000,.own 6001]),(5000,.row 3 ty3 (mt (Ty.den (Ty.int .i64)))),(5001,.row 3 ty3 (mt (Ty.den (Ty.int .i64)))),(6000,.row 3 ty3 v7),(6001,.row 3 ty3 v8)])
def I30:S30→Nat
 | .l0 _ _=>0
 | .l1 _ _ _=>1
abbrev K31 {R:Type} (k:AV→Objs→Option R) (y:(L3×L3)):Option R:=k (.agg [.list 3 ty3 y.1,.list 3 ty3 y.2]) []
theorem eq30 {R:Type} (B:Ops) (c29:C29) (p0:L94) (p1:L98) (p2:L103) (p3:Int) (k:AV→Objs→Option R) (n:Nat):afun tau B gl0 X30 (ent 29 (e29 c29) gnil) ow Tryz.f30 [.agg [.list 94 ty94 p0,.list 98 ty98 p1,.list 103 ty103 p2],.c (.int .i64 p3)] [] k n=T30 B c29 p0 p1 p2 p3 (fun s=>aloop tau B gl0 X30 (ent 29 (e29 c29) gnil) ow [] Tryz.f30 k (I30 s) (E30 p0 p1 p2 p3 s) n) (K31 k) none:=by kernel_rfl
theorem el30 {R:Type} (B:Ops) (c29:C29) (p0:L94) (p1:L98) (p2:L103) (p3:Int) (k:AV→Objs→Option R) (n:Nat):∀ s,aloop tau B gl0 X30 (ent 29 (e29 c29) gnil) ow [] Tryz.f30 k (I30 s) (E30 p0 p1 p2 p3 s) (n+1)=T30 B c29 p0 p1 p2 p3 (fun s=>aloop tau B gl0 X30 (ent 29 (e29 c29) gnil) ow [] Tryz.f30 k (I30 s) (E30 p0 p1 p2 p3 s) n) (K31 k) (some s):=by
 intro s
 cases s<;>kernel_rfl
theorem nt30 {R R':Type} (B:Ops) (c29:C29) (p0:L94) (p1:L98) (p2:L103) (p3:Int) (again:S30→Option R) (again':S30→Option R') (k0:(L3×L3)→Option R') (k:R'→Option R) (h:∀ s,again s=ob (again' s) k):∀ s,T30 B c29 p0 p1 p2 p3 again (fun y=>ob (k0 y) k) s=ob (T30 B c29 p0 p1 p2 p3 again' k0 s) k:=by
 rintro (_ | x)
 all_goals try cases x
 all_goals (unfold T30;repeat' first | exact rfl | exact h _ | apply qaf | (apply qao;intro))
def R30 (c29:C29) (p0:L94) (p1:L98) (p2:L103) (p3:Int):Nat→S30→Option (L3×L3)
 | 0,_=>none
 | n+1,s=>T30 Ops.std c29 p0 p1 p2 p3 (R30 c29 p0 p1 p2 p3 n) some (some s)
theorem rr30 {R:Type} (c29:C29) (p0:L94) (p1:L98) (p2:L103) (p3:Int) (k:AV→Objs→Option R):∀ (n:Nat) (s:S30),aloop tau Ops.std gl0 X30 (ent 29 (e29 c29) gnil) ow [] Tryz.f30 k (I30 s) (E30 p0 p1 p2 p3 s) n=ob (R30 c29 p0 p1 p2 p3 n s) (K31 k)
 | 0,s=>by cases s<;>rfl
 | n+1,s=>by rw [el30];exact nt30 Ops.std c29 p0 p1 p2 p3 _ _ some (K31 k) (rr30 c29 p0 p1 p2 p3 k n) (some s)
def F30 (c29:C29) (p0:L94) (p1:L98) (p2:L103) (p3:Int):Option (L3×L3):=T30 Ops.std c29 p0 p1 p2 p3 (R30 c29 p0 p1 p2 p3 1000000) some none
def e30 {R:Type} (c:L94→L98→L103→Int→Option (L3×L3)):Ent R:=fun args objs k=>
 oCons args fun a0 l0=>oAgg a0 fun x0=>cCons x0 fun z0_0 w0_0=>cList 94 ty94 z0_0 fun p0=>cCons w0_0 fun z0_1 w0_1=>cList 98 ty98 z0_1 fun p1=>cCons w0_1 fun z0_2 w0_2=>cList 103 ty103 z0_2 fun p2=>cNil w0_2 <| oI l0 .i64 fun p3 l1=>oE l1 objs <| ob (c p0 p1 p2 p3) (K31 k)
abbrev Sp30 (c:L94→L98→L103→Int→Option (L3×L3)):Prop:=∀ (p0:L94) (p1:L98) (p2:L103) (p3:Int) (y:L3×L3),c p0 p1 p2 p3=some y→Spec Tryz.prog gl0 30 [.agg [.list 94 ty94 p0,.list 98 ty98 p1,.list 103 ty103 p2],.c (.int .i64 p3)] [] (.agg [.list 3 ty3 y.1,.list 3 ty3 y.2]) []
theorem ek30 {R:Type} {c:L94→L98→L103→Int→Option (L3×L3)} (hs:Sp30 c):EOk 30 (e30 (R:=R) c):=fun args objs k r h=>by
 unfold e30 at h
 obtain ⟨a0,l0,rfl,q1⟩:=qai h
 obtain ⟨x0,rfl,q2⟩:=qas q1
 obtain ⟨z0_0,w0_0,rfl,q3⟩:=qaa q2
 obtain ⟨p0,rfl,q4⟩:=qac q3
 obtain ⟨z0_1,w0_1,rfl,q5⟩:=qaa q4
 obtain ⟨p1,rfl,q6⟩:=qac q5
 obtain ⟨z0_2,w0_2,rfl,q7⟩:=qaa q6
 obtain ⟨p2,rfl,q8⟩:=qac q7
 obtain ⟨rfl,q9⟩:=qam q8
 obtain ⟨p3,l1,rfl,q12⟩:=qau q9
 obtain ⟨rfl,rfl,q14⟩:=qan q12
 exact qap (hs p0 p1 p2 p3) q14
theorem sf30 {c29:C29} (h29:Sp29 c29):Sp30 (F30 c29):=fun p0 p1 p2 p3 y hy=>by
 refine qak (qae (ek29 h29) qaj) 1000000 (fn:=Tryz.f30) (by kernel_rfl) (by kernel_rfl) (X:=X30) (by kernel_rfl) ?_
 rw [eq30]
 exact (nt30 Ops.std c29 p0 p1 p2 p3 _ _ some (K31 k0) (rr30 c29 p0 p1 p2 p3 k0 1000000) none).trans (by show ob (F30 c29 p0 p1 p2 p3) _=_;rw [hy];rfl)
noncomputable def M30:L94→L98→L103→Int→Option (L3×L3):=F30 M29
theorem sm30:Sp30 M30:=sf30 sm29
def X20:Aux:=⟨[(3,([0,4,5]++rg 9 55)),(7,([0,1,4,5,8]++rg 10 54))],[(5,.lin (rg 0 13)),(9,.lin (rg 0 13))]⟩
inductive S20 where
 | l0 (v2:Int) (v8:L68)
 | l1 (v1:Int) (v7:L68) (v8:L68)
abbrev C30:Type:=L94→L98→L103→Int→Option (L3×L3)
def T20 {R:Type} (B:Ops) (c30:C30) (p0:L94) (p1:L98) (p2:L103) (p3:L3) (p4:L3) (again:S20→Option R) (k:(L68×L68)→Option R):Option S20→Option R | none=>again (.l0 0 (mt (Ty.den ty68))) | some (.l0 v2 v8)=>cond (B.lt v2 (↑p3.length)) (cond (B.lt v2 (6)) (cond (B.inb v2 p3.length) (ob (c30 p0 p1 p2 (p3.getD v2.toNat ty3.dflt)) fun y0=>cond (B.lim (List.length v8+List.length (((y0.1,y0.2),mt (Ty.den (Ty.int .i64)))::mt (Ty.den ty68))) (72)) (again (.l0 (IntKind.wrap .i64 (v2+1)) (v8++((y0.1,y0.2),mt (Ty.den (Ty.int .i64)))::mt (Ty.den ty68)))) none) none) (again (.l1 0 v8 ((mt (Ty.den ty68)))))) (again (.l1 0 v8 ((mt (Ty.den ty68))))) | some (.l1 v1 v7 v8)=>cond (B.lt v1 (↑p4.length)) (cond (B.lt v1 (6)) (cond (B.inb v1 p4.length) (ob (c30 p0 p1 p2 (p4.getD v1.toNat ty3.dflt)) fun y0=>cond (B.lim (List.length v8+List.length (((y0.1,y0.2),mt (Ty.den (Ty.int .i64)))::mt (Ty.den ty68))) (72)) (again (.l1 (IntKind.wrap .i64 (v1+1)) v7 (v8++((y0.1,y0.2),mt (Ty.den (Ty.int .i64)))::mt (Ty.den ty68)))) none) none) (cond (B.eq (↑v8.length) (0)) (ob (c30 p0 p1 p2 (0)) fun y0=>k ((v7,((y0.1,y0.2),mt (Ty.den (Ty.int .i64)))::mt (Ty.den ty68)))) (k ((v7,v8))))) (cond (B.eq (↑v8.length) (0)) (ob (c30 p0 p1 p2 (0)) fun y0=>k ((v7,((y0.1,y0.2),mt (Ty.den (Ty.int .i64)))::mt (Ty.den ty68)))) (k ((v7,v8))))
def E20 (p0:L94) (p1:L98) (p2:L103) (p3:L3) (p4:L3):S20→List AV×Objs
 | .l0 v2 v8=>(mk 64 [(1,.c (.list 3 ty3 p3)),(2,.c (.list 3 ty3 p4)),(3,.c (.ptr 3 0)),(6,.c (.ptr 6 0)),(7,.c (.ptr 7 0)),(8,.c (.int .i64 v2))],[(3,.box 31 [.list 94 ty94 p0,.list 98 ty98 p1,.list 103 ty103 p2]),(6,.box 41 [.own 7000,.own 7001]),(7,.box 41 [.own 8000,.own 8001]),(7000,.row 68 ty68 (mt (Ty.den ty68))),(7001,.row 68 ty68 (mt (Ty.den ty68))),(8000,.row 68 ty68 v8),(8001,.row 68 ty68 (mt (Ty.den ty68)))])
 | .l1 v1 v7 v8=>(mk 64 [(2,.c (.list 3 ty3 p4)),(3,.c (.ptr 3 0)),(6,.c (.ptr 6 0)),(7,.c (.ptr 7 0)),(9,.c (.int .i64 v1))],[(3,.box 31 [.list 94 ty94 p0,.list 98 ty98 p1,.list 103 ty103 p2]),(6,.box 41 [.own 7000,.own 7001]),(7,.box 41 [.own 8000,.own 8001]),(7000,.row 68 ty68 (mt (Ty.den ty68))),(7001,.row 68 ty68 (mt (Ty.den ty68))),(8000,.row 68 ty68 v7),(8001,.row 68 ty68 v8)])
def I20:S20→Nat
 | .l0 _ _=>0
 | .l1 _ _ _=>1
abbrev K32 {R:Type} (k:AV→Objs→Option R) (y:(L68×L68)):Option R:=k (.agg [.list 68 ty68 y.1,.list 68 ty68 y.2]) []
theorem eq20 {R:Type} (B:Ops) (c30:C30) (p0:L94) (p1:L98) (p2:L103) (p3:L3) (p4:L3) (k:AV→Objs→Option R) (n:Nat):afun tau B gl0 X20 (ent 30 (e30 c30) gnil) ow Tryz.f20 [.agg [.list 94 ty94 p0,.list 98 ty98 p1,.list 103 ty103 p2],.c (.list 3 ty3 p3),.c (.list 3 ty3 p4)] [] k n=T20 B c30 p0 p1 p2 p3 p4 (fun s=>aloop tau B gl0 X20 (ent 30 (e30 c30) gnil) ow [] Tryz.f20 k (I20 s) (E20 p0 p1 p2 p3 p4 s) n) (K32 k) none:=by kernel_rfl
theorem el20 {R:Type} (B:Ops) (c30:C30) (p0:L94) (p1:L98) (p2:L103) (p3:L3) (p4:L3) (k:AV→Objs→Option R) (n:Nat):∀ s,aloop tau B gl0 X20 (ent 30 (e30 c30) gnil) ow [] Tryz.f20 k (I20 s) (E20 p0 p1 p2 p3 p4 s) (n+1)=T20 B c30 p0 p1 p2 p3 p4 (fun s=>aloop tau B gl0 X20 (ent 30 (e30 c30) gnil) ow [] Tryz.f20 k (I20 s) (E20 p0 p1 p2 p3 p4 s) n) (K32 k) (some s):=by
 intro s
 cases s<;>kernel_rfl
theorem nt20 {R R':Type} (B:Ops) (c30:C30) (p0:L94) (p1:L98) (p2:L103) (p3:L3) (p4:L3) (again:S20→Option R) (again':S20→Option R') (k0:(L68×L68)→Option R') (k:R'→Option R) (h:∀ s,again s=ob (again' s) k):∀ s,T20 B c30 p0 p1 p2 p3 p4 again (fun y=>ob (k0 y) k) s=ob (T20 B c30 p0 p1 p2 p3 p4 again' k0 s) k:=by
 rintro (_ | x)
 all_goals try cases x
 all_goals (unfold T20;repeat' first | exact rfl | exact h _ | apply qaf | (apply qao;intro))
def R20 (c30:C30) (p0:L94) (p1:L98) (p2:L103) (p3:L3) (p4:L3):Nat→S20→Option (L68×L68)
 | 0,_=>none
 | n+1,s=>T20 Ops.std c30 p0 p1 p2 p3 p4 (R20 c30 p0 p1 p2 p3 p4 n) some (some s)
theorem rr20 {R:Type} (c30:C30) (p0:L94) (p1:L98) (p2:L103) (p3:L3) (p4:L3) (k:AV→Objs→Option R):∀ (n:Nat) (s:S20),aloop tau Ops.std gl0 X20 (ent 30 (e30 c30) gnil) ow [] Tryz.f20 k (I20 s) (E20 p0 p1 p2 p3 p4 s) n=ob (R20 c30 p0 p1 p2 p3 p4 n s) (K32 k)
 | 0,s=>by cases s<;>rfl
 | n+1,s=>by rw [el20];exact nt20 Ops.std c30 p0 p1 p2 p3 p4 _ _ some (K32 k) (rr20 c30 p0 p1 p2 p3 p4 k n) (some s)
def F20 (c30:C30) (p0:L94) (p1:L98) (p2:L103) (p3:L3) (p4:L3):Option (L68×L68):=T20 Ops.std c30 p0 p1 p2 p3 p4 (R20 c30 p0 p1 p2 p3 p4 1000000) some none
def e20 {R:Type} (c:L94→L98→L103→L3→L3→Option (L68×L68)):Ent R:=fun args objs k=>
 oCons args fun a0 l0=>oAgg a0 fun x0=>cCons x0 fun z0_0 w0_0=>cList 94 ty94 z0_0 fun p0=>cCons w0_0 fun z0_1 w0_1=>cList 98 ty98 z0_1 fun p1=>cCons w0_1 fun z0_2 w0_2=>cList 103 ty103 z0_2 fun p2=>cNil w0_2 <| oL l0 3 ty3 fun p3 l1=>oL l1 3 ty3 fun p4 l2=>oE l2 objs <| ob (c p0 p1 p2 p3 p4) (K32 k)
abbrev Sp20 (c:L94→L98→L103→L3→L3→Option (L68×L68)):Prop:=∀ (p0:L94) (p1:L98) (p2:L103) (p3:L3) (p4:L3) (y:L68×L68),c p0 p1 p2 p3 p4=some y→Spec Tryz.prog gl0 20 [.agg [.list 94 ty94 p0,.list 98 ty98 p1,.list 103 ty103 p2],.c (.list 3 ty3 p3),.c (.list 3 ty3 p4)] [] (.agg [.list 68 ty68 y.1,.list 68 ty68 y.2]) []
theorem ek20 {R:Type} {c:L94→L98→L103→L3→L3→Option (L68×L68)} (hs:Sp20 c):EOk 20 (e20 (R:=R) c):=fun args objs k r h=>by
 unfold e20 at h
 obtain ⟨a0,l0,rfl,q1⟩:=qai h
 obtain ⟨x0,rfl,q2⟩:=qas q1
 obtain ⟨z0_0,w0_0,rfl,q3⟩:=qaa q2
 obtain ⟨p0,rfl,q4⟩:=qac q3
 obtain ⟨z0_1,w0_1,rfl,q5⟩:=qaa q4
 obtain ⟨p1,rfl,q6⟩:=qac q5
 obtain ⟨z0_2,w0_2,rfl,q7⟩:=qaa q6
 obtain ⟨p2,rfl,q8⟩:=qac q7
 obtain ⟨rfl,q9⟩:=qam q8
 obtain ⟨p3,l1,rfl,q12⟩:=qaw q9
 obtain ⟨p4,l2,rfl,q15⟩:=qaw q12
 obtain ⟨rfl,rfl,q17⟩:=qan q15
 exact qap (hs p0 p1 p2 p3 p4) q17
theorem sf20 {c30:C30} (h30:Sp30 c30):Sp20 (F20 c30):=fun p0 p1 p2 p3 p4 y hy=>by
 refine qak (qae (ek30 h30) qaj) 1000000 (fn:=Tryz.f20) (by kernel_rfl) (by kernel_rfl) (X:=X20) (by kernel_rfl) ?_
 rw [eq20]
 exact (nt20 Ops.std c30 p0 p1 p2 p3 p4 _ _ some (K32 k0) (rr20 c30 p0 p1 p2 p3 p4 k0 1000000) none).trans (by show ob (F20 c30 p0 p1 p2 p3 p4) _=_;rw [hy];rfl)
noncomputable def M20:L94→L98→L103→L3→L3→Option (L68×L68):=F20 M30
theorem sm20:Sp20 M20:=sf20 sm30
def X139:Aux:=⟨[(4,([0,1,4]++rg 6 78)),(9,([0,1,4,5]++rg 7 77))],[(6,.lin (rg 0 21)),(11,.lin (rg 0 26))]⟩
inductive S139 where
 | l0 (v0:Int)
 | l1 (v0:Int)
def T139 {R:Type} (B:Ops) (p0:L94) (p1:L98) (p2:L103) (p3:L3) (p4:L3) (again:S139→Option R) (k:(Bool)→Option R):Option S139→Option R | none=>cond (!B.eq (↑p3.length) (↑p1.length)) (k false) (cond (!B.eq (↑p4.length) (↑p0.length)) (k false) (again (.l0 0))) | some (.l0 v0)=>cond (B.lt v0 (↑p3.length)) (cond (B.inb v0 p3.length) (cond (B.lt (p3.getD v0.toNat ty3.dflt) (0)) (k false) (cond (B.inb v0 p3.length) (cond (B.inb v0 p1.length) (cond (B.le (Nat.cast (List.length ((p1.getD v0.toNat ty98.dflt).2))) (p3.getD v0.toNat ty3.dflt)) (k false) (again (.l0 (IntKind.wrap .i64 (v0+1))))) none) none)) none) (again (.l1 0)) | some (.l1 v0)=>cond (B.lt v0 (↑p4.length)) (cond (B.inb v0 p4.length) (cond (B.inb v0 p0.length) (cond (B.lt (p4.getD v0.toNat ty3.dflt) (((p0.getD v0.toNat ty94.dflt).2).1)) (k false) (cond (B.inb v0 p4.length) (cond (B.inb v0 p0.length) (cond (B.lt ((((p0.getD v0.toNat ty94.dflt).2).2).1) (p4.getD v0.toNat ty3.dflt)) (k false) (again (.l1 (IntKind.wrap .i64 (v0+1))))) none) none)) none) none) (k true)
def E139 (p0:L94) (p1:L98) (p2:L103) (p3:L3) (p4:L3):S139→List AV×Objs
 | .l0 v0=>(mk 84 [(2,.c (.ptr 2 0)),(3,.c (.ptr 3 0)),(5,.c (.int .i64 v0))],[(2,.box 31 [.list 94 ty94 p0,.list 98 ty98 p1,.list 103 ty103 p2]),(3,.box 57 [.list 3 ty3 p3,.list 3 ty3 p4])])
 | .l1 v0=>(mk 84 [(2,.c (.ptr 2 0)),(3,.c (.ptr 3 0)),(6,.c (.int .i64 v0))],[(2,.box 31 [.list 94 ty94 p0,.list 98 ty98 p1,.list 103 ty103 p2]),(3,.box 57 [.list 3 ty3 p3,.list 3 ty3 p4])])
def I139:S139→Nat
 | .l0 _=>0
 | .l1 _=>1
theorem eq139 {R:Type} (B:Ops) (p0:L94) (p1:L98) (p2:L103) (p3:L3) (p4:L3) (k:AV→Objs→Option R) (n:Nat):afun tau B gl0 X139 gnil ow Tryz.f139 [.agg [.list 94 ty94 p0,.list 98 ty98 p1,.list 103 ty103 p2],.agg [.list 3 ty3 p3,.list 3 ty3 p4]] [] k n=T139 B p0 p1 p2 p3 p4 (fun s=>aloop tau B gl0 X139 gnil ow [] Tryz.f139 k (I139 s) (E139 p0 p1 p2 p3 p4 s) n) (K2 k) none:=by kernel_rfl
theorem el139 {R:Type} (B:Ops) (p0:L94) (p1:L98) (p2:L103) (p3:L3) (p4:L3) (k:AV→Objs→Option R) (n:Nat):∀ s,aloop tau B gl0 X139 gnil ow [] Tryz.f139 k (I139 s) (E139 p0 p1 p2 p3 p4 s) (n+1)=T139 B p0 p1 p2 p3 p4 (fun s=>aloop tau B gl0 X139 gnil ow [] Tryz.f139 k (I139 s) (E139 p0 p1 p2 p3 p4 s) n) (K2 k) (some s):=by
 intro s
 cases s<;>kernel_rfl
theorem nt139 {R R':Type} (B:Ops) (p0:L94) (p1:L98) (p2:L103) (p3:L3) (p4:L3) (again:S139→Option R) (again':S139→Option R') (k0:(Bool)→Option R') (k:R'→Option R) (h:∀ s,again s=ob (again' s) k):∀ s,T139 B p0 p1 p2 p3 p4 again (fun y=>ob (k0 y) k) s=ob (T139 B p0 p1 p2 p3 p4 again' k0 s) k:=by
 rintro (_ | x)
 all_goals try cases x
 all_goals (unfold T139;repeat' first | exact rfl | exact h _ | apply qaf | (apply qao;intro))
def R139 (p0:L94) (p1:L98) (p2:L103) (p3:L3) (p4:L3):Nat→S139→Option (Bool)
 | 0,_=>none
 | n+1,s=>T139 Ops.std p0 p1 p2 p3 p4 (R139 p0 p1 p2 p3 p4 n) some (some s)
theorem rr139 {R:Type} (p0:L94) (p1:L98) (p2:L103) (p3:L3) (p4:L3) (k:AV→Objs→Option R):∀ (n:Nat) (s:S139),aloop tau Ops.std gl0 X139 gnil ow [] Tryz.f139 k (I139 s) (E139 p0 p1 p2 p3 p4 s) n=ob (R139 p0 p1 p2 p3 p4 n s) (K2 k)
 | 0,s=>by cases s<;>rfl
 | n+1,s=>by rw [el139];exact nt139 Ops.std p0 p1 p2 p3 p4 _ _ some (K2 k) (rr139 p0 p1 p2 p3 p4 k n) (some s)
def F139 (p0:L94) (p1:L98) (p2:L103) (p3:L3) (p4:L3):Option (Bool):=T139 Ops.std p0 p1 p2 p3 p4 (R139 p0 p1 p2 p3 p4 1000000) some none
def e139 {R:Type} (c:L94→L98→L103→L3→L3→Option (Bool)):Ent R:=fun args objs k=>
 oCons args fun a0 l0=>oAgg a0 fun x0=>cCons x0 fun z0_0 w0_0=>cList 94 ty94 z0_0 fun p0=>cCons w0_0 fun z0_1 w0_1=>cList 98 ty98 z0_1 fun p1=>cCons w0_1 fun z0_2 w0_2=>cList 103 ty103 z0_2 fun p2=>cNil w0_2 <| oCons l0 fun a1 l1=>oAgg a1 fun x1=>cCons x1 fun z1_0 w1_0=>cList 3 ty3 z1_0 fun p3=>cCons w1_0 fun z1_1 w1_1=>cList 3 ty3 z1_1 fun p4=>cNil w1_1 <| oE l1 objs <| ob (c p0 p1 p2 p3 p4) (K2 k)
abbrev Sp139 (c:L94→L98→L103→L3→L3→Option (Bool)):Prop:=∀ (p0:L94) (p1:L98) (p2:L103) (p3:L3) (p4:L3) (y:Bool),c p0 p1 p2 p3 p4=some y→Spec Tryz.prog gl0 139 [.agg [.list 94 ty94 p0,.list 98 ty98 p1,.list 103 ty103 p2],.agg [.list 3 ty3 p3,.list 3 ty3 p4]] [] (.c (.bool y)) []
theorem ek139 {R:Type} {c:L94→L98→L103→L3→L3→Option (Bool)} (hs:Sp139 c):EOk 139 (e139 (R:=R) c):=fun args objs k r h=>by
 unfold e139 at h
 obtain ⟨a0,l0,rfl,q1⟩:=qai h
 obtain ⟨x0,rfl,q2⟩:=qas q1
 obtain ⟨z0_0,w0_0,rfl,q3⟩:=qaa q2
 obtain ⟨p0,rfl,q4⟩:=qac q3
 obtain ⟨z0_1,w0_1,rfl,q5⟩:=qaa q4
 obtain ⟨p1,rfl,q6⟩:=qac q5
 obtain ⟨z0_2,w0_2,rfl,q7⟩:=qaa q6
 obtain ⟨p2,rfl,q8⟩:=qac q7
 obtain ⟨rfl,q9⟩:=qam q8
 obtain ⟨a1,l1,rfl,q10⟩:=qai q9
 obtain ⟨x1,rfl,q11⟩:=qas q10
 obtain ⟨z1_0,w1_0,rfl,q12⟩:=qaa q11
 obtain ⟨p3,rfl,q13⟩:=qac q12
 obtain ⟨z1_1,w1_1,rfl,q14⟩:=qaa q13
 obtain ⟨p4,rfl,q15⟩:=qac q14
 obtain ⟨rfl,q16⟩:=qam q15
 obtain ⟨rfl,rfl,q18⟩:=qan q16
 exact qap (hs p0 p1 p2 p3 p4) q18
theorem sf139:Sp139 (F139):=fun p0 p1 p2 p3 p4 y hy=>by
 refine qak qaj 1000000 (fn:=Tryz.f139) (by kernel_rfl) (by kernel_rfl) (X:=X139) (by kernel_rfl) ?_
 rw [eq139]
 exact (nt139 Ops.std p0 p1 p2 p3 p4 _ _ some (K2 k0) (rr139 p0 p1 p2 p3 p4 k0 1000000) none).trans (by show ob (F139 p0 p1 p2 p3 p4) _=_;rw [hy];rfl)
noncomputable def M139:L94→L98→L103→L3→L3→Option (Bool):=F139
theorem sm139:Sp139 M139:=sf139
def X81:Aux:=⟨[],[]⟩
abbrev C18:Type:=L94→L98→L103→Option (Bool)
abbrev C139:Type:=L94→L98→L103→L3→L3→Option (Bool)
def T81 {R:Type} (B:Ops) (c18:C18) (c139:C139) (p0:L94) (p1:L98) (p2:L103) (p3:L3) (p4:L3) (k:(Bool)→Option R):Option R:=ob (c18 p0 p1 p2) fun y0=>cond (!y0) (k false) (ob (c139 p0 p1 p2 p3 p4) fun y1=>k y1)
theorem eq81 {R:Type} (B:Ops) (c18:C18) (c139:C139) (p0:L94) (p1:L98) (p2:L103) (p3:L3) (p4:L3) (k:AV→Objs→Option R) (n:Nat):afun tau B gl0 X81 (ent 18 (e18 c18) (ent 139 (e139 c139) gnil)) ow Tryz.f81 [.agg [.list 94 ty94 p0,.list 98 ty98 p1,.list 103 ty103 p2],.agg [.list 3 ty3 p3,.list 3 ty3 p4]] [] k n=T81 B c18 c139 p0 p1 p2 p3 p4 (K2 k):=by kernel_rfl
theorem nt81 {R R':Type} (B:Ops) (c18:C18) (c139:C139) (p0:L94) (p1:L98) (p2:L103) (p3:L3) (p4:L3) (k0:(Bool)→Option R') (k:R'→Option R):T81 B c18 c139 p0 p1 p2 p3 p4 (fun y=>ob (k0 y) k)=ob (T81 B c18 c139 p0 p1 p2 p3 p4 k0) k:=by
 unfold T81
 repeat' first | exact rfl | apply qaf | (apply qao;intro)
def F81 (c18:C18) (c139:C139) (p0:L94) (p1:L98) (p2:L103) (p3:L3) (p4:L3):Option (Bool):=T81 Ops.std c18 c139 p0 p1 p2 p3 p4 some
def e81 {R:Type} (c:L94→L98→L103→L3→L3→Option (Bool)):Ent R:=fun args objs k=>
 oCons args fun a0 l0=>oAgg a0 fun x0=>cCons x0 fun z0_0 w0_0=>cList 94 ty94 z0_0 fun p0=>cCons w0_0 fun z0_1 w0_1=>cList 98 ty98 z0_1 fun p1=>cCons w0_1 fun z0_2 w0_2=>cList 103 ty103 z0_2 fun p2=>cNil w0_2 <| oCons l0 fun a1 l1=>oAgg a1 fun x1=>cCons x1 fun z1_0 w1_0=>cList 3 ty3 z1_0 fun p3=>cCons w1_0 fun z1_1 w1_1=>cList 3 ty3 z1_1 fun p4=>cNil w1_1 <| oE l1 objs <| ob (c p0 p1 p2 p3 p4) (K2 k)
abbrev Sp81 (c:L94→L98→L103→L3→L3→Option (Bool)):Prop:=∀ (p0:L94) (p1:L98) (p2:L103) (p3:L3) (p4:L3) (y:Bool),c p0 p1 p2 p3 p4=some y→Spec Tryz.prog gl0 81 [.agg [.list 94 ty94 p0,.list 98 ty98 p1,.list 103 ty103 p2],.agg [.list 3 ty3 p3,.list 3 ty3 p4]] [] (.c (.bool y)) []
theorem ek81 {R:Type} {c:L94→L98→L103→L3→L3→Option (Bool)} (hs:Sp81 c):EOk 81 (e81 (R:=R) c):=fun args objs k r h=>by
 unfold e81 at h
 obtain ⟨a0,l0,rfl,q1⟩:=qai h
 obtain ⟨x0,rfl,q2⟩:=qas q1
 obtain ⟨z0_0,w0_0,rfl,q3⟩:=qaa q2
 obtain ⟨p0,rfl,q4⟩:=qac q3
 obtain ⟨z0_1,w0_1,rfl,q5⟩:=qaa q4
 obtain ⟨p1,rfl,q6⟩:=qac q5
 obtain ⟨z0_2,w0_2,rfl,q7⟩:=qaa q6
 obtain ⟨p2,rfl,q8⟩:=qac q7
 obtain ⟨rfl,q9⟩:=qam q8
 obtain ⟨a1,l1,rfl,q10⟩:=qai q9
 obtain ⟨x1,rfl,q11⟩:=qas q10
 obtain ⟨z1_0,w1_0,rfl,q12⟩:=qaa q11
 obtain ⟨p3,rfl,q13⟩:=qac q12
 obtain ⟨z1_1,w1_1,rfl,q14⟩:=qaa q13
 obtain ⟨p4,rfl,q15⟩:=qac q14
 obtain ⟨rfl,q16⟩:=qam q15
 obtain ⟨rfl,rfl,q18⟩:=qan q16
 exact qap (hs p0 p1 p2 p3 p4) q18
theorem sf81 {c18:C18} {c139:C139} (h18:Sp18 c18) (h139:Sp139 c139):Sp81 (F81 c18 c139):=fun p0 p1 p2 p3 p4 y hy=>by
 refine qak (qae (ek18 h18) (qae (ek139 h139) qaj)) 1000000 (fn:=Tryz.f81) (by kernel_rfl) (by kernel_rfl) (X:=X81) (by kernel_rfl) ?_
 rw [eq81]
 exact (nt81 Ops.std c18 c139 p0 p1 p2 p3 p4 some (K2 k0)).trans (by show ob (F81 c18 c139 p0 p1 p2 p3 p4) _=_;rw [hy];rfl)
noncomputable def M81:L94→L98→L103→L3→L3→Option (Bool):=F81 M18 M139
theorem sm81:Sp81 M81:=sf81 sm18 sm139
def X42:Aux:=⟨[(4,([0,1,4]++rg 6 37))],[(6,.lin [0,1,2,3,4,5,6])]⟩
inductive S42 where
 | l0 (v0:Int)
abbrev C65:Type:=L68→L68→Int→Option (L3×L3×L3)
abbrev C81:Type:=L94→L98→L103→L3→L3→Option (Bool)
def T42 {R:Type} (B:Ops) (c18:C18) (c65:C65) (c81:C81) (p0:L94) (p1:L98) (p2:L103) (p3:L68) (p4:L68) (again:S42→Option R) (k:(Bool)→Option R):Option S42→Option R | none=>ob (c18 p0 p1 p2) fun y0=>cond (!y0) (k false) (cond (B.lt (↑p4.length) (1)) (k false) (cond (B.lt (2000) (IntKind.wrap .i64 (Nat.cast p3.length+Nat.cast p4.length))) (k false) (again (.l0 0)))) | some (.l0 v0)=>cond (B.lt v0 (IntKind.wrap .i64 (Nat.cast p3.length+Nat.cast p4.length))) (ob (c65 p3 p4 v0) fun y0=>ob (c81 p0 p1 p2 y0.1 y0.2.1) fun y1=>cond (!y1) (k false) (again (.l0 (IntKind.wrap .i64 (v0+1))))) (k true)
def E42 (p0:L94) (p1:L98) (p2:L103) (p3:L68) (p4:L68):S42→List AV×Objs
 | .l0 v0=>(mk 43 [(2,.c (.ptr 2 0)),(3,.c (.ptr 3 0)),(5,.c (.int .i64 v0))],[(2,.box 31 [.list 94 ty94 p0,.list 98 ty98 p1,.list 103 ty103 p2]),(3,.box 41 [.list 68 ty68 p3,.list 68 ty68 p4])])
def I42:S42→Nat
 | .l0 _=>0
theorem eq42 {R:Type} (B:Ops) (c18:C18) (c65:C65) (c81:C81) (p0:L94) (p1:L98) (p2:L103) (p3:L68) (p4:L68) (k:AV→Objs→Option R) (n:Nat):afun tau B gl0 X42 (ent 18 (e18 c18) (ent 65 (e65 c65) (ent 81 (e81 c81) gnil))) ow Tryz.f42 [.agg [.list 94 ty94 p0,.list 98 ty98 p1,.list 103 ty103 p2],.agg [.list 68 ty68 p3,.list 68 ty68 p4]] [] k n=T42 B c18 c65 c81 p0 p1 p2 p3 p4 (fun s=>aloop tau B gl0 X42 (ent 18 (e18 c18) (ent 65 (e65 c65) (ent 81 (e81 c81) gnil))) ow [] Tryz.f42 k (I42 s) (E42 p0 p1 p2 p3 p4 s) n) (K2 k) none:=by kernel_rfl
theorem el42 {R:Type} (B:Ops) (c18:C18) (c65:C65) (c81:C81) (p0:L94) (p1:L98) (p2:L103) (p3:L68) (p4:L68) (k:AV→Objs→Option R) (n:Nat):∀ s,aloop tau B gl0 X42 (ent 18 (e18 c18) (ent 65 (e65 c65) (ent 81 (e81 c81) gnil))) ow [] Tryz.f42 k (I42 s) (E42 p0 p1 p2 p3 p4 s) (n+1)=T42 B c18 c65 c81 p0 p1 p2 p3 p4 (fun s=>aloop tau B gl0 X42 (ent 18 (e18 c18) (ent 65 (e65 c65) (ent 81 (e81 c81) gnil))) ow [] Tryz.f42 k (I42 s) (E42 p0 p1 p2 p3 p4 s) n) (K2 k) (some s):=by
 intro s
 cases s<;>kernel_rfl
theorem nt42 {R R':Type} (B:Ops) (c18:C18) (c65:C65) (c81:C81) (p0:L94) (p1:L98) (p2:L103) (p3:L68) (p4:L68) (again:S42→Option R) (again':S42→Option R') (k0:(Bool)→Option R') (k:R'→Option R) (h:∀ s,again s=ob (again' s) k):∀ s,T42 B c18 c65 c81 p0 p1 p2 p3 p4 again (fun y=>ob (k0 y) k) s=ob (T42 B c18 c65 c81 p0 p1 p2 p3 p4 again' k0 s) k:=by
 rintro (_ | x)
 all_goals try cases x
 all_goals (unfold T42;repeat' first | exact rfl | exact h _ | apply qaf | (apply qao;intro))
def R42 (c18:C18) (c65:C65) (c81:C81) (p0:L94) (p1:L98) (p2:L103) (p3:L68) (p4:L68):Nat→S42→Option (Bool)
 | 0,_=>none
 | n+1,s=>T42 Ops.std c18 c65 c81 p0 p1 p2 p3 p4 (R42 c18 c65 c81 p0 p1 p2 p3 p4 n) some (some s)
theorem rr42 {R:Type} (c18:C18) (c65:C65) (c81:C81) (p0:L94) (p1:L98) (p2:L103) (p3:L68) (p4:L68) (k:AV→Objs→Option R):∀ (n:Nat) (s:S42),aloop tau Ops.std gl0 X42 (ent 18 (e18 c18) (ent 65 (e65 c65) (ent 81 (e81 c81) gnil))) ow [] Tryz.f42 k (I42 s) (E42 p0 p1 p2 p3 p4 s) n=ob (R42 c18 c65 c81 p0 p1 p2 p3 p4 n s) (K2 k)
 | 0,s=>by cases s<;>rfl
 | n+1,s=>by rw [el42];exact nt42 Ops.std c18 c65 c81 p0 p1 p2 p3 p4 _ _ some (K2 k) (rr42 c18 c65 c81 p0 p1 p2 p3 p4 k n) (some s)
def F42 (c18:C18) (c65:C65) (c81:C81) (p0:L94) (p1:L98) (p2:L103) (p3:L68) (p4:L68):Option (Bool):=T42 Ops.std c18 c65 c81 p0 p1 p2 p3 p4 (R42 c18 c65 c81 p0 p1 p2 p3 p4 1000000) some none
def e42 {R:Type} (c:L94→L98→L103→L68→L68→Option (Bool)):Ent R:=fun args objs k=>
 oCons args fun a0 l0=>oAgg a0 fun x0=>cCons x0 fun z0_0 w0_0=>cList 94 ty94 z0_0 fun p0=>cCons w0_0 fun z0_1 w0_1=>cList 98 ty98 z0_1 fun p1=>cCons w0_1 fun z0_2 w0_2=>cList 103 ty103 z0_2 fun p2=>cNil w0_2 <| oCons l0 fun a1 l1=>oAgg a1 fun x1=>cCons x1 fun z1_0 w1_0=>cList 68 ty68 z1_0 fun p3=>cCons w1_0 fun z1_1 w1_1=>cList 68 ty68 z1_1 fun p4=>cNil w1_1 <| oE l1 objs <| ob (c p0 p1 p2 p3 p4) (K2 k)
abbrev Sp42 (c:L94→L98→L103→L68→L68→Option (Bool)):Prop:=∀ (p0:L94) (p1:L98) (p2:L103) (p3:L68) (p4:L68) (y:Bool),c p0 p1 p2 p3 p4=some y→Spec Tryz.prog gl0 42 [.agg [.list 94 ty94 p0,.list 98 ty98 p1,.list 103 ty103 p2],.agg [.list 68 ty68 p3,.list 68 ty68 p4]] [] (.c (.bool y)) []
theorem ek42 {R:Type} {c:L94→L98→L103→L68→L68→Option (Bool)} (hs:Sp42 c):EOk 42 (e42 (R:=R) c):=fun args objs k r h=>by
 unfold e42 at h
 obtain ⟨a0,l0,rfl,q1⟩:=qai h
 obtain ⟨x0,rfl,q2⟩:=qas q1
 obtain ⟨z0_0,w0_0,rfl,q3⟩:=qaa q2
 obtain ⟨p0,rfl,q4⟩:=qac q3
 obtain ⟨z0_1,w0_1,rfl,q5⟩:=qaa q4
 obtain ⟨p1,rfl,q6⟩:=qac q5
 obtain ⟨z0_2,w0_2,rfl,q7⟩:=qaa q6
 obtain ⟨p2,rfl,q8⟩:=qac q7
 obtain ⟨rfl,q9⟩:=qam q8
 obtain ⟨a1,l1,rfl,q10⟩:=qai q9
 obtain ⟨x1,rfl,q11⟩:=qas q10
 obtain ⟨z1_0,w1_0,rfl,q12⟩:=qaa q11
 obtain ⟨p3,rfl,q13⟩:=qac q12
 obtain ⟨z1_1,w1_1,rfl,q14⟩:=qaa q13
 obtain ⟨p4,rfl,q15⟩:=qac q14
 obtain ⟨rfl,q16⟩:=qam q15
 obtain ⟨rfl,rfl,q18⟩:=qan q16
 exact qap (hs p0 p1 p2 p3 p4) q18
theorem sf42 {c18:C18} {c65:C65} {c81:C81} (h18:Sp18 c18) (h65:Sp65 c65) (h81:Sp81 c81):Sp42 (F42 c18 c65 c81):=fun p0 p1 p2 p3 p4 y hy=>by
 refine qak (qae (ek18 h18) (qae (ek65 h65) (qae (ek81 h81) qaj))) 1000000 (fn:=Tryz.f42) (by kernel_rfl) (by kernel_rfl) (X:=X42) (by kernel_rfl) ?_
 rw [eq42]
 exact (nt42 Ops.std c18 c65 c81 p0 p1 p2 p3 p4 _ _ some (K2 k0) (rr42 c18 c65 c81 p0 p1 p2 p3 p4 k0 1000000) none).trans (by show ob (F42 c18 c65 c81 p0 p1 p2 p3 p4) _=_;rw [hy];rfl)
noncomputable def M42:L94→L98→L103→L68→L68→Option (Bool):=F42 M18 M65 M81
theorem sm42:Sp42 M42:=sf42 sm18 sm65 sm81
def X111:Aux:=⟨[],[]⟩
def T111 {R:Type} (B:Ops) (p0:Int) (k:(Int)→Option R):Option R:=k (bif true then bif B.lt (-99999) (bif false then bif B.lt (99999) p0 then p0 else 99999 else bif B.lt p0 (99999) then p0 else 99999) then bif false then bif B.lt (99999) p0 then p0 else 99999 else bif B.lt p0 (99999) then p0 else 99999 else -99999 else bif B.lt (bif false then bif B.lt (99999) p0 then p0 else 99999 else bif B.lt p0 (99999) then p0 else 99999) (-99999) then bif false then bif B.lt (99999) p0 then p0 else 99999 else bif B.lt p0 (99999) then p0 else 99999 else -99999)
theorem eq111 {R:Type} (B:Ops) (p0:Int) (k:AV→Objs→Option R) (n:Nat):afun tau B gl0 X111 gnil ow Tryz.f111 [.c (.int .i64 p0)] [] k n=T111 B p0 (K1 k):=by kernel_rfl
theorem nt111 {R R':Type} (B:Ops) (p0:Int) (k0:(Int)→Option R') (k:R'→Option R):T111 B p0 (fun y=>ob (k0 y) k)=ob (T111 B p0 k0) k:=by
 unfold T111
 repeat' first | exact rfl | apply qaf | (apply qao;intro)
def F111 (p0:Int):Option (Int):=T111 Ops.std p0 some
def e111 {R:Type} (c:Int→Option (Int)):Ent R:=fun args objs k=>
 oI args .i64 fun p0 l0=>oE l0 objs <| ob (c p0) (K1 k)
abbrev Sp111 (c:Int→Option (Int)):Prop:=∀ (p0:Int) (y:Int),c p0=some y→Spec Tryz.prog gl0 111 [.c (.int .i64 p0)] [] (.c (.int .i64 y)) []
theorem ek111 {R:Type} {c:Int→Option (Int)} (hs:Sp111 c):EOk 111 (e111 (R:=R) c):=fun args objs k r h=>by
 unfold e111 at h
 obtain ⟨p0,l0,rfl,q3⟩:=qau h
 obtain ⟨rfl,rfl,q5⟩:=qan q3
 exact qap (hs p0) q5
theorem sf111:Sp111 (F111):=fun p0 y hy=>by
 refine qak qaj 1000000 (fn:=Tryz.f111) (by kernel_rfl) (by kernel_rfl) (X:=X111) (by kernel_rfl) ?_
 rw [eq111]
 exact (nt111 Ops.std p0 some (K1 k0)).trans (by show ob (F111 p0) _=_;rw [hy];rfl)
noncomputable def M111:Int→Option (Int):=F111
theorem sm111:Sp111 M111:=sf111
def X112:Aux:=⟨[],[]⟩
def T112 {R:Type} (B:Ops) (p0:Bool) (k:(Int)→Option R):Option R:=cond (p0) (k 1) (k 0)
theorem eq112 {R:Type} (B:Ops) (p0:Bool) (k:AV→Objs→Option R) (n:Nat):afun tau B gl0 X112 gnil ow Tryz.f112 [.c (.bool p0)] [] k n=T112 B p0 (K1 k):=by kernel_rfl
theorem nt112 {R R':Type} (B:Ops) (p0:Bool) (k0:(Int)→Option R') (k:R'→Option R):T112 B p0 (fun y=>ob (k0 y) k)=ob (T112 B p0 k0) k:=by
 unfold T112
 repeat' first | exact rfl | apply qaf | (apply qao;intro)
def F112 (p0:Bool):Option (Int):=T112 Ops.std p0 some
def e112 {R:Type} (c:Bool→Option (Int)):Ent R:=fun args objs k=>
 oCons args fun a0 l0=>oC a0 fun x0=>cBool x0 fun p0=>oE l0 objs <| ob (c p0) (K1 k)
abbrev Sp112 (c:Bool→Option (Int)):Prop:=∀ (p0:Bool) (y:Int),c p0=some y→Spec Tryz.prog gl0 112 [.c (.bool p0)] [] (.c (.int .i64 y)) []
theorem ek112 {R:Type} {c:Bool→Option (Int)} (hs:Sp112 c):EOk 112 (e112 (R:=R) c):=fun args objs k r h=>by
 unfold e112 at h
 obtain ⟨a0,l0,rfl,q1⟩:=qai h
 obtain ⟨x0,rfl,q2⟩:=qa6 q1
 obtain ⟨p0,rfl,q3⟩:=qbq q2
 obtain ⟨rfl,rfl,q5⟩:=qan q3
 exact qap (hs p0) q5
theorem sf112:Sp112 (F112):=fun p0 y hy=>by
 refine qak qaj 1000000 (fn:=Tryz.f112) (by kernel_rfl) (by kernel_rfl) (X:=X112) (by kernel_rfl) ?_
 rw [eq112]
 exact (nt112 Ops.std p0 some (K1 k0)).trans (by show ob (F112 p0) _=_;rw [hy];rfl)
noncomputable def M112:Bool→Option (Int):=F112
theorem sm112:Sp112 M112:=sf112
end Go.Proofs.YtccnmhdgghjgoaaGreatDoor.Av
