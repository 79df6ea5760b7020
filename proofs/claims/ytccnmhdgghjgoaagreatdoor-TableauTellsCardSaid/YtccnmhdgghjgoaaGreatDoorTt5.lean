/- Twins of functions,printed by gen.py. Conditions: none. -/
import Derived.Test.YtccnmhdgghjgoaaGreatDoorTt4
import Derived.KernelRfl
set_option linter.unusedSimpArgs false
set_option linter.unusedVariables false
set_option maxRecDepth 100000
set_option maxHeartbeats 8000000
namespace Go.Proofs.YtccnmhdgghjgoaaGreatDoor.Av
open Go
def X73:Aux:=⟨[],[]⟩
def T73 {R:Type} (B:Ops) (p0:Int) (k:(Int)→Option R):Option R:=cond (B.eq p0 1) (k 0) (cond (B.eq p0 2) (k 0) (cond (B.eq p0 3) (k 0) (cond (B.eq p0 4) (k 1) (cond (B.eq p0 8) (k 1) (cond (B.eq p0 11) (k 1) (cond (B.eq p0 12) (k 1) (cond (B.eq p0 5) (k 2) (cond (B.eq p0 6) (k 2) (cond (B.eq p0 7) (k 2) (cond (B.eq p0 9) (k 2) (cond (B.eq p0 10) (k 2) (k (-1)))))))))))))
theorem eq73 {R:Type} (B:Ops) (p0:Int) (k:AV→Objs→Option R) (n:Nat):afun tau B gl0 X73 gnil ow Tryz.f73 [.c (.int .i64 p0)] [] k n=T73 B p0 (K1 k):=by kernel_rfl
theorem nt73 {R R':Type} (B:Ops) (p0:Int) (k0:(Int)→Option R') (k:R'→Option R):T73 B p0 (fun y=>ob (k0 y) k)=ob (T73 B p0 k0) k:=by
 unfold T73
 repeat' first | exact rfl | apply qae | (apply qaj;intro)
def F73 (p0:Int):Option (Int):=T73 Ops.std p0 some
abbrev C73:Type:=Int→Option (Int)
def e73 {R:Type} (c:C73):Ent R:=eG [.aC (.cI .i64)] [] fun v k=>ob (c v.1) (K1 k)
abbrev Sp73 (c:C73):Prop:=∀ (p0 y:Int),c p0=some y→Spec Tryz.prog gl0 73 [.c (.int .i64 p0)] [] (.c (.int .i64 y)) []
theorem ek73 {R:Type} {c:C73} (hs:Sp73 c):EOk 73 (e73 (R:=R) c):=qam fun v=>hs v.1
theorem sf73:Sp73 (F73):=fun p0 y hy=>by
 refine qai qah 1000000 (fn:=Tryz.f73) (by kernel_rfl) (by kernel_rfl) (X:=X73) (by kernel_rfl) ?_
 rw [eq73]
 exact (nt73 Ops.std p0 some (K1 k0)).trans (by show ob (F73 p0) _=_;rw [hy];rfl)
noncomputable def M73:C73:=F73
theorem sm73:Sp73 M73:=sf73
def X63:Aux:=⟨[(3,([1,2]++rg 5 65))],[]⟩
inductive S63 where
 | l0 (v1 v2:Int)
def T63 {R:Type} (B:Ops) (c73:C73) (c110:C110) (p0:L66) (again:S63→Option R) (k:(Bool)→Option R):Option S63→Option R | none=>again (.l0 0 0) | some (.l0 v1 v2)=>cond (B.lt v2 (↑p0.length)) (cond (B.inb v2 p0.length) (ob (c73 (p0.getD v2.toNat ty66.dflt).1) fun y0=>cond (B.lt y0 0) (k false) (cond (B.lt v1 y0) (k false) (cond (B.inb v2 p0.length) (cond (B.eq (p0.getD v2.toNat ty66.dflt).1 3) (cond (B.inb v2 p0.length) (ob (c110 (p0.getD v2.toNat ty66.dflt).2) fun y1=>cond (!y1) (k false) (cond (B.inb v2 p0.length) (cond (!B.eq (p0.getD v2.toNat ty66.dflt).1 3) (cond (B.inb v2 p0.length) (cond (B.lt 0 (Nat.cast (List.length (p0.getD v2.toNat ty66.dflt).2))) (k false) (again (.l0 (IntKind.wrap .i64 (IntKind.wrap .i64 (v1-y0)+1)) (IntKind.wrap .i64 (v2+1))))) none) (again (.l0 (IntKind.wrap .i64 (IntKind.wrap .i64 (v1-y0)+1)) (IntKind.wrap .i64 (v2+1))))) none)) none) (cond (B.inb v2 p0.length) (cond (!B.eq (p0.getD v2.toNat ty66.dflt).1 3) (cond (B.inb v2 p0.length) (cond (B.lt 0 (Nat.cast (List.length (p0.getD v2.toNat ty66.dflt).2))) (k false) (again (.l0 (IntKind.wrap .i64 (IntKind.wrap .i64 (v1-y0)+1)) (IntKind.wrap .i64 (v2+1))))) none) (again (.l0 (IntKind.wrap .i64 (IntKind.wrap .i64 (v1-y0)+1)) (IntKind.wrap .i64 (v2+1))))) none)) none))) none) (cond (B.eq v1 1) (k (B.le (↑p0.length) 60)) (k false))
def E63 (p0:L66):S63→List AV×Objs
 | .l0 v1 v2=>(mk 70 [(0,.c (.list 66 ty66 p0)),(3,.c (.int .i64 v1)),(4,.c (.int .i64 v2))],[])
def I63:S63→Nat
 | .l0 _ _=>0
noncomputable abbrev A63 {R:Type} (B:Ops) (c73:C73) (c110:C110) (p0:L66) (k:AV→Objs→Option R) (s:S63) (n:Nat):Option R:=aloop tau B gl0 X63 (ent 73 (e73 c73) (ent 110 (e110 c110) gnil)) ow [] Tryz.f63 k (I63 s) (E63 p0 s) n
theorem eq63 {R:Type} (B:Ops) (c73:C73) (c110:C110) (p0:L66) (k:AV→Objs→Option R) (n:Nat):afun tau B gl0 X63 (ent 73 (e73 c73) (ent 110 (e110 c110) gnil)) ow Tryz.f63 [.c (.list 66 ty66 p0)] [] k n=T63 B c73 c110 p0 (fun s=>A63 B c73 c110 p0 k s n) (K2 k) none:=by kernel_rfl
theorem el63 {R:Type} (B:Ops) (c73:C73) (c110:C110) (p0:L66) (k:AV→Objs→Option R) (n:Nat):∀ s,A63 B c73 c110 p0 k s (n+1)=T63 B c73 c110 p0 (fun s=>A63 B c73 c110 p0 k s n) (K2 k) (some s):=by
 intro s
 cases s<;>kernel_rfl
theorem nt63 {R R':Type} (B:Ops) (c73:C73) (c110:C110) (p0:L66) (again:S63→Option R) (again':S63→Option R') (k0:(Bool)→Option R') (k:R'→Option R) (h:∀ s,again s=ob (again' s) k):∀ s,T63 B c73 c110 p0 again (fun y=>ob (k0 y) k) s=ob (T63 B c73 c110 p0 again' k0 s) k:=by
 rintro (_ | x)
 all_goals try cases x
 all_goals (unfold T63;repeat' first | exact rfl | exact h _ | apply qae | (apply qaj;intro))
def R63 (c73:C73) (c110:C110) (p0:L66):Nat→S63→Option (Bool)
 | 0,_=>none
 | n+1,s=>T63 Ops.std c73 c110 p0 (R63 c73 c110 p0 n) some (some s)
theorem rr63 {R:Type} (c73:C73) (c110:C110) (p0:L66) (k:AV→Objs→Option R):∀ (n:Nat) (s:S63),A63 Ops.std c73 c110 p0 k s n=ob (R63 c73 c110 p0 n s) (K2 k)
 | 0,s=>by cases s<;>rfl
 | n+1,s=>by rw [el63];exact nt63 Ops.std c73 c110 p0 _ _ some (K2 k) (rr63 c73 c110 p0 k n) (some s)
def F63 (c73:C73) (c110:C110) (p0:L66):Option (Bool):=T63 Ops.std c73 c110 p0 (R63 c73 c110 p0 1000000) some none
abbrev C63:Type:=L66→Option (Bool)
def e63 {R:Type} (c:C63):Ent R:=eG [.aC (.cL 66 ty66)] [] fun v k=>ob (c v.1) (K2 k)
abbrev Sp63 (c:C63):Prop:=∀ (p0:L66) (y:Bool),c p0=some y→Spec Tryz.prog gl0 63 [.c (.list 66 ty66 p0)] [] (.c (.bool y)) []
theorem ek63 {R:Type} {c:C63} (hs:Sp63 c):EOk 63 (e63 (R:=R) c):=qam fun v=>hs v.1
theorem sf63 {c73:C73} {c110:C110} (h73:Sp73 c73) (h110:Sp110 c110):Sp63 (F63 c73 c110):=fun p0 y hy=>by
 refine qai (qac (ek73 h73) (qac (ek110 h110) qah)) 1000000 (fn:=Tryz.f63) (by kernel_rfl) (by kernel_rfl) (X:=X63) (by kernel_rfl) ?_
 rw [eq63]
 exact (nt63 Ops.std c73 c110 p0 _ _ some (K2 k0) (rr63 c73 c110 p0 k0 1000000) none).trans (by show ob (F63 c73 c110 p0) _=_;rw [hy];rfl)
noncomputable def M63:C63:=F63 M73 M110
theorem sm63:Sp63 M63:=sf63 sm73 sm110
abbrev C50:Type:=Int→L3→Int→Option (LB×L3×Int)
def e50 {R:Type} (c:C50):Ent R:=eG [.aC (.cP 0),.aC (.cI .i64)] [.oB 0 86 [.cL 3 ty3,.cI .i64]] fun v k=>ob (c v.1 v.2.1 v.2.2.1) (K13 k)
abbrev Sp50 (c:C50):Prop:=∀ (p0:Int) (p1:L3) (p2:Int) (y:LB×L3×Int),c p0 p1 p2=some y→Spec Tryz.prog gl0 50 [.c (.ptr 0 0),.c (.int .i64 p0)] [(0,.box 86 [.list 3 ty3 p1,.int .i64 p2])] (.c (.str y.1)) [(0,.box 86 [.list 3 ty3 y.2.1,.int .i64 y.2.2])]
theorem ek50 {R:Type} {c:C50} (hs:Sp50 c):EOk 50 (e50 (R:=R) c):=qam fun v=>hs v.1 v.2.1 v.2.2.1
def X50:Aux:=⟨[(1000004,([2,3,4]++rg 6 105))],[(11,.lin ([0,1,2,5,6,10,11,12,3,4,7,8,9,13,14,15,16])),(13,.lin ([0,1,2,5,6,10,11,12,3,4,7,8,9,13,14,15,16]))]⟩
inductive S50 where
 | l1004 (v1:Int) (v2:L3) (v3:Int)
def T50 {R:Type} (B:Ops) (c94:C94) (c50:C50) (p0:Int) (p1:L3) (p2:Int) (again:S50→Option R) (k:(LB×L3×Int)→Option R):Option S50→Option R | none=>ob (c94 22 p1 p2) fun y0=>cond (B.lt 2 p0) (cond (B.eq 4 0) none (again (.l1004 (IntKind.wrap .i64 (18+Int.tmod y0.1 4)) y0.2.1 y0.2.2))) (cond (B.lt 9 y0.2.2) (cond (B.eq 4 0) none (again (.l1004 (IntKind.wrap .i64 (18+Int.tmod y0.1 4)) y0.2.1 y0.2.2))) (again (.l1004 y0.1 y0.2.1 y0.2.2))) | some (.l1004 v1 v2 v3)=>cond (B.lt v1 3) (ob (c50 (IntKind.wrap .i64 (p0+1)) v2 v3) fun y0=>cond (B.lim (3+List.length y0.1) 1) (cond (B.lim (List.length (([71,32,40]:LB)++y0.1)+1) 1) (k ((([71,32,40]:LB)++y0.1++([41]:LB),y0.2.1,y0.2.2))) none) none) (cond (B.lt v1 6) (ob (c50 (IntKind.wrap .i64 (p0+1)) v2 v3) fun y0=>cond (B.lim (3+List.length y0.1) 1) (cond (B.lim (List.length (([70,32,40]:LB)++y0.1)+1) 1) (k ((([70,32,40]:LB)++y0.1++([41]:LB),y0.2.1,y0.2.2))) none) none) (cond (B.lt v1 8) (ob (c50 (IntKind.wrap .i64 (p0+1)) v2 v3) fun y0=>cond (B.lim (2+List.length y0.1) 1) (k ((([88,32]:LB)++y0.1,y0.2.1,y0.2.2))) none) (cond (B.lt v1 11) (ob (c50 (IntKind.wrap .i64 (p0+1)) v2 v3) fun y0=>cond (B.lim (1+List.length y0.1) 1) (ob (c94 2 y0.2.1 y0.2.2) fun y1=>cond (B.inb y1.1 2) (cond (B.lim (List.length (([40]:LB)++y0.1)+List.length (List.getD (([32,85,32]:LB)::([32,82,32]:LB)::mt LB) (Int.toNat y1.1) (mt UInt8))) 1) (ob (c50 (IntKind.wrap .i64 (p0+1)) y1.2.1 y1.2.2) fun y2=>cond (B.lim (List.length (([40]:LB)++y0.1++List.getD (([32,85,32]:LB)::([32,82,32]:LB)::mt LB) (Int.toNat y1.1) (mt UInt8))+List.length y2.1) 1) (cond (B.lim (List.length (([40]:LB)++y0.1++List.getD (([32,85,32]:LB)::([32,82,32]:LB)::mt LB) (Int.toNat y1.1) (mt UInt8)++y2.1)+1) 1) (k ((([40]:LB)++y0.1++List.getD (([32,85,32]:LB)::([32,82,32]:LB)::mt LB) (Int.toNat y1.1) (mt UInt8)++y2.1++([41]:LB),y2.2.1,y2.2.2))) none) none) none) none) none) (cond (B.lt v1 15) (ob (c50 (IntKind.wrap .i64 (p0+1)) v2 v3) fun y0=>cond (B.lim (1+List.length y0.1) 1) (ob (c94 3 y0.2.1 y0.2.2) fun y1=>cond (B.inb y1.1 3) (cond (B.lim (List.length (([40]:LB)++y0.1)+List.length (List.getD (([32,38,38,32]:LB)::([32,124,124,32]:LB)::([32,45,62,32]:LB)::mt LB) (Int.toNat y1.1) (mt UInt8))) 1) (ob (c50 (IntKind.wrap .i64 (p0+1)) y1.2.1 y1.2.2) fun y2=>cond (B.lim (List.length (([40]:LB)++y0.1++List.getD (([32,38,38,32]:LB)::([32,124,124,32]:LB)::([32,45,62,32]:LB)::mt LB) (Int.toNat y1.1) (mt UInt8))+List.length y2.1) 1) (cond (B.lim (List.length (([40]:LB)++y0.1++List.getD (([32,38,38,32]:LB)::([32,124,124,32]:LB)::([32,45,62,32]:LB)::mt LB) (Int.toNat y1.1) (mt UInt8)++y2.1)+1) 1) (k ((([40]:LB)++y0.1++List.getD (([32,38,38,32]:LB)::([32,124,124,32]:LB)::([32,45,62,32]:LB)::mt LB) (Int.toNat y1.1) (mt UInt8)++y2.1++([41]:LB),y2.2.1,y2.2.2))) none) none) none) none) none) (cond (B.lt v1 17) (ob (c50 (IntKind.wrap .i64 (p0+1)) v2 v3) fun y0=>cond (B.lim (1+List.length y0.1) 1) (k ((([33]:LB)++y0.1,y0.2.1,y0.2.2))) none) (cond (B.eq v1 17) (ob (c50 (IntKind.wrap .i64 (p0+1)) v2 v3) fun y0=>cond (B.lim (4+List.length y0.1) 1) (k ((([71,32,70,32]:LB)++y0.1,y0.2.1,y0.2.2))) none) (cond (B.eq v1 18) (ob (c94 2 v2 v3) fun y0=>cond (B.inb y0.1 2) (k ((List.getD (([116,114,117,101]:LB)::([102,97,108,115,101]:LB)::mt LB) (Int.toNat y0.1) (mt UInt8),y0.2.1,y0.2.2))) none) (ob (c94 6 v2 v3) fun y0=>cond (B.inb y0.1 6) (k ((List.getD (([91,120,61,61,49,93]:LB)::([91,112,64,97,93]:LB)::([91,121,60,49,93]:LB)::([91,113,64,98,38,38,120,62,48,93]:LB)::([91,120,61,61,121,93]:LB)::([91,112,64,98,93]:LB)::mt LB) (Int.toNat y0.1) (mt UInt8),y0.2.1,y0.2.2))) none))))))))
def E50 (p0:Int) (p1:L3) (p2:Int):S50→List AV×Objs
 | .l1004 v1 v2 v3=>(mk 111 [(0,.c (.ptr 0 0)),(1,.c (.int .i64 p0)),(5,.c (.int .i64 v1))],[(0,.box 86 [.list 3 ty3 v2,.int .i64 v3])])
def I50:S50→Nat
 | .l1004 _ _ _=>1004
noncomputable abbrev A50 {R:Type} (B:Ops) (c94:C94) (c50:C50) (p0:Int) (p1:L3) (p2:Int) (k:AV→Objs→Option R) (s:S50) (n:Nat):Option R:=aloop tau B gl0 X50 (ent 94 (e94 c94) (ent 50 (e50 c50) gnil)) ow [0] Tryz.f50 k (I50 s) (E50 p0 p1 p2 s) n
theorem eq50 {R:Type} (B:Ops) (c94:C94) (c50:C50) (p0:Int) (p1:L3) (p2:Int) (k:AV→Objs→Option R) (n:Nat):afun tau B gl0 X50 (ent 94 (e94 c94) (ent 50 (e50 c50) gnil)) ow Tryz.f50 [.c (.ptr 0 0),.c (.int .i64 p0)] [(0,.box 86 [.list 3 ty3 p1,.int .i64 p2])] k n=T50 B c94 c50 p0 p1 p2 (fun s=>A50 B c94 c50 p0 p1 p2 k s n) (K13 k) none:=by kernel_rfl
theorem el50 {R:Type} (B:Ops) (c94:C94) (c50:C50) (p0:Int) (p1:L3) (p2:Int) (k:AV→Objs→Option R) (n:Nat):∀ s,A50 B c94 c50 p0 p1 p2 k s (n+1)=T50 B c94 c50 p0 p1 p2 (fun s=>A50 B c94 c50 p0 p1 p2 k s n) (K13 k) (some s):=by
 intro s
 cases s<;>kernel_rfl
theorem nt50 {R R':Type} (B:Ops) (c94:C94) (c50:C50) (p0:Int) (p1:L3) (p2:Int) (again:S50→Option R) (again':S50→Option R') (k0:(LB×L3×Int)→Option R') (k:R'→Option R) (h:∀ s,again s=ob (again' s) k):∀ s,T50 B c94 c50 p0 p1 p2 again (fun y=>ob (k0 y) k) s=ob (T50 B c94 c50 p0 p1 p2 again' k0 s) k:=by
 rintro (_ | x)
 all_goals try cases x
 all_goals (unfold T50;repeat' first | exact rfl | exact h _ | apply qae | (apply qaj;intro))
def R50 (c94:C94) (c50:C50) (p0:Int) (p1:L3) (p2:Int):Nat→S50→Option (LB×L3×Int)
 | 0,_=>none
 | n+1,s=>T50 Ops.std c94 c50 p0 p1 p2 (R50 c94 c50 p0 p1 p2 n) some (some s)
theorem rr50 {R:Type} (c94:C94) (c50:C50) (p0:Int) (p1:L3) (p2:Int) (k:AV→Objs→Option R):∀ (n:Nat) (s:S50),A50 Ops.std c94 c50 p0 p1 p2 k s n=ob (R50 c94 c50 p0 p1 p2 n s) (K13 k)
 | 0,s=>by cases s<;>rfl
 | n+1,s=>by rw [el50];exact nt50 Ops.std c94 c50 p0 p1 p2 _ _ some (K13 k) (rr50 c94 c50 p0 p1 p2 k n) (some s)
def F50 (c94:C94) (c50:C50) (p0:Int) (p1:L3) (p2:Int):Option (LB×L3×Int):=T50 Ops.std c94 c50 p0 p1 p2 (R50 c94 c50 p0 p1 p2 1000000) some none
theorem sf50 {c94:C94} {c50:C50} (h94:Sp94 c94) (h50:Sp50 c50):Sp50 (F50 c94 c50):=fun p0 p1 p2 y hy=>by
 refine qai (qac (ek94 h94) (qac (ek50 h50) qah)) 1000000 (fn:=Tryz.f50) (by kernel_rfl) (by kernel_rfl) (X:=X50) (by kernel_rfl) ?_
 rw [eq50]
 exact (nt50 Ops.std c94 c50 p0 p1 p2 _ _ some (K13 k0) (rr50 c94 c50 p0 p1 p2 k0 1000000) none).trans (by show ob (F50 c94 c50 p0 p1 p2) _=_;rw [hy];rfl)
noncomputable def Rec50:Nat→(Int→L3→Int→Option (LB×L3×Int))
 | 0=>fun _ _ _=>none
 | d+1=>F50 M94 (Rec50 d)
theorem rec50:∀ d,Sp50 (Rec50 d)
 | 0=>fun p0 p1 p2 y (h:(none:Option (LB×L3×Int))=some y)=>by cases h
 | d+1=>sf50 sm94 (rec50 d)
noncomputable def M50:C50:=(Rec50 1000000)
theorem sm50:Sp50 M50:=(rec50 1000000)
def X15:Aux:=⟨[],[]⟩
def T15 {R:Type} (B:Ops) (c50:C50) (p0:L3) (k:(LB)→Option R):Option R:=ob (c50 0 p0 0) fun y0=>k y0.1
theorem eq15 {R:Type} (B:Ops) (c50:C50) (p0:L3) (k:AV→Objs→Option R) (n:Nat):afun tau B gl0 X15 (ent 50 (e50 c50) gnil) ow Tryz.f15 [.c (.list 3 ty3 p0)] [] k n=T15 B c50 p0 (K3 k):=by kernel_rfl
theorem nt15 {R R':Type} (B:Ops) (c50:C50) (p0:L3) (k0:(LB)→Option R') (k:R'→Option R):T15 B c50 p0 (fun y=>ob (k0 y) k)=ob (T15 B c50 p0 k0) k:=by
 unfold T15
 repeat' first | exact rfl | apply qae | (apply qaj;intro)
def F15 (c50:C50) (p0:L3):Option (LB):=T15 Ops.std c50 p0 some
abbrev C15:Type:=L3→Option (LB)
def e15 {R:Type} (c:C15):Ent R:=eG [.aC (.cL 3 ty3)] [] fun v k=>ob (c v.1) (K3 k)
abbrev Sp15 (c:C15):Prop:=∀ (p0:L3) (y:LB),c p0=some y→Spec Tryz.prog gl0 15 [.c (.list 3 ty3 p0)] [] (.c (.str y)) []
theorem ek15 {R:Type} {c:C15} (hs:Sp15 c):EOk 15 (e15 (R:=R) c):=qam fun v=>hs v.1
theorem sf15 {c50:C50} (h50:Sp50 c50):Sp15 (F15 c50):=fun p0 y hy=>by
 refine qai (qac (ek50 h50) qah) 1000000 (fn:=Tryz.f15) (by kernel_rfl) (by kernel_rfl) (X:=X15) (by kernel_rfl) ?_
 rw [eq15]
 exact (nt15 Ops.std c50 p0 some (K3 k0)).trans (by show ob (F15 c50 p0) _=_;rw [hy];rfl)
noncomputable def M15:C15:=F15 M50
theorem sm15:Sp15 M15:=sf15 sm50
def X37:Aux:=⟨[(6,([1,2]++rg 6 37))],[]⟩
inductive S37 where
 | l0 (v1:Int) (v2:L22) (v3:L3)
def T37 {R:Type} (B:Ops) (c63:C63) (c73:C73) (p0:L66) (again:S37→Option R) (k:(L22)→Option R):Option S37→Option R | none=>ob (c63 p0) fun y0=>cond (!y0) (k (mt (Ty.den ty22))) (again (.l0 0 (mt (Ty.den ty22)) (mt (Ty.den (Ty.int .i64))))) | some (.l0 v1 v2 v3)=>cond (B.lt v1 (↑p0.length)) (cond (B.inb v1 p0.length) (ob (c73 (p0.getD v1.toNat ty66.dflt).1) fun y0=>cond (B.lt (IntKind.wrap .i64 (Nat.cast v3.length-y0)) 0) (k (mt (Ty.den ty22))) (cond (B.inb (IntKind.wrap .i64 (Nat.cast v3.length-y0)) (List.length v3+1)) (cond (B.lim (List.length (mt (Ty.den (Ty.int .i64)))+List.length (List.drop (Int.toNat (IntKind.wrap .i64 (Nat.cast v3.length-y0))) (List.take v3.length v3))) 8) (cond (B.lim (List.length v2+List.length ((mt (Ty.den (Ty.int .i64))++List.drop (Int.toNat (IntKind.wrap .i64 (Nat.cast v3.length-y0))) (List.take v3.length v3))::mt (Ty.den ty22))) 24) (cond (B.eq (IntKind.wrap .i64 (Nat.cast v3.length-y0)) (IntKind.wrap .i64 (Nat.cast v3.length-y0))) (cond (B.inb (IntKind.wrap .i64 (Nat.cast v3.length-y0)) (List.length v3+1)) (cond (B.lt 0 (Nat.cast (List.length (v1::mt (Ty.den (Ty.int .i64)))))) (cond (B.lim (List.length (List.take (Int.toNat (IntKind.wrap .i64 (Nat.cast v3.length-y0))) v3)+List.length (v1::mt (Ty.den (Ty.int .i64)))) 8) (again (.l0 (IntKind.wrap .i64 (v1+1)) (v2++(mt (Ty.den (Ty.int .i64))++List.drop (Int.toNat (IntKind.wrap .i64 (Nat.cast v3.length-y0))) (List.take v3.length v3))::mt (Ty.den ty22)) (List.take (Int.toNat (IntKind.wrap .i64 (Nat.cast v3.length-y0))) v3++v1::mt (Ty.den (Ty.int .i64))))) none) none) none) none) none) none) none)) none) (k v2)
def E37 (p0:L66):S37→List AV×Objs
 | .l0 v1 v2 v3=>(mk 43 [(0,.c (.list 66 ty66 p0)),(3,.c (.own 3)),(4,.c (.own 4)),(5,.c (.int .i64 v1))],[(3,.row 22 ty22 v2),(4,.row 3 ty3 v3)])
def I37:S37→Nat
 | .l0 _ _ _=>0
noncomputable abbrev A37 {R:Type} (B:Ops) (c63:C63) (c73:C73) (p0:L66) (k:AV→Objs→Option R) (s:S37) (n:Nat):Option R:=aloop tau B gl0 X37 (ent 63 (e63 c63) (ent 73 (e73 c73) gnil)) ow [] Tryz.f37 k (I37 s) (E37 p0 s) n
theorem eq37 {R:Type} (B:Ops) (c63:C63) (c73:C73) (p0:L66) (k:AV→Objs→Option R) (n:Nat):afun tau B gl0 X37 (ent 63 (e63 c63) (ent 73 (e73 c73) gnil)) ow Tryz.f37 [.c (.list 66 ty66 p0)] [] k n=T37 B c63 c73 p0 (fun s=>A37 B c63 c73 p0 k s n) (K5 k) none:=by kernel_rfl
theorem el37 {R:Type} (B:Ops) (c63:C63) (c73:C73) (p0:L66) (k:AV→Objs→Option R) (n:Nat):∀ s,A37 B c63 c73 p0 k s (n+1)=T37 B c63 c73 p0 (fun s=>A37 B c63 c73 p0 k s n) (K5 k) (some s):=by
 intro s
 cases s<;>kernel_rfl
theorem nt37 {R R':Type} (B:Ops) (c63:C63) (c73:C73) (p0:L66) (again:S37→Option R) (again':S37→Option R') (k0:(L22)→Option R') (k:R'→Option R) (h:∀ s,again s=ob (again' s) k):∀ s,T37 B c63 c73 p0 again (fun y=>ob (k0 y) k) s=ob (T37 B c63 c73 p0 again' k0 s) k:=by
 rintro (_ | x)
 all_goals try cases x
 all_goals (unfold T37;repeat' first | exact rfl | exact h _ | apply qae | (apply qaj;intro))
def R37 (c63:C63) (c73:C73) (p0:L66):Nat→S37→Option (L22)
 | 0,_=>none
 | n+1,s=>T37 Ops.std c63 c73 p0 (R37 c63 c73 p0 n) some (some s)
theorem rr37 {R:Type} (c63:C63) (c73:C73) (p0:L66) (k:AV→Objs→Option R):∀ (n:Nat) (s:S37),A37 Ops.std c63 c73 p0 k s n=ob (R37 c63 c73 p0 n s) (K5 k)
 | 0,s=>by cases s<;>rfl
 | n+1,s=>by rw [el37];exact nt37 Ops.std c63 c73 p0 _ _ some (K5 k) (rr37 c63 c73 p0 k n) (some s)
def F37 (c63:C63) (c73:C73) (p0:L66):Option (L22):=T37 Ops.std c63 c73 p0 (R37 c63 c73 p0 1000000) some none
abbrev C37:Type:=L66→Option (L22)
def e37 {R:Type} (c:C37):Ent R:=eG [.aC (.cL 66 ty66)] [] fun v k=>ob (c v.1) (K5 k)
abbrev Sp37 (c:C37):Prop:=∀ (p0:L66) (y:L22),c p0=some y→Spec Tryz.prog gl0 37 [.c (.list 66 ty66 p0)] [] (.c (.own 500)) [(500,.row 22 ty22 y)]
theorem ek37 {R:Type} {c:C37} (hs:Sp37 c):EOk 37 (e37 (R:=R) c):=qam fun v=>hs v.1
theorem sf37 {c63:C63} {c73:C73} (h63:Sp63 c63) (h73:Sp73 c73):Sp37 (F37 c63 c73):=fun p0 y hy=>by
 refine qai (qac (ek63 h63) (qac (ek73 h73) qah)) 1000000 (fn:=Tryz.f37) (by kernel_rfl) (by kernel_rfl) (X:=X37) (by kernel_rfl) ?_
 rw [eq37]
 exact (nt37 Ops.std c63 c73 p0 _ _ some (K5 k0) (rr37 c63 c73 p0 k0 1000000) none).trans (by show ob (F37 c63 c73 p0) _=_;rw [hy];rfl)
noncomputable def M37:C37:=F37 M63 M73
theorem sm37:Sp37 M37:=sf37 sm63 sm73
def X155:Aux:=⟨[],[]⟩
def T155 {R:Type} (B:Ops) (p0:Int) (k:(Int)→Option R):Option R:=cond (B.eq p0 5) (k 6) (cond (B.eq p0 6) (k 5) (cond (B.eq p0 9) (k 10) (k 9)))
theorem eq155 {R:Type} (B:Ops) (p0:Int) (k:AV→Objs→Option R) (n:Nat):afun tau B gl0 X155 gnil ow Tryz.f155 [.c (.int .i64 p0)] [] k n=T155 B p0 (K1 k):=by kernel_rfl
theorem nt155 {R R':Type} (B:Ops) (p0:Int) (k0:(Int)→Option R') (k:R'→Option R):T155 B p0 (fun y=>ob (k0 y) k)=ob (T155 B p0 k0) k:=by
 unfold T155
 repeat' first | exact rfl | apply qae | (apply qaj;intro)
def F155 (p0:Int):Option (Int):=T155 Ops.std p0 some
abbrev C155:Type:=Int→Option (Int)
def e155 {R:Type} (c:C155):Ent R:=eG [.aC (.cI .i64)] [] fun v k=>ob (c v.1) (K1 k)
abbrev Sp155 (c:C155):Prop:=∀ (p0 y:Int),c p0=some y→Spec Tryz.prog gl0 155 [.c (.int .i64 p0)] [] (.c (.int .i64 y)) []
theorem ek155 {R:Type} {c:C155} (hs:Sp155 c):EOk 155 (e155 (R:=R) c):=qam fun v=>hs v.1
theorem sf155:Sp155 (F155):=fun p0 y hy=>by
 refine qai qah 1000000 (fn:=Tryz.f155) (by kernel_rfl) (by kernel_rfl) (X:=X155) (by kernel_rfl) ?_
 rw [eq155]
 exact (nt155 Ops.std p0 some (K1 k0)).trans (by show ob (F155 p0) _=_;rw [hy];rfl)
noncomputable def M155:C155:=F155
theorem sm155:Sp155 M155:=sf155
abbrev K28 {R:Type} (k:AV→Objs→Option R) (y:(L66)):Option R:=k (.c (.own 500)) [(500,.row 66 ty66 y)]
abbrev C93:Type:=L66→L22→Int→Bool→L66→Option (L66)
def e93 {R:Type} (c:C93):Ent R:=eG [.aC (.cL 66 ty66),.aC (.cL 22 ty22),.aC (.cI .i64),.aC .cB,.aC (.cO 4)] [.oR 4 66 ty66] fun v k=>ob (c v.1 v.2.1 v.2.2.1 v.2.2.2.1 v.2.2.2.2.1) (K28 k)
abbrev Sp93 (c:C93):Prop:=∀ (p0:L66) (p1:L22) (p2:Int) (p3:Bool) (p4 y:L66),c p0 p1 p2 p3 p4=some y→Spec Tryz.prog gl0 93 [.c (.list 66 ty66 p0),.c (.list 22 ty22 p1),.c (.int .i64 p2),.c (.bool p3),.c (.own 4)] [(4,.row 66 ty66 p4)] (.c (.own 500)) [(500,.row 66 ty66 y)]
theorem ek93 {R:Type} {c:C93} (hs:Sp93 c):EOk 93 (e93 (R:=R) c):=qam fun v=>hs v.1 v.2.1 v.2.2.1 v.2.2.2.1 v.2.2.2.2.1
def X93:Aux:=⟨[(1000010,([0,1,2,3,5,6,7,8,9,10]++rg 12 145)),(1000015,([0,1,2,3]++rg 5 152)),(1000026,([2,5,6,7,8,9,10]++rg 14 143)),(1000033,([2,5,6,7,8,9,10,13]++rg 15 142)),(1000038,([0,1,2,5,6,7,8,9,10]++rg 12 145))],[(26,.seq ([0,1,2,3,4,5,6,7,8,12,13]) (.alt (.seq [9] (.alt (.seq [10] (.alt (.lin [11,14,15,16]) (.lin [14,11,15,16]))) (.lin [14,10,11,15,16]))) (.lin [14,9,10,11,15,16]))),(33,.seq ([0,1,2,3,4,5,6,7,8,12,13]) (.alt (.seq [9] (.alt (.seq [10] (.alt (.lin [11,14,15,16]) (.lin [14,11,15,16]))) (.lin [14,10,11,15,16]))) (.lin [14,9,10,11,15,16])))]⟩
inductive S93 where
 | l1010 (v0:Int)
 | l1015 (v0:L66)
 | l1026 (v3:Int) (v4:L3) (v5:Int)
 | l1033 (v3:Int) (v4:L3) (v5:Int)
 | l1038 (v1:Int) (v2:L66)
def T93 {R:Type} (B:Ops) (c93:C93) (c155:C155) (p0:L66) (p1:L22) (p2:Int) (p3:Bool) (p4:L66) (again:S93→Option R) (k:(L66)→Option R):Option S93→Option R | none=>cond (B.inb p2 p0.length) (cond (B.inb p2 p1.length) (cond (B.eq (p0.getD p2.toNat ty66.dflt).1 1) (cond (p3) (again (.l1010 (IntKind.wrap .i64 (3-(p0.getD p2.toNat ty66.dflt).1)))) (again (.l1010 (p0.getD p2.toNat ty66.dflt).1))) (cond (B.eq (p0.getD p2.toNat ty66.dflt).1 2) (cond (p3) (again (.l1010 (IntKind.wrap .i64 (3-(p0.getD p2.toNat ty66.dflt).1)))) (again (.l1010 (p0.getD p2.toNat ty66.dflt).1))) (cond (B.eq (p0.getD p2.toNat ty66.dflt).1 3) (cond (B.inb p2 p0.length) (cond (B.lim (List.length p4+List.length (((p0.getD p2.toNat ty66.dflt).1,(p0.getD p2.toNat ty66.dflt).2)::mt (Ty.den ty66))) 32) (cond (p3) (cond (B.lim (List.length (p4++((p0.getD p2.toNat ty66.dflt).1,(p0.getD p2.toNat ty66.dflt).2)::mt (Ty.den ty66))+List.length ((4,mt (Ty.den ty150))::mt (Ty.den ty66))) 32) (again (.l1015 (p4++((p0.getD p2.toNat ty66.dflt).1,(p0.getD p2.toNat ty66.dflt).2)::mt (Ty.den ty66)++(4,mt (Ty.den ty150))::mt (Ty.den ty66)))) none) (again (.l1015 (p4++((p0.getD p2.toNat ty66.dflt).1,(p0.getD p2.toNat ty66.dflt).2)::mt (Ty.den ty66))))) none) none) (cond (B.eq (p0.getD p2.toNat ty66.dflt).1 4) (cond (B.inb 0 (List.length (p1.getD p2.toNat ty22.dflt))) (ob (c93 p0 p1 (List.getD (p1.getD p2.toNat ty22.dflt) (Int.toNat 0) (Ty.dflt (Ty.int .i64))) (!p3) p4) fun y0=>k y0) none) (cond (B.eq (p0.getD p2.toNat ty66.dflt).1 8) (cond (B.inb 0 (List.length (p1.getD p2.toNat ty22.dflt))) (ob (c93 p0 p1 (List.getD (p1.getD p2.toNat ty22.dflt) (Int.toNat 0) (Ty.dflt (Ty.int .i64))) p3 p4) fun y0=>cond (B.lim (List.length y0+List.length (((p0.getD p2.toNat ty66.dflt).1,mt (Ty.den ty150))::mt (Ty.den ty66))) 32) (k (y0++((p0.getD p2.toNat ty66.dflt).1,mt (Ty.den ty150))::mt (Ty.den ty66))) none) none) (cond (B.eq (p0.getD p2.toNat ty66.dflt).1 11) (cond (p3) (again (.l1026 10 (p1.getD p2.toNat ty22.dflt) 2)) (again (.l1026 9 (p1.getD p2.toNat ty22.dflt) 1))) (cond (B.eq (p0.getD p2.toNat ty66.dflt).1 12) (cond (p3) (again (.l1033 9 (p1.getD p2.toNat ty22.dflt) 1)) (again (.l1033 10 (p1.getD p2.toNat ty22.dflt) 2))) (cond (B.eq (p0.getD p2.toNat ty66.dflt).1 7) (cond (B.inb 0 (List.length (p1.getD p2.toNat ty22.dflt))) (ob (c93 p0 p1 (List.getD (p1.getD p2.toNat ty22.dflt) (Int.toNat 0) (Ty.dflt (Ty.int .i64))) (!p3) p4) fun y0=>cond (B.inb 1 (List.length (p1.getD p2.toNat ty22.dflt))) (ob (c93 p0 p1 (List.getD (p1.getD p2.toNat ty22.dflt) (Int.toNat 1) (Ty.dflt (Ty.int .i64))) p3 y0) fun y1=>again (.l1038 6 y1)) none) none) (cond (B.inb 0 (List.length (p1.getD p2.toNat ty22.dflt))) (ob (c93 p0 p1 (List.getD (p1.getD p2.toNat ty22.dflt) (Int.toNat 0) (Ty.dflt (Ty.int .i64))) p3 p4) fun y0=>cond (B.inb 1 (List.length (p1.getD p2.toNat ty22.dflt))) (ob (c93 p0 p1 (List.getD (p1.getD p2.toNat ty22.dflt) (Int.toNat 1) (Ty.dflt (Ty.int .i64))) p3 y0) fun y1=>again (.l1038 (p0.getD p2.toNat ty66.dflt).1 y1)) none) none))))))))) none) none | some (.l1010 v0)=>cond (B.lim (List.length p4+List.length ((v0,mt (Ty.den ty150))::mt (Ty.den ty66))) 32) (k (p4++(v0,mt (Ty.den ty150))::mt (Ty.den ty66))) none | some (.l1015 v0)=>k v0 | some (.l1026 v3 v4 v5)=>cond (B.inb 0 v4.length) (cond (B.lim (List.length p4+List.length ((v5,mt (Ty.den ty150))::mt (Ty.den ty66))) 32) (ob (c93 p0 p1 (v4.getD (Int.toNat 0) ty3.dflt) p3 (p4++(v5,mt (Ty.den ty150))::mt (Ty.den ty66))) fun y0=>cond (B.lim (List.length y0+List.length ((v3,mt (Ty.den ty150))::mt (Ty.den ty66))) 32) (k (y0++(v3,mt (Ty.den ty150))::mt (Ty.den ty66))) none) none) none | some (.l1033 v3 v4 v5)=>cond (B.inb 0 v4.length) (cond (B.lim (List.length p4+List.length ((v5,mt (Ty.den ty150))::mt (Ty.den ty66))) 32) (ob (c93 p0 p1 (v4.getD (Int.toNat 0) ty3.dflt) p3 (p4++(v5,mt (Ty.den ty150))::mt (Ty.den ty66))) fun y0=>cond (B.lim (List.length y0+List.length ((v3,mt (Ty.den ty150))::mt (Ty.den ty66))) 32) (k (y0++(v3,mt (Ty.den ty150))::mt (Ty.den ty66))) none) none) none | some (.l1038 v1 v2)=>cond (p3) (ob (c155 v1) fun y0=>cond (B.lim (List.length v2+List.length ((y0,mt (Ty.den ty150))::mt (Ty.den ty66))) 32) (k (v2++(y0,mt (Ty.den ty150))::mt (Ty.den ty66))) none) (cond (B.lim (List.length v2+List.length ((v1,mt (Ty.den ty150))::mt (Ty.den ty66))) 32) (k (v2++(v1,mt (Ty.den ty150))::mt (Ty.den ty66))) none)
def E93 (p0:L66) (p1:L22) (p2:Int) (p3:Bool) (p4:L66):S93→List AV×Objs
 | .l1010 v0=>(mk 157 [(4,.c (.own 4)),(11,.c (.int .i64 v0))],[(4,.row 66 ty66 p4)])
 | .l1015 v0=>(mk 157 [(4,.c (.own 4))],[(4,.row 66 ty66 v0)])
 | .l1026 v3 v4 v5=>(mk 157 [(0,.c (.list 66 ty66 p0)),(1,.c (.list 22 ty22 p1)),(3,.c (.bool p3)),(4,.c (.own 4)),(11,.c (.int .i64 v3)),(12,.c (.list 3 ty3 v4)),(13,.c (.int .i64 v5))],[(4,.row 66 ty66 p4)])
 | .l1033 v3 v4 v5=>(mk 157 [(0,.c (.list 66 ty66 p0)),(1,.c (.list 22 ty22 p1)),(3,.c (.bool p3)),(4,.c (.own 4)),(11,.c (.int .i64 v3)),(12,.c (.list 3 ty3 v4)),(14,.c (.int .i64 v5))],[(4,.row 66 ty66 p4)])
 | .l1038 v1 v2=>(mk 157 [(3,.c (.bool p3)),(4,.c (.own 4)),(11,.c (.int .i64 v1))],[(4,.row 66 ty66 v2)])
def I93:S93→Nat
 | .l1010 _=>1010
 | .l1015 _=>1015
 | .l1026 _ _ _=>1026
 | .l1033 _ _ _=>1033
 | .l1038 _ _=>1038
noncomputable def Ta93 {R:Type} (B:Ops) (c93:C93) (c155:C155) (p0:L66) (p1:L22) (p2:Int) (p3:Bool) (p4:L66) (again:S93→Option R) (k:(L66)→Option R):Option S93→Option R | none=>cond (Ops.inb B p2 (List.length p0)) (cond (Ops.inb B p2 (List.length p1)) (cond (Ops.eq B (List.getD p0 (Int.toNat p2) (Ty.dflt ty66)).1 1) (cond (p3) (again (.l1010 (IntKind.wrap .i64 (3-(List.getD p0 (Int.toNat p2) (Ty.dflt ty66)).1)))) (again (.l1010 (List.getD p0 (Int.toNat p2) (Ty.dflt ty66)).1))) (cond (Ops.eq B (List.getD p0 (Int.toNat p2) (Ty.dflt ty66)).1 2) (cond (p3) (again (.l1010 (IntKind.wrap .i64 (3-(List.getD p0 (Int.toNat p2) (Ty.dflt ty66)).1)))) (again (.l1010 (List.getD p0 (Int.toNat p2) (Ty.dflt ty66)).1))) (cond (Ops.eq B (List.getD p0 (Int.toNat p2) (Ty.dflt ty66)).1 3) (cond (Ops.inb B p2 (List.length p0)) (cond (Ops.lim B (List.length p4+List.length (((List.getD p0 (Int.toNat p2) (Ty.dflt ty66)).1,(List.getD p0 (Int.toNat p2) (Ty.dflt ty66)).2)::mt (Ty.den ty66))) 32) (cond (p3) (cond (Ops.lim B (List.length (p4++((List.getD p0 (Int.toNat p2) (Ty.dflt ty66)).1,(List.getD p0 (Int.toNat p2) (Ty.dflt ty66)).2)::mt (Ty.den ty66))+List.length ((4,mt (Ty.den ty150))::mt (Ty.den ty66))) 32) (again (.l1015 (p4++((List.getD p0 (Int.toNat p2) (Ty.dflt ty66)).1,(List.getD p0 (Int.toNat p2) (Ty.dflt ty66)).2)::mt (Ty.den ty66)++(4,mt (Ty.den ty150))::mt (Ty.den ty66)))) none) (again (.l1015 (p4++((List.getD p0 (Int.toNat p2) (Ty.dflt ty66)).1,(List.getD p0 (Int.toNat p2) (Ty.dflt ty66)).2)::mt (Ty.den ty66))))) none) none) (cond (Ops.eq B (List.getD p0 (Int.toNat p2) (Ty.dflt ty66)).1 4) (cond (Ops.inb B 0 (List.length (List.getD p1 (Int.toNat p2) (Ty.dflt ty22)))) (ob (c93 p0 p1 (List.getD (List.getD p1 (Int.toNat p2) (Ty.dflt ty22)) (Int.toNat 0) (Ty.dflt (Ty.int .i64))) (!p3) p4) fun y0=>k y0) none) (cond (Ops.eq B (List.getD p0 (Int.toNat p2) (Ty.dflt ty66)).1 8) (cond (Ops.inb B 0 (List.length (List.getD p1 (Int.toNat p2) (Ty.dflt ty22)))) (ob (c93 p0 p1 (List.getD (List.getD p1 (Int.toNat p2) (Ty.dflt ty22)) (Int.toNat 0) (Ty.dflt (Ty.int .i64))) p3 p4) fun y0=>cond (Ops.lim B (List.length y0+List.length (((List.getD p0 (Int.toNat p2) (Ty.dflt ty66)).1,mt (Ty.den ty150))::mt (Ty.den ty66))) 32) (k (y0++((List.getD p0 (Int.toNat p2) (Ty.dflt ty66)).1,mt (Ty.den ty150))::mt (Ty.den ty66))) none) none) (cond (Ops.eq B (List.getD p0 (Int.toNat p2) (Ty.dflt ty66)).1 11) (cond (p3) (again (.l1026 10 (List.getD p1 (Int.toNat p2) (Ty.dflt ty22)) 2)) (again (.l1026 9 (List.getD p1 (Int.toNat p2) (Ty.dflt ty22)) 1))) (cond (Ops.eq B (List.getD p0 (Int.toNat p2) (Ty.dflt ty66)).1 12) (cond (p3) (again (.l1033 9 (List.getD p1 (Int.toNat p2) (Ty.dflt ty22)) 1)) (again (.l1033 10 (List.getD p1 (Int.toNat p2) (Ty.dflt ty22)) 2))) (cond (Ops.eq B (List.getD p0 (Int.toNat p2) (Ty.dflt ty66)).1 7) (cond (Ops.inb B 0 (List.length (List.getD p1 (Int.toNat p2) (Ty.dflt ty22)))) (ob (c93 p0 p1 (List.getD (List.getD p1 (Int.toNat p2) (Ty.dflt ty22)) (Int.toNat 0) (Ty.dflt (Ty.int .i64))) (!p3) p4) fun y0=>cond (Ops.inb B 1 (List.length (List.getD p1 (Int.toNat p2) (Ty.dflt ty22)))) (ob (c93 p0 p1 (List.getD (List.getD p1 (Int.toNat p2) (Ty.dflt ty22)) (Int.toNat 1) (Ty.dflt (Ty.int .i64))) p3 y0) fun y1=>again (.l1038 6 y1)) none) none) (cond (Ops.inb B 0 (List.length (List.getD p1 (Int.toNat p2) (Ty.dflt ty22)))) (ob (c93 p0 p1 (List.getD (List.getD p1 (Int.toNat p2) (Ty.dflt ty22)) (Int.toNat 0) (Ty.dflt (Ty.int .i64))) p3 p4) fun y0=>cond (Ops.inb B 1 (List.length (List.getD p1 (Int.toNat p2) (Ty.dflt ty22)))) (ob (c93 p0 p1 (List.getD (List.getD p1 (Int.toNat p2) (Ty.dflt ty22)) (Int.toNat 1) (Ty.dflt (Ty.int .i64))) p3 y0) fun y1=>again (.l1038 (List.getD p0 (Int.toNat p2) (Ty.dflt ty66)).1 y1)) none) none))))))))) none) none | some (.l1010 v0)=>cond (Ops.lim B (List.length p4+List.length ((v0,mt (Ty.den ty150))::mt (Ty.den ty66))) 32) (k (p4++(v0,mt (Ty.den ty150))::mt (Ty.den ty66))) none | some (.l1015 v0)=>k v0 | some (.l1026 v3 v4 v5)=>cond (Ops.inb B 0 (List.length v4)) (agree (agree (cond (Ops.lim B (List.length p4+List.length ((v5,mt (Ty.den ty150))::mt (Ty.den ty66))) 32) (agree (ob (c93 p0 p1 (List.getD v4 (Int.toNat 0) (Ty.dflt ty3)) p3 (p4++(v5,mt (Ty.den ty150))::mt (Ty.den ty66))) fun y0=>cond (Ops.lim B (List.length y0+List.length ((v3,mt (Ty.den ty150))::mt (Ty.den ty66))) 32) (k (y0++(v3,mt (Ty.den ty150))::mt (Ty.den ty66))) none) (ob (c93 p0 p1 (List.getD v4 (Int.toNat 0) (Ty.dflt ty3)) p3 (p4++(v5,mt (Ty.den ty150))::mt (Ty.den ty66))) fun y0=>cond (Ops.lim B (List.length y0+List.length ((v3,mt (Ty.den ty150))::mt (Ty.den ty66))) 32) (k (y0++(v3,mt (Ty.den ty150))::mt (Ty.den ty66))) none)) none) (cond (Ops.lim B (List.length p4+List.length ((v5,mt (Ty.den ty150))::mt (Ty.den ty66))) 32) (ob (c93 p0 p1 (List.getD v4 (Int.toNat 0) (Ty.dflt ty3)) p3 (p4++(v5,mt (Ty.den ty150))::mt (Ty.den ty66))) fun y0=>cond (Ops.lim B (List.length y0+List.length ((v3,mt (Ty.den ty150))::mt (Ty.den ty66))) 32) (k (y0++(v3,mt (Ty.den ty150))::mt (Ty.den ty66))) none) none)) (cond (Ops.lim B (List.length p4+List.length ((v5,mt (Ty.den ty150))::mt (Ty.den ty66))) 32) (ob (c93 p0 p1 (List.getD v4 (Int.toNat 0) (Ty.dflt ty3)) p3 (p4++(v5,mt (Ty.den ty150))::mt (Ty.den ty66))) fun y0=>cond (Ops.lim B (List.length y0+List.length ((v3,mt (Ty.den ty150))::mt (Ty.den ty66))) 32) (k (y0++(v3,mt (Ty.den ty150))::mt (Ty.den ty66))) none) none)) none | some (.l1033 v3 v4 v5)=>cond (Ops.inb B 0 (List.length v4)) (agree (agree (cond (Ops.lim B (List.length p4+List.length ((v5,mt (Ty.den ty150))::mt (Ty.den ty66))) 32) (agree (ob (c93 p0 p1 (List.getD v4 (Int.toNat 0) (Ty.dflt ty3)) p3 (p4++(v5,mt (Ty.den ty150))::mt (Ty.den ty66))) fun y0=>cond (Ops.lim B (List.length y0+List.length ((v3,mt (Ty.den ty150))::mt (Ty.den ty66))) 32) (k (y0++(v3,mt (Ty.den ty150))::mt (Ty.den ty66))) none) (ob (c93 p0 p1 (List.getD v4 (Int.toNat 0) (Ty.dflt ty3)) p3 (p4++(v5,mt (Ty.den ty150))::mt (Ty.den ty66))) fun y0=>cond (Ops.lim B (List.length y0+List.length ((v3,mt (Ty.den ty150))::mt (Ty.den ty66))) 32) (k (y0++(v3,mt (Ty.den ty150))::mt (Ty.den ty66))) none)) none) (cond (Ops.lim B (List.length p4+List.length ((v5,mt (Ty.den ty150))::mt (Ty.den ty66))) 32) (ob (c93 p0 p1 (List.getD v4 (Int.toNat 0) (Ty.dflt ty3)) p3 (p4++(v5,mt (Ty.den ty150))::mt (Ty.den ty66))) fun y0=>cond (Ops.lim B (List.length y0+List.length ((v3,mt (Ty.den ty150))::mt (Ty.den ty66))) 32) (k (y0++(v3,mt (Ty.den ty150))::mt (Ty.den ty66))) none) none)) (cond (Ops.lim B (List.length p4+List.length ((v5,mt (Ty.den ty150))::mt (Ty.den ty66))) 32) (ob (c93 p0 p1 (List.getD v4 (Int.toNat 0) (Ty.dflt ty3)) p3 (p4++(v5,mt (Ty.den ty150))::mt (Ty.den ty66))) fun y0=>cond (Ops.lim B (List.length y0+List.length ((v3,mt (Ty.den ty150))::mt (Ty.den ty66))) 32) (k (y0++(v3,mt (Ty.den ty150))::mt (Ty.den ty66))) none) none)) none | some (.l1038 v1 v2)=>cond (p3) (ob (c155 v1) fun y0=>cond (Ops.lim B (List.length v2+List.length ((y0,mt (Ty.den ty150))::mt (Ty.den ty66))) 32) (k (v2++(y0,mt (Ty.den ty150))::mt (Ty.den ty66))) none) (cond (Ops.lim B (List.length v2+List.length ((v1,mt (Ty.den ty150))::mt (Ty.den ty66))) 32) (k (v2++(v1,mt (Ty.den ty150))::mt (Ty.den ty66))) none)
theorem ta93 {R:Type} (B:Ops) (c93:C93) (c155:C155) (p0:L66) (p1:L22) (p2:Int) (p3:Bool) (p4:L66) (again:S93→Option R) (k:(L66)→Option R):∀ s,Ta93 B c93 c155 p0 p1 p2 p3 p4 again k s=T93 B c93 c155 p0 p1 p2 p3 p4 again k s
 | none=>by unfold Ta93 T93;simp only [qa9]
 | some (.l1010 v0)=>by unfold Ta93 T93;simp only [qa9]
 | some (.l1015 v0)=>by unfold Ta93 T93;simp only [qa9]
 | some (.l1026 v3 v4 v5)=>by unfold Ta93 T93;simp only [qa9]
 | some (.l1033 v3 v4 v5)=>by unfold Ta93 T93;simp only [qa9]
 | some (.l1038 v1 v2)=>by unfold Ta93 T93;simp only [qa9]
noncomputable abbrev A93 {R:Type} (B:Ops) (c93:C93) (c155:C155) (p0:L66) (p1:L22) (p2:Int) (p3:Bool) (p4:L66) (k:AV→Objs→Option R) (s:S93) (n:Nat):Option R:=aloop tau B gl0 X93 (ent 93 (e93 c93) (ent 155 (e155 c155) gnil)) ow [] Tryz.f93 k (I93 s) (E93 p0 p1 p2 p3 p4 s) n
theorem eq93 {R:Type} (B:Ops) (c93:C93) (c155:C155) (p0:L66) (p1:L22) (p2:Int) (p3:Bool) (p4:L66) (k:AV→Objs→Option R) (n:Nat):afun tau B gl0 X93 (ent 93 (e93 c93) (ent 155 (e155 c155) gnil)) ow Tryz.f93 [.c (.list 66 ty66 p0),.c (.list 22 ty22 p1),.c (.int .i64 p2),.c (.bool p3),.c (.own 4)] [(4,.row 66 ty66 p4)] k n=T93 B c93 c155 p0 p1 p2 p3 p4 (fun s=>A93 B c93 c155 p0 p1 p2 p3 p4 k s n) (K28 k) none:=by rw [←ta93];kernel_rfl
theorem el93 {R:Type} (B:Ops) (c93:C93) (c155:C155) (p0:L66) (p1:L22) (p2:Int) (p3:Bool) (p4:L66) (k:AV→Objs→Option R) (n:Nat):∀ s,A93 B c93 c155 p0 p1 p2 p3 p4 k s (n+1)=T93 B c93 c155 p0 p1 p2 p3 p4 (fun s=>A93 B c93 c155 p0 p1 p2 p3 p4 k s n) (K28 k) (some s)
 | .l1010 v0=>by rw [←ta93];kernel_rfl
 | .l1015 v0=>by rw [←ta93];kernel_rfl
 | .l1026 v3 v4 v5=>by rw [←ta93];kernel_rfl
 | .l1033 v3 v4 v5=>by rw [←ta93];kernel_rfl
 | .l1038 v1 v2=>by rw [←ta93];kernel_rfl
theorem nt93 {R R':Type} (B:Ops) (c93:C93) (c155:C155) (p0:L66) (p1:L22) (p2:Int) (p3:Bool) (p4:L66) (again:S93→Option R) (again':S93→Option R') (k0:(L66)→Option R') (k:R'→Option R) (h:∀ s,again s=ob (again' s) k):∀ s,T93 B c93 c155 p0 p1 p2 p3 p4 again (fun y=>ob (k0 y) k) s=ob (T93 B c93 c155 p0 p1 p2 p3 p4 again' k0 s) k:=by
 rintro (_ | x)
 all_goals try cases x
 all_goals (unfold T93;repeat' first | exact rfl | exact h _ | apply qae | (apply qaj;intro))
def R93 (c93:C93) (c155:C155) (p0:L66) (p1:L22) (p2:Int) (p3:Bool) (p4:L66):Nat→S93→Option (L66)
 | 0,_=>none
 | n+1,s=>T93 Ops.std c93 c155 p0 p1 p2 p3 p4 (R93 c93 c155 p0 p1 p2 p3 p4 n) some (some s)
theorem rr93 {R:Type} (c93:C93) (c155:C155) (p0:L66) (p1:L22) (p2:Int) (p3:Bool) (p4:L66) (k:AV→Objs→Option R):∀ (n:Nat) (s:S93),A93 Ops.std c93 c155 p0 p1 p2 p3 p4 k s n=ob (R93 c93 c155 p0 p1 p2 p3 p4 n s) (K28 k)
 | 0,s=>by cases s<;>rfl
 | n+1,s=>by rw [el93];exact nt93 Ops.std c93 c155 p0 p1 p2 p3 p4 _ _ some (K28 k) (rr93 c93 c155 p0 p1 p2 p3 p4 k n) (some s)
def F93 (c93:C93) (c155:C155) (p0:L66) (p1:L22) (p2:Int) (p3:Bool) (p4:L66):Option (L66):=T93 Ops.std c93 c155 p0 p1 p2 p3 p4 (R93 c93 c155 p0 p1 p2 p3 p4 1000000) some none
theorem sf93 {c93:C93} {c155:C155} (h93:Sp93 c93) (h155:Sp155 c155):Sp93 (F93 c93 c155):=fun p0 p1 p2 p3 p4 y hy=>by
 refine qai (qac (ek93 h93) (qac (ek155 h155) qah)) 1000000 (fn:=Tryz.f93) (by kernel_rfl) (by kernel_rfl) (X:=X93) (by kernel_rfl) ?_
 rw [eq93]
 exact (nt93 Ops.std c93 c155 p0 p1 p2 p3 p4 _ _ some (K28 k0) (rr93 c93 c155 p0 p1 p2 p3 p4 k0 1000000) none).trans (by show ob (F93 c93 c155 p0 p1 p2 p3 p4) _=_;rw [hy];rfl)
noncomputable def Rec93:Nat→(L66→L22→Int→Bool→L66→Option (L66))
 | 0=>fun _ _ _ _ _=>none
 | d+1=>F93 (Rec93 d) M155
theorem rec93:∀ d,Sp93 (Rec93 d)
 | 0=>fun p0 p1 p2 p3 p4 y (h:(none:Option (L66))=some y)=>by cases h
 | d+1=>sf93 (rec93 d) sm155
noncomputable def M93:C93:=(Rec93 1000000)
theorem sm93:Sp93 M93:=(rec93 1000000)
def X49:Aux:=⟨[],[]⟩
def T49 {R:Type} (B:Ops) (c63:C63) (c37:C37) (c93:C93) (p0:L66) (p1:Bool) (k:(L66)→Option R):Option R:=ob (c63 p0) fun y0=>cond (!y0) (k (mt (Ty.den ty66))) (ob (c37 p0) fun y1=>ob (c93 p0 y1 (IntKind.wrap .i64 (Nat.cast p0.length-1)) p1 (mt (Ty.den ty66))) fun y2=>cond (B.lt 60 (↑y2.length)) (k (mt (Ty.den ty66))) (k y2))
theorem eq49 {R:Type} (B:Ops) (c63:C63) (c37:C37) (c93:C93) (p0:L66) (p1:Bool) (k:AV→Objs→Option R) (n:Nat):afun tau B gl0 X49 (ent 63 (e63 c63) (ent 37 (e37 c37) (ent 93 (e93 c93) gnil))) ow Tryz.f49 [.c (.list 66 ty66 p0),.c (.bool p1)] [] k n=T49 B c63 c37 c93 p0 p1 (K28 k):=by kernel_rfl
theorem nt49 {R R':Type} (B:Ops) (c63:C63) (c37:C37) (c93:C93) (p0:L66) (p1:Bool) (k0:(L66)→Option R') (k:R'→Option R):T49 B c63 c37 c93 p0 p1 (fun y=>ob (k0 y) k)=ob (T49 B c63 c37 c93 p0 p1 k0) k:=by
 unfold T49
 repeat' first | exact rfl | apply qae | (apply qaj;intro)
def F49 (c63:C63) (c37:C37) (c93:C93) (p0:L66) (p1:Bool):Option (L66):=T49 Ops.std c63 c37 c93 p0 p1 some
abbrev C49:Type:=L66→Bool→Option (L66)
def e49 {R:Type} (c:C49):Ent R:=eG [.aC (.cL 66 ty66),.aC .cB] [] fun v k=>ob (c v.1 v.2.1) (K28 k)
abbrev Sp49 (c:C49):Prop:=∀ (p0:L66) (p1:Bool) (y:L66),c p0 p1=some y→Spec Tryz.prog gl0 49 [.c (.list 66 ty66 p0),.c (.bool p1)] [] (.c (.own 500)) [(500,.row 66 ty66 y)]
theorem ek49 {R:Type} {c:C49} (hs:Sp49 c):EOk 49 (e49 (R:=R) c):=qam fun v=>hs v.1 v.2.1
theorem sf49 {c63:C63} {c37:C37} {c93:C93} (h63:Sp63 c63) (h37:Sp37 c37) (h93:Sp93 c93):Sp49 (F49 c63 c37 c93):=fun p0 p1 y hy=>by
 refine qai (qac (ek63 h63) (qac (ek37 h37) (qac (ek93 h93) qah))) 1000000 (fn:=Tryz.f49) (by kernel_rfl) (by kernel_rfl) (X:=X49) (by kernel_rfl) ?_
 rw [eq49]
 exact (nt49 Ops.std c63 c37 c93 p0 p1 some (K28 k0)).trans (by show ob (F49 c63 c37 c93 p0 p1) _=_;rw [hy];rfl)
noncomputable def M49:C49:=F49 M63 M37 M93
theorem sm49:Sp49 M49:=sf49 sm63 sm37 sm93
def X13:Aux:=⟨[],[]⟩
def T13 {R:Type} (B:Ops) (c49:C49) (p0:L66) (k:(L66)→Option R):Option R:=ob (c49 p0 false) fun y0=>k y0
theorem eq13 {R:Type} (B:Ops) (c49:C49) (p0:L66) (k:AV→Objs→Option R) (n:Nat):afun tau B gl0 X13 (ent 49 (e49 c49) gnil) ow Tryz.f13 [.c (.list 66 ty66 p0)] [] k n=T13 B c49 p0 (K28 k):=by kernel_rfl
theorem nt13 {R R':Type} (B:Ops) (c49:C49) (p0:L66) (k0:(L66)→Option R') (k:R'→Option R):T13 B c49 p0 (fun y=>ob (k0 y) k)=ob (T13 B c49 p0 k0) k:=by
 unfold T13
 repeat' first | exact rfl | apply qae | (apply qaj;intro)
def F13 (c49:C49) (p0:L66):Option (L66):=T13 Ops.std c49 p0 some
abbrev C13:Type:=L66→Option (L66)
def e13 {R:Type} (c:C13):Ent R:=eG [.aC (.cL 66 ty66)] [] fun v k=>ob (c v.1) (K28 k)
abbrev Sp13 (c:C13):Prop:=∀ (p0 y:L66),c p0=some y→Spec Tryz.prog gl0 13 [.c (.list 66 ty66 p0)] [] (.c (.own 500)) [(500,.row 66 ty66 y)]
theorem ek13 {R:Type} {c:C13} (hs:Sp13 c):EOk 13 (e13 (R:=R) c):=qam fun v=>hs v.1
theorem sf13 {c49:C49} (h49:Sp49 c49):Sp13 (F13 c49):=fun p0 y hy=>by
 refine qai (qac (ek49 h49) qah) 1000000 (fn:=Tryz.f13) (by kernel_rfl) (by kernel_rfl) (X:=X13) (by kernel_rfl) ?_
 rw [eq13]
 exact (nt13 Ops.std c49 p0 some (K28 k0)).trans (by show ob (F13 c49 p0) _=_;rw [hy];rfl)
noncomputable def M13:C13:=F13 M49
theorem sm13:Sp13 M13:=sf13 sm49
def X16:Aux:=⟨[],[]⟩
def T16 {R:Type} (B:Ops) (c49:C49) (p0:L66) (k:(L66)→Option R):Option R:=ob (c49 p0 true) fun y0=>k y0
theorem eq16 {R:Type} (B:Ops) (c49:C49) (p0:L66) (k:AV→Objs→Option R) (n:Nat):afun tau B gl0 X16 (ent 49 (e49 c49) gnil) ow Tryz.f16 [.c (.list 66 ty66 p0)] [] k n=T16 B c49 p0 (K28 k):=by kernel_rfl
theorem nt16 {R R':Type} (B:Ops) (c49:C49) (p0:L66) (k0:(L66)→Option R') (k:R'→Option R):T16 B c49 p0 (fun y=>ob (k0 y) k)=ob (T16 B c49 p0 k0) k:=by
 unfold T16
 repeat' first | exact rfl | apply qae | (apply qaj;intro)
def F16 (c49:C49) (p0:L66):Option (L66):=T16 Ops.std c49 p0 some
abbrev C16:Type:=L66→Option (L66)
def e16 {R:Type} (c:C16):Ent R:=eG [.aC (.cL 66 ty66)] [] fun v k=>ob (c v.1) (K28 k)
abbrev Sp16 (c:C16):Prop:=∀ (p0 y:L66),c p0=some y→Spec Tryz.prog gl0 16 [.c (.list 66 ty66 p0)] [] (.c (.own 500)) [(500,.row 66 ty66 y)]
theorem ek16 {R:Type} {c:C16} (hs:Sp16 c):EOk 16 (e16 (R:=R) c):=qam fun v=>hs v.1
theorem sf16 {c49:C49} (h49:Sp49 c49):Sp16 (F16 c49):=fun p0 y hy=>by
 refine qai (qac (ek49 h49) qah) 1000000 (fn:=Tryz.f16) (by kernel_rfl) (by kernel_rfl) (X:=X16) (by kernel_rfl) ?_
 rw [eq16]
 exact (nt16 Ops.std c49 p0 some (K28 k0)).trans (by show ob (F16 c49 p0) _=_;rw [hy];rfl)
noncomputable def M16:C16:=F16 M49
theorem sm16:Sp16 M16:=sf16 sm49
def X30:Aux:=⟨[(3,([0,3]++rg 7 65)),(7,([0,3,6]++rg 8 64))],[(5,.lin (rg 0 18)),(9,.lin (rg 0 33))]⟩
inductive S30 where
 | l0 (v1:Int) (v7:L3)
 | l1 (v1:Int) (v7 v8:L3)
def T30 {R:Type} (B:Ops) (c29:C29) (p0:L94) (p1:L98) (p2:L103) (p3:Int) (again:S30→Option R) (k:(L3×L3)→Option R):Option S30→Option R | none=>again (.l0 0 (mt (Ty.den (Ty.int .i64)))) | some (.l0 v1 v7)=>cond (B.lt v1 (↑p1.length)) (cond (B.eq (IntKind.wrap .i64 (1+v1)) 0) none (cond (B.inb v1 p1.length) (ob (c29 (IntKind.wrap .i64 (Int.tdiv p3 (IntKind.wrap .i64 (1+v1)))) (Nat.cast (List.length (p1.getD v1.toNat ty98.dflt).2))) fun y0=>cond (B.lim (List.length v7+List.length (y0::mt (Ty.den (Ty.int .i64)))) 8) (again (.l0 (IntKind.wrap .i64 (v1+1)) (v7++y0::mt (Ty.den (Ty.int .i64))))) none) none)) (again (.l1 0 v7 ((mt (Ty.den (Ty.int .i64)))))) | some (.l1 v1 v7 v8)=>cond (B.lt v1 (↑p0.length)) (cond (B.inb v1 p0.length) (cond (B.eq (IntKind.wrap .i64 (3+IntKind.wrap .i64 (4*v1))) 0) none (cond (B.inb v1 p0.length) (cond (B.inb v1 p0.length) (ob (c29 (IntKind.wrap .i64 (Int.tdiv p3 (IntKind.wrap .i64 (3+IntKind.wrap .i64 (4*v1))))) (IntKind.wrap .i64 (IntKind.wrap .i64 ((((p0.getD v1.toNat ty94.dflt).2).2).1-((p0.getD v1.toNat ty94.dflt).2).1)+1))) fun y0=>cond (B.lim (List.length v8+List.length (IntKind.wrap .i64 (((p0.getD v1.toNat ty94.dflt).2).1+y0)::mt (Ty.den (Ty.int .i64)))) 8) (again (.l1 (IntKind.wrap .i64 (v1+1)) v7 (v8++IntKind.wrap .i64 (((p0.getD v1.toNat ty94.dflt).2).1+y0)::mt (Ty.den (Ty.int .i64))))) none) none) none)) none) (k (v7,v8))
def E30 (p0:L94) (p1:L98) (p2:L103) (p3:Int):S30→List AV×Objs
 | .l0 v1 v7=>(mk 72 [(1,.c (.int .i64 p3)),(2,.c (.ptr 2 0)),(4,.c (.ptr 4 0)),(5,.c (.ptr 5 0)),(6,.c (.int .i64 v1))],[(2,.box 31 [.list 94 ty94 p0,.list 98 ty98 p1,.list 103 ty103 p2]),(4,.box 57 [.own 5000,.own 5001]),(5,.box 57 [.own 6000,.own 6001]),(5000,.row 3 ty3 (mt (Ty.den (Ty.int .i64)))),(5001,.row 3 ty3 (mt (Ty.den (Ty.int .i64)))),(6000,.row 3 ty3 v7),(6001,.row 3 ty3 (mt (Ty.den (Ty.int .i64))))])
 | .l1 v1 v7 v8=>(mk 72 [(1,.c (.int .i64 p3)),(2,.c (.ptr 2 0)),(4,.c (.ptr 4 0)),(5,.c (.ptr 5 0)),(7,.c (.int .i64 v1))],[(2,.box 31 [.list 94 ty94 p0,.list 98 ty98 p1,.list 103 ty103 p2]),(4,.box 57 [.own 5000,.own 5001]),(5,.box 57 [.own 6000,.own 6001]),(5000,.row 3 ty3 (mt (Ty.den (Ty.int .i64)))),(5001,.row 3 ty3 (mt (Ty.den (Ty.int .i64)))),(6000,.row 3 ty3 v7),(6001,.row 3 ty3 v8)])
def I30:S30→Nat
 | .l0 _ _=>0
 | .l1 _ _ _=>1
abbrev K29 {R:Type} (k:AV→Objs→Option R) (y:(L3×L3)):Option R:=k (.agg [.list 3 ty3 y.1,.list 3 ty3 y.2]) []
noncomputable abbrev A30 {R:Type} (B:Ops) (c29:C29) (p0:L94) (p1:L98) (p2:L103) (p3:Int) (k:AV→Objs→Option R) (s:S30) (n:Nat):Option R:=aloop tau B gl0 X30 (ent 29 (e29 c29) gnil) ow [] Tryz.f30 k (I30 s) (E30 p0 p1 p2 p3 s) n
theorem eq30 {R:Type} (B:Ops) (c29:C29) (p0:L94) (p1:L98) (p2:L103) (p3:Int) (k:AV→Objs→Option R) (n:Nat):afun tau B gl0 X30 (ent 29 (e29 c29) gnil) ow Tryz.f30 [.agg [.list 94 ty94 p0,.list 98 ty98 p1,.list 103 ty103 p2],.c (.int .i64 p3)] [] k n=T30 B c29 p0 p1 p2 p3 (fun s=>A30 B c29 p0 p1 p2 p3 k s n) (K29 k) none:=by kernel_rfl
theorem el30 {R:Type} (B:Ops) (c29:C29) (p0:L94) (p1:L98) (p2:L103) (p3:Int) (k:AV→Objs→Option R) (n:Nat):∀ s,A30 B c29 p0 p1 p2 p3 k s (n+1)=T30 B c29 p0 p1 p2 p3 (fun s=>A30 B c29 p0 p1 p2 p3 k s n) (K29 k) (some s):=by
 intro s
 cases s<;>kernel_rfl
theorem nt30 {R R':Type} (B:Ops) (c29:C29) (p0:L94) (p1:L98) (p2:L103) (p3:Int) (again:S30→Option R) (again':S30→Option R') (k0:(L3×L3)→Option R') (k:R'→Option R) (h:∀ s,again s=ob (again' s) k):∀ s,T30 B c29 p0 p1 p2 p3 again (fun y=>ob (k0 y) k) s=ob (T30 B c29 p0 p1 p2 p3 again' k0 s) k:=by
 rintro (_ | x)
 all_goals try cases x
 all_goals (unfold T30;repeat' first | exact rfl | exact h _ | apply qae | (apply qaj;intro))
def R30 (c29:C29) (p0:L94) (p1:L98) (p2:L103) (p3:Int):Nat→S30→Option (L3×L3)
 | 0,_=>none
 | n+1,s=>T30 Ops.std c29 p0 p1 p2 p3 (R30 c29 p0 p1 p2 p3 n) some (some s)
theorem rr30 {R:Type} (c29:C29) (p0:L94) (p1:L98) (p2:L103) (p3:Int) (k:AV→Objs→Option R):∀ (n:Nat) (s:S30),A30 Ops.std c29 p0 p1 p2 p3 k s n=ob (R30 c29 p0 p1 p2 p3 n s) (K29 k)
 | 0,s=>by cases s<;>rfl
 | n+1,s=>by rw [el30];exact nt30 Ops.std c29 p0 p1 p2 p3 _ _ some (K29 k) (rr30 c29 p0 p1 p2 p3 k n) (some s)
def F30 (c29:C29) (p0:L94) (p1:L98) (p2:L103) (p3:Int):Option (L3×L3):=T30 Ops.std c29 p0 p1 p2 p3 (R30 c29 p0 p1 p2 p3 1000000) some none
abbrev C30:Type:=L94→L98→L103→Int→Option (L3×L3)
def e30 {R:Type} (c:C30):Ent R:=eG [.aG [.cL 94 ty94,.cL 98 ty98,.cL 103 ty103],.aC (.cI .i64)] [] fun v k=>ob (c v.1 v.2.1 v.2.2.1 v.2.2.2.1) (K29 k)
abbrev Sp30 (c:C30):Prop:=∀ (p0:L94) (p1:L98) (p2:L103) (p3:Int) (y:L3×L3),c p0 p1 p2 p3=some y→Spec Tryz.prog gl0 30 [.agg [.list 94 ty94 p0,.list 98 ty98 p1,.list 103 ty103 p2],.c (.int .i64 p3)] [] (.agg [.list 3 ty3 y.1,.list 3 ty3 y.2]) []
theorem ek30 {R:Type} {c:C30} (hs:Sp30 c):EOk 30 (e30 (R:=R) c):=qam fun v=>hs v.1 v.2.1 v.2.2.1 v.2.2.2.1
theorem sf30 {c29:C29} (h29:Sp29 c29):Sp30 (F30 c29):=fun p0 p1 p2 p3 y hy=>by
 refine qai (qac (ek29 h29) qah) 1000000 (fn:=Tryz.f30) (by kernel_rfl) (by kernel_rfl) (X:=X30) (by kernel_rfl) ?_
 rw [eq30]
 exact (nt30 Ops.std c29 p0 p1 p2 p3 _ _ some (K29 k0) (rr30 c29 p0 p1 p2 p3 k0 1000000) none).trans (by show ob (F30 c29 p0 p1 p2 p3) _=_;rw [hy];rfl)
noncomputable def M30:C30:=F30 M29
theorem sm30:Sp30 M30:=sf30 sm29
abbrev C20:Type:=L94→L98→L103→L3→L3→Option (L68×L68)
def e20 {R:Type} (c:C20):Ent R:=eG [.aG [.cL 94 ty94,.cL 98 ty98,.cL 103 ty103],.aC (.cL 3 ty3),.aC (.cL 3 ty3)] [] fun v k=>ob (c v.1 v.2.1 v.2.2.1 v.2.2.2.1 v.2.2.2.2.1) fun y=>k (.agg [.own 501000,.own 501001]) [(501000,.row 68 ty68 y.1),(501001,.row 68 ty68 y.2)]
def X111:Aux:=⟨[],[]⟩
def T111 {R:Type} (B:Ops) (p0:Int) (k:(Int)→Option R):Option R:=k (bif true then bif B.lt (-99999) (bif false then bif B.lt 99999 p0 then p0 else 99999 else bif B.lt p0 99999 then p0 else 99999) then bif false then bif B.lt 99999 p0 then p0 else 99999 else bif B.lt p0 99999 then p0 else 99999 else -99999 else bif B.lt (bif false then bif B.lt 99999 p0 then p0 else 99999 else bif B.lt p0 99999 then p0 else 99999) (-99999) then bif false then bif B.lt 99999 p0 then p0 else 99999 else bif B.lt p0 99999 then p0 else 99999 else -99999)
theorem eq111 {R:Type} (B:Ops) (p0:Int) (k:AV→Objs→Option R) (n:Nat):afun tau B gl0 X111 gnil ow Tryz.f111 [.c (.int .i64 p0)] [] k n=T111 B p0 (K1 k):=by kernel_rfl
theorem nt111 {R R':Type} (B:Ops) (p0:Int) (k0:(Int)→Option R') (k:R'→Option R):T111 B p0 (fun y=>ob (k0 y) k)=ob (T111 B p0 k0) k:=by
 unfold T111
 repeat' first | exact rfl | apply qae | (apply qaj;intro)
def F111 (p0:Int):Option (Int):=T111 Ops.std p0 some
abbrev C111:Type:=Int→Option (Int)
def e111 {R:Type} (c:C111):Ent R:=eG [.aC (.cI .i64)] [] fun v k=>ob (c v.1) (K1 k)
abbrev Sp111 (c:C111):Prop:=∀ (p0 y:Int),c p0=some y→Spec Tryz.prog gl0 111 [.c (.int .i64 p0)] [] (.c (.int .i64 y)) []
theorem ek111 {R:Type} {c:C111} (hs:Sp111 c):EOk 111 (e111 (R:=R) c):=qam fun v=>hs v.1
theorem sf111:Sp111 (F111):=fun p0 y hy=>by
 refine qai qah 1000000 (fn:=Tryz.f111) (by kernel_rfl) (by kernel_rfl) (X:=X111) (by kernel_rfl) ?_
 rw [eq111]
 exact (nt111 Ops.std p0 some (K1 k0)).trans (by show ob (F111 p0) _=_;rw [hy];rfl)
noncomputable def M111:C111:=F111
theorem sm111:Sp111 M111:=sf111
def X112:Aux:=⟨[],[]⟩
def T112 {R:Type} (B:Ops) (p0:Bool) (k:(Int)→Option R):Option R:=cond (p0) (k 1) (k 0)
theorem eq112 {R:Type} (B:Ops) (p0:Bool) (k:AV→Objs→Option R) (n:Nat):afun tau B gl0 X112 gnil ow Tryz.f112 [.c (.bool p0)] [] k n=T112 B p0 (K1 k):=by kernel_rfl
theorem nt112 {R R':Type} (B:Ops) (p0:Bool) (k0:(Int)→Option R') (k:R'→Option R):T112 B p0 (fun y=>ob (k0 y) k)=ob (T112 B p0 k0) k:=by
 unfold T112
 repeat' first | exact rfl | apply qae | (apply qaj;intro)
def F112 (p0:Bool):Option (Int):=T112 Ops.std p0 some
abbrev C112:Type:=Bool→Option (Int)
def e112 {R:Type} (c:C112):Ent R:=eG [.aC .cB] [] fun v k=>ob (c v.1) (K1 k)
abbrev Sp112 (c:C112):Prop:=∀ (p0:Bool) (y:Int),c p0=some y→Spec Tryz.prog gl0 112 [.c (.bool p0)] [] (.c (.int .i64 y)) []
theorem ek112 {R:Type} {c:C112} (hs:Sp112 c):EOk 112 (e112 (R:=R) c):=qam fun v=>hs v.1
theorem sf112:Sp112 (F112):=fun p0 y hy=>by
 refine qai qah 1000000 (fn:=Tryz.f112) (by kernel_rfl) (by kernel_rfl) (X:=X112) (by kernel_rfl) ?_
 rw [eq112]
 exact (nt112 Ops.std p0 some (K1 k0)).trans (by show ob (F112 p0) _=_;rw [hy];rfl)
noncomputable def M112:C112:=F112
theorem sm112:Sp112 M112:=sf112
def X113:Aux:=⟨[],[]⟩
def T113 {R:Type} (B:Ops) (c111:C111) (c112:C112) (p0 p1 p2:Int) (k:(Int)→Option R):Option R:=cond (B.eq p0 6) (ob (c111 (IntKind.wrap .i64 (p1*p2))) fun y0=>k y0) (cond (B.eq p0 7) (ob (c111 (IntKind.wrap .i64 (p1+p2))) fun y0=>k y0) (cond (B.eq p0 8) (ob (c111 (IntKind.wrap .i64 (p1-p2))) fun y0=>k y0) (cond (B.eq p0 9) (ob (c112 (B.lt p1 p2)) fun y0=>k y0) (cond (B.eq p0 10) (ob (c112 (B.le p1 p2)) fun y0=>k y0) (cond (B.eq p0 11) (ob (c112 (B.lt p2 p1)) fun y0=>k y0) (cond (B.eq p0 12) (ob (c112 (B.le p2 p1)) fun y0=>k y0) (cond (B.eq p0 13) (ob (c112 (B.eq p1 p2)) fun y0=>k y0) (cond (B.eq p0 14) (ob (c112 !B.eq p1 p2) fun y0=>k y0) (cond (B.eq p0 15) (cond (!B.eq p1 0) (ob (c112 !B.eq p2 0) fun y0=>k y0) (ob (c112 false) fun y0=>k y0)) (cond (!B.eq p1 0) (ob (c112 true) fun y0=>k y0) (ob (c112 !B.eq p2 0) fun y0=>k y0)))))))))))
theorem eq113 {R:Type} (B:Ops) (c111:C111) (c112:C112) (p0 p1 p2:Int) (k:AV→Objs→Option R) (n:Nat):afun tau B gl0 X113 (ent 111 (e111 c111) (ent 112 (e112 c112) gnil)) ow Tryz.f113 [.c (.int .i64 p0),.c (.int .i64 p1),.c (.int .i64 p2)] [] k n=T113 B c111 c112 p0 p1 p2 (K1 k):=by kernel_rfl
theorem nt113 {R R':Type} (B:Ops) (c111:C111) (c112:C112) (p0 p1 p2:Int) (k0:(Int)→Option R') (k:R'→Option R):T113 B c111 c112 p0 p1 p2 (fun y=>ob (k0 y) k)=ob (T113 B c111 c112 p0 p1 p2 k0) k:=by
 unfold T113
 repeat' first | exact rfl | apply qae | (apply qaj;intro)
def F113 (c111:C111) (c112:C112) (p0 p1 p2:Int):Option (Int):=T113 Ops.std c111 c112 p0 p1 p2 some
abbrev C113:Type:=Int→Int→Int→Option (Int)
def e113 {R:Type} (c:C113):Ent R:=eG [.aC (.cI .i64),.aC (.cI .i64),.aC (.cI .i64)] [] fun v k=>ob (c v.1 v.2.1 v.2.2.1) (K1 k)
abbrev Sp113 (c:C113):Prop:=∀ (p0 p1 p2 y:Int),c p0 p1 p2=some y→Spec Tryz.prog gl0 113 [.c (.int .i64 p0),.c (.int .i64 p1),.c (.int .i64 p2)] [] (.c (.int .i64 y)) []
theorem ek113 {R:Type} {c:C113} (hs:Sp113 c):EOk 113 (e113 (R:=R) c):=qam fun v=>hs v.1 v.2.1 v.2.2.1
theorem sf113 {c111:C111} {c112:C112} (h111:Sp111 c111) (h112:Sp112 c112):Sp113 (F113 c111 c112):=fun p0 p1 p2 y hy=>by
 refine qai (qac (ek111 h111) (qac (ek112 h112) qah)) 1000000 (fn:=Tryz.f113) (by kernel_rfl) (by kernel_rfl) (X:=X113) (by kernel_rfl) ?_
 rw [eq113]
 exact (nt113 Ops.std c111 c112 p0 p1 p2 some (K1 k0)).trans (by show ob (F113 c111 c112 p0 p1 p2) _=_;rw [hy];rfl)
noncomputable def M113:C113:=F113 M111 M112
theorem sm113:Sp113 M113:=sf113 sm111 sm112
def X64:Aux:=⟨[(5,([0,1,5,6]++rg 9 148))],[(16,.lin (rg 0 13)),(19,.lin (rg 0 16)),(23,.lin (rg 0 16)),(27,.lin (rg 0 16)),(12,.lin (rg 0 22))]⟩
inductive S64 where
 | l0 (v1:Int) (v7:L3)
def T64 {R:Type} (B:Ops) (c62:C62) (c109:C109) (c111:C111) (c105:C105) (c108:C108) (c112:C112) (c113:C113) (p0:L94) (p1:L98) (p2:L103) (p3 p4:L3) (p5:L150) (again:S64→Option R) (k:(Int)→Option R):Option S64→Option R | none=>ob (c62 p0 p1 p2 p5) fun y0=>cond (!y0) (k 0) (cond (!B.eq (↑p3.length) (↑p1.length)) (k 0) (cond (!B.eq (↑p4.length) (↑p0.length)) (k 0) (again (.l0 0 (mt (Ty.den (Ty.int .i64))))))) | some (.l0 v1 v7)=>cond (B.lt v1 (↑p5.length)) (cond (B.inb v1 p5.length) (cond (B.eq (p5.getD v1.toNat ty150.dflt).1 1) (cond (B.lim (List.length v7+List.length (((p5.getD v1.toNat ty150.dflt).2).1::mt (Ty.den (Ty.int .i64)))) 8) (again (.l0 (IntKind.wrap .i64 (v1+1)) (v7++((p5.getD v1.toNat ty150.dflt).2).1::mt (Ty.den (Ty.int .i64))))) none) (cond (B.eq (p5.getD v1.toNat ty150.dflt).1 2) (ob (c109 p0 p1 p2 (((p5.getD v1.toNat ty150.dflt).2).2).1) fun y0=>cond (B.inb y0 p4.length) (ob (c111 (p4.getD y0.toNat ty3.dflt)) fun y1=>cond (B.lim (List.length v7+List.length (y1::mt (Ty.den (Ty.int .i64)))) 8) (again (.l0 (IntKind.wrap .i64 (v1+1)) (v7++y1::mt (Ty.den (Ty.int .i64))))) none) none) (cond (B.eq (p5.getD v1.toNat ty150.dflt).1 3) (ob (c105 p0 p1 p2 (((p5.getD v1.toNat ty150.dflt).2).2).1) fun y0=>cond (B.inb y0 p3.length) (ob (c108 p0 p1 p2 y0 (((p5.getD v1.toNat ty150.dflt).2).2).2) fun y1=>ob (c112 (B.eq (p3.getD y0.toNat ty3.dflt) y1)) fun y2=>cond (B.lim (List.length v7+List.length (y2::mt (Ty.den (Ty.int .i64)))) 8) (again (.l0 (IntKind.wrap .i64 (v1+1)) (v7++y2::mt (Ty.den (Ty.int .i64))))) none) none) (cond (B.eq (p5.getD v1.toNat ty150.dflt).1 4) (cond (B.lt (↑v7.length) 1) (k 0) (cond (B.eq (IntKind.wrap .i64 (Nat.cast v7.length-1)) (IntKind.wrap .i64 (Nat.cast v7.length-1))) (cond (B.inb (IntKind.wrap .i64 (Nat.cast v7.length-1)) (List.length v7+1)) (cond (B.inb (IntKind.wrap .i64 (Nat.cast v7.length-1)) v7.length) (ob (c112 (B.eq (v7.getD (Int.toNat (IntKind.wrap .i64 (Nat.cast v7.length-1))) ty3.dflt) 0)) fun y0=>cond (B.lt 0 (Nat.cast (List.length (y0::mt (Ty.den (Ty.int .i64)))))) (cond (B.lim (List.length (List.take (Int.toNat (IntKind.wrap .i64 (Nat.cast v7.length-1))) v7)+List.length (y0::mt (Ty.den (Ty.int .i64)))) 8) (again (.l0 (IntKind.wrap .i64 (v1+1)) (List.take (Int.toNat (IntKind.wrap .i64 (Nat.cast v7.length-1))) v7++y0::mt (Ty.den (Ty.int .i64))))) none) none) none) none) none)) (cond (B.eq (p5.getD v1.toNat ty150.dflt).1 5) (cond (B.lt (↑v7.length) 1) (k 0) (cond (B.eq (IntKind.wrap .i64 (Nat.cast v7.length-1)) (IntKind.wrap .i64 (Nat.cast v7.length-1))) (cond (B.inb (IntKind.wrap .i64 (Nat.cast v7.length-1)) (List.length v7+1)) (cond (B.inb (IntKind.wrap .i64 (Nat.cast v7.length-1)) v7.length) (ob (c111 (IntKind.wrap .i64 (0-v7.getD (Int.toNat (IntKind.wrap .i64 (Nat.cast v7.length-1))) ty3.dflt))) fun y0=>cond (B.lt 0 (Nat.cast (List.length (y0::mt (Ty.den (Ty.int .i64)))))) (cond (B.lim (List.length (List.take (Int.toNat (IntKind.wrap .i64 (Nat.cast v7.length-1))) v7)+List.length (y0::mt (Ty.den (Ty.int .i64)))) 8) (again (.l0 (IntKind.wrap .i64 (v1+1)) (List.take (Int.toNat (IntKind.wrap .i64 (Nat.cast v7.length-1))) v7++y0::mt (Ty.den (Ty.int .i64))))) none) none) none) none) none)) (cond (B.lt (↑v7.length) 2) (k 0) (cond (B.eq (IntKind.wrap .i64 (Nat.cast v7.length-2)) (IntKind.wrap .i64 (Nat.cast v7.length-2))) (cond (B.inb (IntKind.wrap .i64 (Nat.cast v7.length-2)) (List.length v7+1)) (cond (B.inb (IntKind.wrap .i64 (Nat.cast v7.length-2)) v7.length) (cond (B.inb (IntKind.wrap .i64 (Nat.cast v7.length-1)) v7.length) (ob (c113 (p5.getD v1.toNat ty150.dflt).1 (v7.getD (Int.toNat (IntKind.wrap .i64 (Nat.cast v7.length-2))) ty3.dflt) (v7.getD (Int.toNat (IntKind.wrap .i64 (Nat.cast v7.length-1))) ty3.dflt)) fun y0=>cond (B.lt 0 (Nat.cast (List.length (y0::mt (Ty.den (Ty.int .i64)))))) (cond (B.lim (List.length (List.take (Int.toNat (IntKind.wrap .i64 (Nat.cast v7.length-2))) v7)+List.length (y0::mt (Ty.den (Ty.int .i64)))) 8) (again (.l0 (IntKind.wrap .i64 (v1+1)) (List.take (Int.toNat (IntKind.wrap .i64 (Nat.cast v7.length-2))) v7++y0::mt (Ty.den (Ty.int .i64))))) none) none) none) none) none) none))))))) none) (cond (B.eq (↑v7.length) 0) (k 0) (cond (B.inb 0 v7.length) (k (v7.getD (Int.toNat 0) ty3.dflt)) none))
def E64 (p0:L94) (p1:L98) (p2:L103) (p3 p4:L3) (p5:L150):S64→List AV×Objs
 | .l0 v1 v7=>(mk 157 [(2,.c (.list 150 ty150 p5)),(3,.c (.ptr 3 0)),(4,.c (.ptr 4 0)),(7,.c (.own 7)),(8,.c (.int .i64 v1))],[(3,.box 31 [.list 94 ty94 p0,.list 98 ty98 p1,.list 103 ty103 p2]),(4,.box 57 [.list 3 ty3 p3,.list 3 ty3 p4]),(7,.row 3 ty3 v7)])
def I64:S64→Nat
 | .l0 _ _=>0
noncomputable abbrev A64 {R:Type} (B:Ops) (c62:C62) (c109:C109) (c111:C111) (c105:C105) (c108:C108) (c112:C112) (c113:C113) (p0:L94) (p1:L98) (p2:L103) (p3 p4:L3) (p5:L150) (k:AV→Objs→Option R) (s:S64) (n:Nat):Option R:=aloop tau B gl0 X64 (ent 62 (e62 c62) (ent 109 (e109 c109) (ent 111 (e111 c111) (ent 105 (e105 c105) (ent 108 (e108 c108) (ent 112 (e112 c112) (ent 113 (e113 c113) gnil))))))) ow [] Tryz.f64 k (I64 s) (E64 p0 p1 p2 p3 p4 p5 s) n
theorem eq64 {R:Type} (B:Ops) (c62:C62) (c109:C109) (c111:C111) (c105:C105) (c108:C108) (c112:C112) (c113:C113) (p0:L94) (p1:L98) (p2:L103) (p3 p4:L3) (p5:L150) (k:AV→Objs→Option R) (n:Nat):afun tau B gl0 X64 (ent 62 (e62 c62) (ent 109 (e109 c109) (ent 111 (e111 c111) (ent 105 (e105 c105) (ent 108 (e108 c108) (ent 112 (e112 c112) (ent 113 (e113 c113) gnil))))))) ow Tryz.f64 [.agg [.list 94 ty94 p0,.list 98 ty98 p1,.list 103 ty103 p2],.agg [.list 3 ty3 p3,.list 3 ty3 p4],.c (.list 150 ty150 p5)] [] k n=T64 B c62 c109 c111 c105 c108 c112 c113 p0 p1 p2 p3 p4 p5 (fun s=>A64 B c62 c109 c111 c105 c108 c112 c113 p0 p1 p2 p3 p4 p5 k s n) (K1 k) none:=by kernel_rfl
theorem el64 {R:Type} (B:Ops) (c62:C62) (c109:C109) (c111:C111) (c105:C105) (c108:C108) (c112:C112) (c113:C113) (p0:L94) (p1:L98) (p2:L103) (p3 p4:L3) (p5:L150) (k:AV→Objs→Option R) (n:Nat):∀ s,A64 B c62 c109 c111 c105 c108 c112 c113 p0 p1 p2 p3 p4 p5 k s (n+1)=T64 B c62 c109 c111 c105 c108 c112 c113 p0 p1 p2 p3 p4 p5 (fun s=>A64 B c62 c109 c111 c105 c108 c112 c113 p0 p1 p2 p3 p4 p5 k s n) (K1 k) (some s):=by
 intro s
 cases s<;>kernel_rfl
theorem nt64 {R R':Type} (B:Ops) (c62:C62) (c109:C109) (c111:C111) (c105:C105) (c108:C108) (c112:C112) (c113:C113) (p0:L94) (p1:L98) (p2:L103) (p3 p4:L3) (p5:L150) (again:S64→Option R) (again':S64→Option R') (k0:(Int)→Option R') (k:R'→Option R) (h:∀ s,again s=ob (again' s) k):∀ s,T64 B c62 c109 c111 c105 c108 c112 c113 p0 p1 p2 p3 p4 p5 again (fun y=>ob (k0 y) k) s=ob (T64 B c62 c109 c111 c105 c108 c112 c113 p0 p1 p2 p3 p4 p5 again' k0 s) k:=by
 rintro (_ | x)
 all_goals try cases x
 all_goals (unfold T64;repeat' first | exact rfl | exact h _ | apply qae | (apply qaj;intro))
def R64 (c62:C62) (c109:C109) (c111:C111) (c105:C105) (c108:C108) (c112:C112) (c113:C113) (p0:L94) (p1:L98) (p2:L103) (p3 p4:L3) (p5:L150):Nat→S64→Option (Int)
 | 0,_=>none
 | n+1,s=>T64 Ops.std c62 c109 c111 c105 c108 c112 c113 p0 p1 p2 p3 p4 p5 (R64 c62 c109 c111 c105 c108 c112 c113 p0 p1 p2 p3 p4 p5 n) some (some s)
theorem rr64 {R:Type} (c62:C62) (c109:C109) (c111:C111) (c105:C105) (c108:C108) (c112:C112) (c113:C113) (p0:L94) (p1:L98) (p2:L103) (p3 p4:L3) (p5:L150) (k:AV→Objs→Option R):∀ (n:Nat) (s:S64),A64 Ops.std c62 c109 c111 c105 c108 c112 c113 p0 p1 p2 p3 p4 p5 k s n=ob (R64 c62 c109 c111 c105 c108 c112 c113 p0 p1 p2 p3 p4 p5 n s) (K1 k)
 | 0,s=>by cases s<;>rfl
 | n+1,s=>by rw [el64];exact nt64 Ops.std c62 c109 c111 c105 c108 c112 c113 p0 p1 p2 p3 p4 p5 _ _ some (K1 k) (rr64 c62 c109 c111 c105 c108 c112 c113 p0 p1 p2 p3 p4 p5 k n) (some s)
def F64 (c62:C62) (c109:C109) (c111:C111) (c105:C105) (c108:C108) (c112:C112) (c113:C113) (p0:L94) (p1:L98) (p2:L103) (p3 p4:L3) (p5:L150):Option (Int):=T64 Ops.std c62 c109 c111 c105 c108 c112 c113 p0 p1 p2 p3 p4 p5 (R64 c62 c109 c111 c105 c108 c112 c113 p0 p1 p2 p3 p4 p5 1000000) some none
abbrev C64:Type:=L94→L98→L103→L3→L3→L150→Option (Int)
def e64 {R:Type} (c:C64):Ent R:=eG [.aG [.cL 94 ty94,.cL 98 ty98,.cL 103 ty103],.aG [.cL 3 ty3,.cL 3 ty3],.aC (.cL 150 ty150)] [] fun v k=>ob (c v.1 v.2.1 v.2.2.1 v.2.2.2.1 v.2.2.2.2.1 v.2.2.2.2.2.1) (K1 k)
abbrev Sp64 (c:C64):Prop:=∀ (p0:L94) (p1:L98) (p2:L103) (p3 p4:L3) (p5:L150) (y:Int),c p0 p1 p2 p3 p4 p5=some y→Spec Tryz.prog gl0 64 [.agg [.list 94 ty94 p0,.list 98 ty98 p1,.list 103 ty103 p2],.agg [.list 3 ty3 p3,.list 3 ty3 p4],.c (.list 150 ty150 p5)] [] (.c (.int .i64 y)) []
theorem ek64 {R:Type} {c:C64} (hs:Sp64 c):EOk 64 (e64 (R:=R) c):=qam fun v=>hs v.1 v.2.1 v.2.2.1 v.2.2.2.1 v.2.2.2.2.1 v.2.2.2.2.2.1
theorem sf64 {c62:C62} {c109:C109} {c111:C111} {c105:C105} {c108:C108} {c112:C112} {c113:C113} (h62:Sp62 c62) (h109:Sp109 c109) (h111:Sp111 c111) (h105:Sp105 c105) (h108:Sp108 c108) (h112:Sp112 c112) (h113:Sp113 c113):Sp64 (F64 c62 c109 c111 c105 c108 c112 c113):=fun p0 p1 p2 p3 p4 p5 y hy=>by
 refine qai (qac (ek62 h62) (qac (ek109 h109) (qac (ek111 h111) (qac (ek105 h105) (qac (ek108 h108) (qac (ek112 h112) (qac (ek113 h113) qah))))))) 1000000 (fn:=Tryz.f64) (by kernel_rfl) (by kernel_rfl) (X:=X64) (by kernel_rfl) ?_
 rw [eq64]
 exact (nt64 Ops.std c62 c109 c111 c105 c108 c112 c113 p0 p1 p2 p3 p4 p5 _ _ some (K1 k0) (rr64 c62 c109 c111 c105 c108 c112 c113 p0 p1 p2 p3 p4 p5 k0 1000000) none).trans (by show ob (F64 c62 c109 c111 c105 c108 c112 c113 p0 p1 p2 p3 p4 p5) _=_;rw [hy];rfl)
noncomputable def M64:C64:=F64 M62 M109 M111 M105 M108 M112 M113
theorem sm64:Sp64 M64:=sf64 sm62 sm109 sm111 sm105 sm108 sm112 sm113
end Go.Proofs.YtccnmhdgghjgoaaGreatDoor.Av
