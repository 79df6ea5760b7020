/- Twins of functions,printed by gen.py. Conditions: none. -/
import Derived.Test.YtccnmhdgghjgoaaGreatDoorWp4
import Derived.KernelRfl
set_option linter.unusedSimpArgs false
set_option linter.unusedVariables false
set_option maxRecDepth 100000
set_option maxHeartbeats 8000000
namespace Go.Proofs.YtccnmhdgghjgoaaGreatDoor.Av
open Go
def e50 {R:Type} (c:Int→L3→Int→Option (LB×L3×Int)):Ent R:=fun args objs k=>
 oCons args fun a0 l0=>oC a0 fun x0=>cPtr 0 x0 <| oI l0 .i64 fun p0 l1=>oNil l1 <| oBox 0 86 objs fun b0 o0=>cCons b0 fun u0_0 v0=>cList 3 ty3 u0_0 fun p1=>cCons v0 fun u0_1 v1=>cInt .i64 u0_1 fun p2=>cNil v1 <| oNilO o0 <| ob (c p0 p1 p2) (K17 k)
abbrev Sp50 (c:Int→L3→Int→Option (LB×L3×Int)):Prop:=∀ (p0:Int) (p1:L3) (p2:Int) (y:LB×L3×Int),c p0 p1 p2=some y→Spec Tryz.prog gl0 50 [.c (.ptr 0 0),.c (.int .i64 p0)] [(0,.box 86 [.list 3 ty3 p1,.int .i64 p2])] (.c (.str y.1)) [(0,.box 86 [.list 3 ty3 y.2.1,.int .i64 y.2.2])]
theorem ek50 {R:Type} {c:Int→L3→Int→Option (LB×L3×Int)} (hs:Sp50 c):EOk 50 (e50 (R:=R) c):=fun args objs k r h=>by
 unfold e50 at h
 obtain ⟨a0,l0,rfl,q1⟩:=qae h
 obtain ⟨x0,rfl,q2⟩:=qa5 q1
 obtain ⟨rfl,q3⟩:=qau q2
 obtain ⟨p0,l1,rfl,q6⟩:=qaz q3
 obtain ⟨rfl,q7⟩:=qaw q6
 obtain ⟨b0,o0,rfl,q8⟩:=qav q7
 obtain ⟨u0_0,v0,rfl,q9⟩:=qaa q8
 obtain ⟨p1,rfl,q10⟩:=qab q9
 obtain ⟨u0_1,v1,rfl,q11⟩:=qaa q10
 obtain ⟨p2,rfl,q12⟩:=qan q11
 obtain ⟨rfl,q13⟩:=qah q12
 obtain ⟨rfl,q14⟩:=qas q13
 exact qao (hs p0 p1 p2) q14
def X50:Aux:=⟨[(1000004,([2,3,4]++rg 6 105))],[(11,.lin ([0,1,2,5,6,10,11,12,3,4,7,8,9,13,14,15,16])),(13,.lin ([0,1,2,5,6,10,11,12,3,4,7,8,9,13,14,15,16]))]⟩
inductive S50 where
 | l1004 (v1:Int) (v2:L3) (v3:Int)
abbrev C50:Type:=Int→L3→Int→Option (LB×L3×Int)
def T50 {R:Type} (B:Ops) (c94:C94) (c50:C50) (p0:Int) (p1:L3) (p2:Int) (again:S50→Option R) (k:(LB×L3×Int)→Option R):Option S50→Option R | none=>ob (c94 (22) p1 p2) fun y0=>cond (B.lt (2) p0) (cond (B.eq (4) (0)) none (again (.l1004 (IntKind.wrap .i64 (18+Int.tmod y0.1 (4))) y0.2.1 y0.2.2))) (cond (B.lt (9) y0.2.2) (cond (B.eq (4) (0)) none (again (.l1004 (IntKind.wrap .i64 (18+Int.tmod y0.1 (4))) y0.2.1 y0.2.2))) (again (.l1004 y0.1 y0.2.1 y0.2.2))) | some (.l1004 v1 v2 v3)=>cond (B.lt v1 (3)) (ob (c50 (IntKind.wrap .i64 (p0+1)) v2 v3) fun y0=>cond (B.lim (3+List.length y0.1) (1)) (cond (B.lim (List.length (([71,32,40]:LB)++y0.1)+1) (1)) (k ((([71,32,40]:LB)++y0.1++([41]:LB),y0.2.1,y0.2.2))) none) none) (cond (B.lt v1 (6)) (ob (c50 (IntKind.wrap .i64 (p0+1)) v2 v3) fun y0=>cond (B.lim (3+List.length y0.1) (1)) (cond (B.lim (List.length (([70,32,40]:LB)++y0.1)+1) (1)) (k ((([70,32,40]:LB)++y0.1++([41]:LB),y0.2.1,y0.2.2))) none) none) (cond (B.lt v1 (8)) (ob (c50 (IntKind.wrap .i64 (p0+1)) v2 v3) fun y0=>cond (B.lim (2+List.length y0.1) (1)) (k ((([88,32]:LB)++y0.1,y0.2.1,y0.2.2))) none) (cond (B.lt v1 (11)) (ob (c50 (IntKind.wrap .i64 (p0+1)) v2 v3) fun y0=>cond (B.lim (1+List.length y0.1) (1)) (ob (c94 (2) y0.2.1 y0.2.2) fun y1=>cond (B.inb y1.1 (2)) (cond (B.lim (List.length (([40]:LB)++y0.1)+List.length (List.getD (([32,85,32]:LB)::([32,82,32]:LB)::mt LB) (Int.toNat y1.1) (mt UInt8))) (1)) (ob (c50 (IntKind.wrap .i64 (p0+1)) y1.2.1 y1.2.2) fun y2=>cond (B.lim (List.length (([40]:LB)++y0.1++List.getD (([32,85,32]:LB)::([32,82,32]:LB)::mt LB) (Int.toNat y1.1) (mt UInt8))+List.length y2.1) (1)) (cond (B.lim (List.length (([40]:LB)++y0.1++List.getD (([32,85,32]:LB)::([32,82,32]:LB)::mt LB) (Int.toNat y1.1) (mt UInt8)++y2.1)+1) (1)) (k ((([40]:LB)++y0.1++List.getD (([32,85,32]:LB)::([32,82,32]:LB)::mt LB) (Int.toNat y1.1) (mt UInt8)++y2.1++([41]:LB),y2.2.1,y2.2.2))) none) none) none) none) none) (cond (B.lt v1 (15)) (ob (c50 (IntKind.wrap .i64 (p0+1)) v2 v3) fun y0=>cond (B.lim (1+List.length y0.1) (1)) (ob (c94 (3) y0.2.1 y0.2.2) fun y1=>cond (B.inb y1.1 (3)) (cond (B.lim (List.length (([40]:LB)++y0.1)+List.length (List.getD (([32,38,38,32]:LB)::([32,124,124,32]:LB)::([32,45,62,32]:LB)::mt LB) (Int.toNat y1.1) (mt UInt8))) (1)) (ob (c50 (IntKind.wrap .i64 (p0+1)) y1.2.1 y1.2.2) fun y2=>cond (B.lim (List.length (([40]:LB)++y0.1++List.getD (([32,38,38,32]:LB)::([32,124,124,32]:LB)::([32,45,62,32]:LB)::mt LB) (Int.toNat y1.1) (mt UInt8))+List.length y2.1) (1)) (cond (B.lim (List.length (([40]:LB)++y0.1++List.getD (([32,38,38,32]:LB)::([32,124,124,32]:LB)::([32,45,62,32]:LB)::mt LB) (Int.toNat y1.1) (mt UInt8)++y2.1)+1) (1)) (k ((([40]:LB)++y0.1++List.getD (([32,38,38,32]:LB)::([32,124,124,32]:LB)::([32,45,62,32]:LB)::mt LB) (Int.toNat y1.1) (mt UInt8)++y2.1++([41]:LB),y2.2.1,y2.2.2))) none) none) none) none) none) (cond (B.lt v1 (17)) (ob (c50 (IntKind.wrap .i64 (p0+1)) v2 v3) fun y0=>cond (B.lim (1+List.length y0.1) (1)) (k ((([33]:LB)++y0.1,y0.2.1,y0.2.2))) none) (cond (B.eq v1 (17)) (ob (c50 (IntKind.wrap .i64 (p0+1)) v2 v3) fun y0=>cond (B.lim (4+List.length y0.1) (1)) (k ((([71,32,70,32]:LB)++y0.1,y0.2.1,y0.2.2))) none) (cond (B.eq v1 (18)) (ob (c94 (2) v2 v3) fun y0=>cond (B.inb y0.1 (2)) (k ((List.getD (([116,114,117,101]:LB)::([102,97,108,115,101]:LB)::mt LB) (Int.toNat y0.1) (mt UInt8),y0.2.1,y0.2.2))) none) (ob (c94 (6) v2 v3) fun y0=>cond (B.inb y0.1 (6)) (k ((List.getD (([91,120,61,61,49,93]:LB)::([91,112,64,97,93]:LB)::([91,121,60,49,93]:LB)::([91,113,64,98,38,38,120,62,48,93]:LB)::([91,120,61,61,121,93]:LB)::([91,112,64,98,93]:LB)::mt LB) (Int.toNat y0.1) (mt UInt8),y0.2.1,y0.2.2))) none))))))))
def E50 (p0:Int) (p1:L3) (p2:Int):S50→List AV×Objs
 | .l1004 v1 v2 v3=>(mk 111 [(0,.c (.ptr 0 0)),(1,.c (.int .i64 p0)),(5,.c (.int .i64 v1))],[(0,.box 86 [.list 3 ty3 v2,.int .i64 v3])])
def I50:S50→Nat
 | .l1004 _ _ _=>1004
theorem eq50 {R:Type} (B:Ops) (c94:C94) (c50:C50) (p0:Int) (p1:L3) (p2:Int) (k:AV→Objs→Option R) (n:Nat):afun tau B gl0 X50 (ent 94 (e94 c94) (ent 50 (e50 c50) gnil)) ow Tryz.f50 [.c (.ptr 0 0),.c (.int .i64 p0)] [(0,.box 86 [.list 3 ty3 p1,.int .i64 p2])] k n=T50 B c94 c50 p0 p1 p2 (fun s=>aloop tau B gl0 X50 (ent 94 (e94 c94) (ent 50 (e50 c50) gnil)) ow [0] Tryz.f50 k (I50 s) (E50 p0 p1 p2 s) n) (K17 k) none:=by kernel_rfl
theorem el50 {R:Type} (B:Ops) (c94:C94) (c50:C50) (p0:Int) (p1:L3) (p2:Int) (k:AV→Objs→Option R) (n:Nat):∀ s,aloop tau B gl0 X50 (ent 94 (e94 c94) (ent 50 (e50 c50) gnil)) ow [0] Tryz.f50 k (I50 s) (E50 p0 p1 p2 s) (n+1)=T50 B c94 c50 p0 p1 p2 (fun s=>aloop tau B gl0 X50 (ent 94 (e94 c94) (ent 50 (e50 c50) gnil)) ow [0] Tryz.f50 k (I50 s) (E50 p0 p1 p2 s) n) (K17 k) (some s):=by
 intro s
 cases s<;>kernel_rfl
theorem nt50 {R R':Type} (B:Ops) (c94:C94) (c50:C50) (p0:Int) (p1:L3) (p2:Int) (again:S50→Option R) (again':S50→Option R') (k0:(LB×L3×Int)→Option R') (k:R'→Option R) (h:∀ s,again s=ob (again' s) k):∀ s,T50 B c94 c50 p0 p1 p2 again (fun y=>ob (k0 y) k) s=ob (T50 B c94 c50 p0 p1 p2 again' k0 s) k:=by
 rintro (_ | x)
 all_goals try cases x
 all_goals (unfold T50;repeat' first | exact rfl | exact h _ | apply qaf | (apply qap;intro))
def R50 (c94:C94) (c50:C50) (p0:Int) (p1:L3) (p2:Int):Nat→S50→Option (LB×L3×Int)
 | 0,_=>none
 | n+1,s=>T50 Ops.std c94 c50 p0 p1 p2 (R50 c94 c50 p0 p1 p2 n) some (some s)
theorem rr50 {R:Type} (c94:C94) (c50:C50) (p0:Int) (p1:L3) (p2:Int) (k:AV→Objs→Option R):∀ (n:Nat) (s:S50),aloop tau Ops.std gl0 X50 (ent 94 (e94 c94) (ent 50 (e50 c50) gnil)) ow [0] Tryz.f50 k (I50 s) (E50 p0 p1 p2 s) n=ob (R50 c94 c50 p0 p1 p2 n s) (K17 k)
 | 0,s=>by cases s<;>rfl
 | n+1,s=>by rw [el50];exact nt50 Ops.std c94 c50 p0 p1 p2 _ _ some (K17 k) (rr50 c94 c50 p0 p1 p2 k n) (some s)
def F50 (c94:C94) (c50:C50) (p0:Int) (p1:L3) (p2:Int):Option (LB×L3×Int):=T50 Ops.std c94 c50 p0 p1 p2 (R50 c94 c50 p0 p1 p2 1000000) some none
theorem sf50 {c94:C94} {c50:C50} (h94:Sp94 c94) (h50:Sp50 c50):Sp50 (F50 c94 c50):=fun p0 p1 p2 y hy=>by
 refine qam (qag (ek94 h94) (qag (ek50 h50) qal)) 1000000 (fn:=Tryz.f50) (by kernel_rfl) (by kernel_rfl) (X:=X50) (by kernel_rfl) ?_
 rw [eq50]
 exact (nt50 Ops.std c94 c50 p0 p1 p2 _ _ some (K17 k0) (rr50 c94 c50 p0 p1 p2 k0 1000000) none).trans (by show ob (F50 c94 c50 p0 p1 p2) _=_;rw [hy];rfl)
noncomputable def Rec50:Nat→(Int→L3→Int→Option (LB×L3×Int))
 | 0=>fun _ _ _=>none
 | d+1=>F50 M94 (Rec50 d)
theorem rec50:∀ d,Sp50 (Rec50 d)
 | 0=>fun p0 p1 p2 y (h:(none:Option (LB×L3×Int))=some y)=>by cases h
 | d+1=>sf50 sm94 (rec50 d)
noncomputable def M50:Int→L3→Int→Option (LB×L3×Int):=(Rec50 1000000)
theorem sm50:Sp50 M50:=(rec50 1000000)
def X15:Aux:=⟨[],[]⟩
def T15 {R:Type} (B:Ops) (c50:C50) (p0:L3) (k:(LB)→Option R):Option R:=ob (c50 (0) p0 (0)) fun y0=>k y0.1
theorem eq15 {R:Type} (B:Ops) (c50:C50) (p0:L3) (k:AV→Objs→Option R) (n:Nat):afun tau B gl0 X15 (ent 50 (e50 c50) gnil) ow Tryz.f15 [.c (.list 3 ty3 p0)] [] k n=T15 B c50 p0 (K3 k):=by kernel_rfl
theorem nt15 {R R':Type} (B:Ops) (c50:C50) (p0:L3) (k0:(LB)→Option R') (k:R'→Option R):T15 B c50 p0 (fun y=>ob (k0 y) k)=ob (T15 B c50 p0 k0) k:=by
 unfold T15
 repeat' first | exact rfl | apply qaf | (apply qap;intro)
def F15 (c50:C50) (p0:L3):Option (LB):=T15 Ops.std c50 p0 some
def e15 {R:Type} (c:L3→Option (LB)):Ent R:=fun args objs k=>
 oL args 3 ty3 fun p0 l0=>oE l0 objs <| ob (c p0) (K3 k)
abbrev Sp15 (c:L3→Option (LB)):Prop:=∀ (p0:L3) (y:LB),c p0=some y→Spec Tryz.prog gl0 15 [.c (.list 3 ty3 p0)] [] (.c (.str y)) []
theorem ek15 {R:Type} {c:L3→Option (LB)} (hs:Sp15 c):EOk 15 (e15 (R:=R) c):=fun args objs k r h=>by
 unfold e15 at h
 obtain ⟨p0,l0,rfl,q3⟩:=qa1 h
 obtain ⟨rfl,rfl,q5⟩:=qaq q3
 exact qao (hs p0) q5
theorem sf15 {c50:C50} (h50:Sp50 c50):Sp15 (F15 c50):=fun p0 y hy=>by
 refine qam (qag (ek50 h50) qal) 1000000 (fn:=Tryz.f15) (by kernel_rfl) (by kernel_rfl) (X:=X15) (by kernel_rfl) ?_
 rw [eq15]
 exact (nt15 Ops.std c50 p0 some (K3 k0)).trans (by show ob (F15 c50 p0) _=_;rw [hy];rfl)
noncomputable def M15:L3→Option (LB):=F15 M50
theorem sm15:Sp15 M15:=sf15 sm50
def e16 {R:Type} (c:L66→Option (L66)):Ent R:=fun args objs k=>
 oL args 66 ty66 fun p0 l0=>oE l0 objs <| ob (c p0) fun y=>k (.c (.own 500)) [(500,.row 66 ty66 y)]
def X30:Aux:=⟨[(3,([0,3]++rg 7 65)),(7,([0,3,6]++rg 8 64))],[(5,.lin (rg 0 18)),(9,.lin (rg 0 33))]⟩
inductive S30 where
 | l0 (v1:Int) (v7:L3)
 | l1 (v1:Int) (v7:L3) (v8:L3)
def T30 {R:Type} (B:Ops) (c29:C29) (p0:L94) (p1:L98) (p2:L103) (p3:Int) (again:S30→Option R) (k:(L3×L3)→Option R):Option S30→Option R | none=>again (.l0 0 (mt (Ty.den (Ty.int .i64)))) | some (.l0 v1 v7)=>cond (B.lt v1 (↑p1.length)) (cond (B.eq (IntKind.wrap .i64 (1+v1)) (0)) none (cond (B.inb v1 p1.length) (ob (c29 (IntKind.wrap .i64 (Int.tdiv p3 (IntKind.wrap .i64 (1+v1)))) (Nat.cast (List.length ((p1.getD v1.toNat ty98.dflt).2)))) fun y0=>cond (B.lim (List.length v7+List.length (y0::mt (Ty.den (Ty.int .i64)))) (8)) (again (.l0 (IntKind.wrap .i64 (v1+1)) (v7++y0::mt (Ty.den (Ty.int .i64))))) none) none)) (again (.l1 0 v7 ((mt (Ty.den (Ty.int .i64)))))) | some (.l1 v1 v7 v8)=>cond (B.lt v1 (↑p0.length)) (cond (B.inb v1 p0.length) (cond (B.eq (IntKind.wrap .i64 (3+IntKind.wrap .i64 (4*v1))) (0)) none (cond (B.inb v1 p0.length) (cond (B.inb v1 p0.length) (ob (c29 (IntKind.wrap .i64 (Int.tdiv p3 (IntKind.wrap .i64 (3+IntKind.wrap .i64 (4*v1))))) (IntKind.wrap .i64 (IntKind.wrap .i64 ((((p0.getD v1.toNat ty94.dflt).2).2).1-((p0.getD v1.toNat ty94.dflt).2).1)+1))) fun y0=>cond (B.lim (List.length v8+List.length (IntKind.wrap .i64 (((p0.getD v1.toNat ty94.dflt).2).1+y0)::mt (Ty.den (Ty.int .i64)))) (8)) (again (.l1 (IntKind.wrap .i64 (v1+1)) v7 (v8++IntKind.wrap .i64 (((p0.getD v1.toNat ty94.dflt).2).1+y0)::mt (Ty.den (Ty.int .i64))))) none) none) none)) none) (k ((v7,v8)))
def E30 (p0:L94) (p1:L98) (p2:L103) (p3:Int):S30→List AV×Objs
 | .l0 v1 v7=>(mk 72 [(1,.c (.int .i64 p3)),(2,.c (.ptr 2 0)),(4,.c (.ptr 4 0)),(5,.c (.ptr 5 0)),(6,.c (.int .i64 v1))],[(2,.box 31 [.list 94 ty94 p0,.list 98 ty98 p1,.list 103 ty103 p2]),(4,.box 57 [.own 5000,.own 5001]),(5,.box 57 [.own 6000,.own 6001]),(5000,.row 3 ty3 (mt (Ty.den (Ty.int .i64)))),(5001,.row 3 ty3 (mt (Ty.den (Ty.int .i64)))),(6000,.row 3 ty3 v7),(6001,.row 3 ty3 (mt (Ty.den (Ty.int .i64))))])
 | .l1 v1 v7 v8=>(mk 72 [(1,.c (.int .i64 p3)),(2,.c (.ptr 2 0)),(4,.c (.ptr 4 0)),(5,.c (.ptr 5 0)),(7,.c (.int .i64 v1))],[(2,.box 31 [.list 94 ty94 p0,.list 98 ty98 p1,.list 103 ty103 p2]),(4,.box 57 [.own 5000,.own 5001]),(5,.box 57 [.own 6000,.own 6001]),(5000,.row 3 ty3 (mt (Ty.den (Ty.int .i64)))),(5001,.row 3 ty3 (mt (Ty.den (Ty.int .i64)))),(6000,.row 3 ty3 v7),(6001,.row 3 ty3 v8)])
def I30:S30→Nat
 | .l0 _ _=>0
 | .l1 _ _ _=>1
abbrev K32 {R:Type} (k:AV→Objs→Option R) (y:(L3×L3)):Option R:=k (.agg [.list 3 ty3 y.1,.list 3 ty3 y.2]) []
theorem eq30 {R:Type} (B:Ops) (c29:C29) (p0:L94) (p1:L98) (p2:L103) (p3:Int) (k:AV→Objs→Option R) (n:Nat):afun tau B gl0 X30 (ent 29 (e29 c29) gnil) ow Tryz.f30 [.agg [.list 94 ty94 p0,.list 98 ty98 p1,.list 103 ty103 p2],.c (.int .i64 p3)] [] k n=T30 B c29 p0 p1 p2 p3 (fun s=>aloop tau B gl0 X30 (ent 29 (e29 c29) gnil) ow [] Tryz.f30 k (I30 s) (E30 p0 p1 p2 p3 s) n) (K32 k) none:=by kernel_rfl
theorem el30 {R:Type} (B:Ops) (c29:C29) (p0:L94) (p1:L98) (p2:L103) (p3:Int) (k:AV→Objs→Option R) (n:Nat):∀ s,aloop tau B gl0 X30 (ent 29 (e29 c29) gnil) ow [] Tryz.f30 k (I30 s) (E30 p0 p1 p2 p3 s) (n+1)=T30 B c29 p0 p1 p2 p3 (fun s=>aloop tau B gl0 X30 (ent 29 (e29 c29) gnil) ow [] Tryz.f30 k (I30 s) (E30 p0 p1 p2 p3 s) n) (K32 k) (some s):=by
 intro s
 cases s<;>kernel_rfl
theorem nt30 {R R':Type} (B:Ops) (c29:C29) (p0:L94) (p1:L98) (p2:L103) (p3:Int) (again:S30→Option R) (again':S30→Option R') (k0:(L3×L3)→Option R') (k:R'→Option R) (h:∀ s,again s=ob (again' s) k):∀ s,T30 B c29 p0 p1 p2 p3 again (fun y=>ob (k0 y) k) s=ob (T30 B c29 p0 p1 p2 p3 again' k0 s) k:=by
 rintro (_ | x)
 all_goals try cases x
 all_goals (unfold T30;repeat' first | exact rfl | exact h _ | apply qaf | (apply qap;intro))
def R30 (c29:C29) (p0:L94) (p1:L98) (p2:L103) (p3:Int):Nat→S30→Option (L3×L3)
 | 0,_=>none
 | n+1,s=>T30 Ops.std c29 p0 p1 p2 p3 (R30 c29 p0 p1 p2 p3 n) some (some s)
theorem rr30 {R:Type} (c29:C29) (p0:L94) (p1:L98) (p2:L103) (p3:Int) (k:AV→Objs→Option R):∀ (n:Nat) (s:S30),aloop tau Ops.std gl0 X30 (ent 29 (e29 c29) gnil) ow [] Tryz.f30 k (I30 s) (E30 p0 p1 p2 p3 s) n=ob (R30 c29 p0 p1 p2 p3 n s) (K32 k)
 | 0,s=>by cases s<;>rfl
 | n+1,s=>by rw [el30];exact nt30 Ops.std c29 p0 p1 p2 p3 _ _ some (K32 k) (rr30 c29 p0 p1 p2 p3 k n) (some s)
def F30 (c29:C29) (p0:L94) (p1:L98) (p2:L103) (p3:Int):Option (L3×L3):=T30 Ops.std c29 p0 p1 p2 p3 (R30 c29 p0 p1 p2 p3 1000000) some none
def e30 {R:Type} (c:L94→L98→L103→Int→Option (L3×L3)):Ent R:=fun args objs k=>
 oCons args fun a0 l0=>oAgg a0 fun x0=>cCons x0 fun z0_0 w0_0=>cList 94 ty94 z0_0 fun p0=>cCons w0_0 fun z0_1 w0_1=>cList 98 ty98 z0_1 fun p1=>cCons w0_1 fun z0_2 w0_2=>cList 103 ty103 z0_2 fun p2=>cNil w0_2 <| oI l0 .i64 fun p3 l1=>oE l1 objs <| ob (c p0 p1 p2 p3) (K32 k)
abbrev Sp30 (c:L94→L98→L103→Int→Option (L3×L3)):Prop:=∀ (p0:L94) (p1:L98) (p2:L103) (p3:Int) (y:L3×L3),c p0 p1 p2 p3=some y→Spec Tryz.prog gl0 30 [.agg [.list 94 ty94 p0,.list 98 ty98 p1,.list 103 ty103 p2],.c (.int .i64 p3)] [] (.agg [.list 3 ty3 y.1,.list 3 ty3 y.2]) []
theorem ek30 {R:Type} {c:L94→L98→L103→Int→Option (L3×L3)} (hs:Sp30 c):EOk 30 (e30 (R:=R) c):=fun args objs k r h=>by
 unfold e30 at h
 obtain ⟨a0,l0,rfl,q1⟩:=qae h
 obtain ⟨x0,rfl,q2⟩:=qar q1
 obtain ⟨z0_0,w0_0,rfl,q3⟩:=qaa q2
 obtain ⟨p0,rfl,q4⟩:=qab q3
 obtain ⟨z0_1,w0_1,rfl,q5⟩:=qaa q4
 obtain ⟨p1,rfl,q6⟩:=qab q5
 obtain ⟨z0_2,w0_2,rfl,q7⟩:=qaa q6
 obtain ⟨p2,rfl,q8⟩:=qab q7
 obtain ⟨rfl,q9⟩:=qah q8
 obtain ⟨p3,l1,rfl,q12⟩:=qaz q9
 obtain ⟨rfl,rfl,q14⟩:=qaq q12
 exact qao (hs p0 p1 p2 p3) q14
theorem sf30 {c29:C29} (h29:Sp29 c29):Sp30 (F30 c29):=fun p0 p1 p2 p3 y hy=>by
 refine qam (qag (ek29 h29) qal) 1000000 (fn:=Tryz.f30) (by kernel_rfl) (by kernel_rfl) (X:=X30) (by kernel_rfl) ?_
 rw [eq30]
 exact (nt30 Ops.std c29 p0 p1 p2 p3 _ _ some (K32 k0) (rr30 c29 p0 p1 p2 p3 k0 1000000) none).trans (by show ob (F30 c29 p0 p1 p2 p3) _=_;rw [hy];rfl)
noncomputable def M30:L94→L98→L103→Int→Option (L3×L3):=F30 M29
theorem sm30:Sp30 M30:=sf30 sm29
def X20:Aux:=⟨[(3,([0,4,5]++rg 9 55)),(7,([0,1,4,5,8]++rg 10 54))],[(5,.lin (rg 0 13)),(9,.lin (rg 0 13))]⟩
inductive S20 where
 | l0 (v2:Int) (v8:L68)
 | l1 (v1:Int) (v7:L68) (v8:L68)
abbrev C30:Type:=L94→L98→L103→Int→Option (L3×L3)
def T20 {R:Type} (B:Ops) (c30:C30) (p0:L94) (p1:L98) (p2:L103) (p3:L3) (p4:L3) (again:S20→Option R) (k:(L68×L68)→Option R):Option S20→Option R | none=>again (.l0 0 (mt (Ty.den ty68))) | some (.l0 v2 v8)=>cond (B.lt v2 (↑p3.length)) (cond (B.lt v2 (6)) (cond (B.inb v2 p3.length) (ob (c30 p0 p1 p2 (p3.getD v2.toNat ty3.dflt)) fun y0=>cond (B.lim (List.length v8+List.length (((y0.1,y0.2),mt (Ty.den (Ty.int .i64)))::mt (Ty.den ty68))) (72)) (again (.l0 (IntKind.wrap .i64 (v2+1)) (v8++((y0.1,y0.2),mt (Ty.den (Ty.int .i64)))::mt (Ty.den ty68)))) none) none) (again (.l1 0 v8 ((mt (Ty.den ty68)))))) (again (.l1 0 v8 ((mt (Ty.den ty68))))) | some (.l1 v1 v7 v8)=>cond (B.lt v1 (↑p4.length)) (cond (B.lt v1 (6)) (cond (B.inb v1 p4.length) (ob (c30 p0 p1 p2 (p4.getD v1.toNat ty3.dflt)) fun y0=>cond (B.lim (List.length v8+List.length (((y0.1,y0.2),mt (Ty.den (Ty.int .i64)))::mt (Ty.den ty68))) (72)) (again (.l1 (IntKind.wrap .i64 (v1+1)) v7 (v8++((y0.1,y0.2),mt (Ty.den (Ty.int .i64)))::mt (Ty.den ty68)))) none) none) (cond (B.eq (↑v8.length) (0)) (ob (c30 p0 p1 p2 (0)) fun y0=>k ((v7,((y0.1,y0.2),mt (Ty.den (Ty.int .i64)))::mt (Ty.den ty68)))) (k ((v7,v8))))) (cond (B.eq (↑v8.length) (0)) (ob (c30 p0 p1 p2 (0)) fun y0=>k ((v7,((y0.1,y0.2),mt (Ty.den (Ty.int .i64)))::mt (Ty.den ty68)))) (k ((v7,v8))))
def E20 (p0:L94) (p1:L98) (p2:L103) (p3:L3) (p4:L3):S20→List AV×Objs
 | .l0 v2 v8=>(mk 64 [(1,.c (.list 3 ty3 p3)),(2,.c (.list 3 ty3 p4)),(3,.c (.ptr 3 0)),(6,.c (.ptr 6 0)),(7,.c (.ptr 7 0)),(8,.c (.int .i64 v2))],[(3,.box 31 [.list 94 ty94 p0,.list 98 ty98 p1,.list 103 ty103 p2]),(6,.box 41 [.own 7000,.own 7001]),(7,.box 41 [.own 8000,.own 8001]),(7000,.row 68 ty68 (mt (Ty.den ty68))),(7001,.row 68 ty68 (mt (Ty.den ty68))),(8000,.row 68 ty68 v8),(8001,.row 68 ty68 (mt (Ty.den ty68)))])
 | .l1 v1 v7 v8=>(mk 64 [(2,.c (.list 3 ty3 p4)),(3,.c (.ptr 3 0)),(6,.c (.ptr 6 0)),(7,.c (.ptr 7 0)),(9,.c (.int .i64 v1))],[(3,.box 31 [.list 94 ty94 p0,.list 98 ty98 p1,.list 103 ty103 p2]),(6,.box 41 [.own 7000,.own 7001]),(7,.box 41 [.own 8000,.own 8001]),(7000,.row 68 ty68 (mt (Ty.den ty68))),(7001,.row 68 ty68 (mt (Ty.den ty68))),(8000,.row 68 ty68 v7),(8001,.row 68 ty68 v8)])
def I20:S20→Nat
 | .l0 _ _=>0
 | .l1 _ _ _=>1
abbrev K33 {R:Type} (k:AV→Objs→Option R) (y:(L68×L68)):Option R:=k (.agg [.list 68 ty68 y.1,.list 68 ty68 y.2]) []
theorem eq20 {R:Type} (B:Ops) (c30:C30) (p0:L94) (p1:L98) (p2:L103) (p3:L3) (p4:L3) (k:AV→Objs→Option R) (n:Nat):afun tau B gl0 X20 (ent 30 (e30 c30) gnil) ow Tryz.f20 [.agg [.list 94 ty94 p0,.list 98 ty98 p1,.list 103 ty103 p2],.c (.list 3 ty3 p3),.c (.list 3 ty3 p4)] [] k n=T20 B c30 p0 p1 p2 p3 p4 (fun s=>aloop tau B gl0 X20 (ent 30 (e30 c30) gnil) ow [] Tryz.f20 k (I20 s) (E20 p0 p1 p2 p3 p4 s) n) (K33 k) none:=by kernel_rfl
theorem el20 {R:Type} (B:Ops) (c30:C30) (p0:L94) (p1:L98) (p2:L103) (p3:L3) (p4:L3) (k:AV→Objs→Option R) (n:Nat):∀ s,aloop tau B gl0 X20 (ent 30 (e30 c30) gnil) ow [] Tryz.f20 k (I20 s) (E20 p0 p1 p2 p3 p4 s) (n+1)=T20 B c30 p0 p1 p2 p3 p4 (fun s=>aloop tau B gl0 X20 (ent 30 (e30 c30) gnil) ow [] Tryz.f20 k (I20 s) (E20 p0 p1 p2 p3 p4 s) n) (K33 k) (some s):=by
 intro s
 cases s<;>kernel_rfl
theorem nt20 {R R':Type} (B:Ops) (c30:C30) (p0:L94) (p1:L98) (p2:L103) (p3:L3) (p4:L3) (again:S20→Option R) (again':S20→Option R') (k0:(L68×L68)→Option R') (k:R'→Option R) (h:∀ s,again s=ob (again' s) k):∀ s,T20 B c30 p0 p1 p2 p3 p4 again (fun y=>ob (k0 y) k) s=ob (T20 B c30 p0 p1 p2 p3 p4 again' k0 s) k:=by
 rintro (_ | x)
 all_goals try cases x
 all_goals (unfold T20;repeat' first | exact rfl | exact h _ | apply qaf | (apply qap;intro))
def R20 (c30:C30) (p0:L94) (p1:L98) (p2:L103) (p3:L3) (p4:L3):Nat→S20→Option (L68×L68)
 | 0,_=>none
 | n+1,s=>T20 Ops.std c30 p0 p1 p2 p3 p4 (R20 c30 p0 p1 p2 p3 p4 n) some (some s)
theorem rr20 {R:Type} (c30:C30) (p0:L94) (p1:L98) (p2:L103) (p3:L3) (p4:L3) (k:AV→Objs→Option R):∀ (n:Nat) (s:S20),aloop tau Ops.std gl0 X20 (ent 30 (e30 c30) gnil) ow [] Tryz.f20 k (I20 s) (E20 p0 p1 p2 p3 p4 s) n=ob (R20 c30 p0 p1 p2 p3 p4 n s) (K33 k)
 | 0,s=>by cases s<;>rfl
 | n+1,s=>by rw [el20];exact nt20 Ops.std c30 p0 p1 p2 p3 p4 _ _ some (K33 k) (rr20 c30 p0 p1 p2 p3 p4 k n) (some s)
def F20 (c30:C30) (p0:L94) (p1:L98) (p2:L103) (p3:L3) (p4:L3):Option (L68×L68):=T20 Ops.std c30 p0 p1 p2 p3 p4 (R20 c30 p0 p1 p2 p3 p4 1000000) some none
def e20 {R:Type} (c:L94→L98→L103→L3→L3→Option (L68×L68)):Ent R:=fun args objs k=>
 oCons args fun a0 l0=>oAgg a0 fun x0=>cCons x0 fun z0_0 w0_0=>cList 94 ty94 z0_0 fun p0=>cCons w0_0 fun z0_1 w0_1=>cList 98 ty98 z0_1 fun p1=>cCons w0_1 fun z0_2 w0_2=>cList 103 ty103 z0_2 fun p2=>cNil w0_2 <| oL l0 3 ty3 fun p3 l1=>oL l1 3 ty3 fun p4 l2=>oE l2 objs <| ob (c p0 p1 p2 p3 p4) (K33 k)
abbrev Sp20 (c:L94→L98→L103→L3→L3→Option (L68×L68)):Prop:=∀ (p0:L94) (p1:L98) (p2:L103) (p3:L3) (p4:L3) (y:L68×L68),c p0 p1 p2 p3 p4=some y→Spec Tryz.prog gl0 20 [.agg [.list 94 ty94 p0,.list 98 ty98 p1,.list 103 ty103 p2],.c (.list 3 ty3 p3),.c (.list 3 ty3 p4)] [] (.agg [.list 68 ty68 y.1,.list 68 ty68 y.2]) []
theorem ek20 {R:Type} {c:L94→L98→L103→L3→L3→Option (L68×L68)} (hs:Sp20 c):EOk 20 (e20 (R:=R) c):=fun args objs k r h=>by
 unfold e20 at h
 obtain ⟨a0,l0,rfl,q1⟩:=qae h
 obtain ⟨x0,rfl,q2⟩:=qar q1
 obtain ⟨z0_0,w0_0,rfl,q3⟩:=qaa q2
 obtain ⟨p0,rfl,q4⟩:=qab q3
 obtain ⟨z0_1,w0_1,rfl,q5⟩:=qaa q4
 obtain ⟨p1,rfl,q6⟩:=qab q5
 obtain ⟨z0_2,w0_2,rfl,q7⟩:=qaa q6
 obtain ⟨p2,rfl,q8⟩:=qab q7
 obtain ⟨rfl,q9⟩:=qah q8
 obtain ⟨p3,l1,rfl,q12⟩:=qa1 q9
 obtain ⟨p4,l2,rfl,q15⟩:=qa1 q12
 obtain ⟨rfl,rfl,q17⟩:=qaq q15
 exact qao (hs p0 p1 p2 p3 p4) q17
theorem sf20 {c30:C30} (h30:Sp30 c30):Sp20 (F20 c30):=fun p0 p1 p2 p3 p4 y hy=>by
 refine qam (qag (ek30 h30) qal) 1000000 (fn:=Tryz.f20) (by kernel_rfl) (by kernel_rfl) (X:=X20) (by kernel_rfl) ?_
 rw [eq20]
 exact (nt20 Ops.std c30 p0 p1 p2 p3 p4 _ _ some (K33 k0) (rr20 c30 p0 p1 p2 p3 p4 k0 1000000) none).trans (by show ob (F20 c30 p0 p1 p2 p3 p4) _=_;rw [hy];rfl)
noncomputable def M20:L94→L98→L103→L3→L3→Option (L68×L68):=F20 M30
theorem sm20:Sp20 M20:=sf20 sm30
inductive S139 where
 | l0 (v0:Int)
 | l1 (v0:Int)
def T139 {R:Type} (B:Ops) (p0:L94) (p1:L98) (p2:L103) (p3:L3) (p4:L3) (again:S139→Option R) (k:(Bool)→Option R):Option S139→Option R | none=>cond (!B.eq (↑p3.length) (↑p1.length)) (k false) (cond (!B.eq (↑p4.length) (↑p0.length)) (k false) (again (.l0 0))) | some (.l0 v0)=>cond (B.lt v0 (↑p3.length)) (cond (B.inb v0 p3.length) (cond (B.lt (p3.getD v0.toNat ty3.dflt) (0)) (k false) (cond (B.inb v0 p3.length) (cond (B.inb v0 p1.length) (cond (B.le (Nat.cast (List.length ((p1.getD v0.toNat ty98.dflt).2))) (p3.getD v0.toNat ty3.dflt)) (k false) (again (.l0 (IntKind.wrap .i64 (v0+1))))) none) none)) none) (again (.l1 0)) | some (.l1 v0)=>cond (B.lt v0 (↑p4.length)) (cond (B.inb v0 p4.length) (cond (B.inb v0 p0.length) (cond (B.lt (p4.getD v0.toNat ty3.dflt) (((p0.getD v0.toNat ty94.dflt).2).1)) (k false) (cond (B.inb v0 p4.length) (cond (B.inb v0 p0.length) (cond (B.lt ((((p0.getD v0.toNat ty94.dflt).2).2).1) (p4.getD v0.toNat ty3.dflt)) (k false) (again (.l1 (IntKind.wrap .i64 (v0+1))))) none) none)) none) none) (k true)
def R139 (p0:L94) (p1:L98) (p2:L103) (p3:L3) (p4:L3):Nat→S139→Option (Bool)
 | 0,_=>none
 | n+1,s=>T139 Ops.std p0 p1 p2 p3 p4 (R139 p0 p1 p2 p3 p4 n) some (some s)
def F139 (p0:L94) (p1:L98) (p2:L103) (p3:L3) (p4:L3):Option (Bool):=T139 Ops.std p0 p1 p2 p3 p4 (R139 p0 p1 p2 p3 p4 1000000) some none
noncomputable def M139:L94→L98→L103→L3→L3→Option (Bool):=F139
abbrev C18:Type:=L94→L98→L103→Option (Bool)
abbrev C139:Type:=L94→L98→L103→L3→L3→Option (Bool)
def T81 {R:Type} (B:Ops) (c18:C18) (c139:C139) (p0:L94) (p1:L98) (p2:L103) (p3:L3) (p4:L3) (k:(Bool)→Option R):Option R:=ob (c18 p0 p1 p2) fun y0=>cond (!y0) (k false) (ob (c139 p0 p1 p2 p3 p4) fun y1=>k y1)
def F81 (c18:C18) (c139:C139) (p0:L94) (p1:L98) (p2:L103) (p3:L3) (p4:L3):Option (Bool):=T81 Ops.std c18 c139 p0 p1 p2 p3 p4 some
noncomputable def M81:L94→L98→L103→L3→L3→Option (Bool):=F81 M18 M139
def T111 {R:Type} (B:Ops) (p0:Int) (k:(Int)→Option R):Option R:=k (bif true then bif B.lt (-99999) (bif false then bif B.lt (99999) p0 then p0 else 99999 else bif B.lt p0 (99999) then p0 else 99999) then bif false then bif B.lt (99999) p0 then p0 else 99999 else bif B.lt p0 (99999) then p0 else 99999 else -99999 else bif B.lt (bif false then bif B.lt (99999) p0 then p0 else 99999 else bif B.lt p0 (99999) then p0 else 99999) (-99999) then bif false then bif B.lt (99999) p0 then p0 else 99999 else bif B.lt p0 (99999) then p0 else 99999 else -99999)
def F111 (p0:Int):Option (Int):=T111 Ops.std p0 some
noncomputable def M111:Int→Option (Int):=F111
def T112 {R:Type} (B:Ops) (p0:Bool) (k:(Int)→Option R):Option R:=cond (p0) (k 1) (k 0)
def F112 (p0:Bool):Option (Int):=T112 Ops.std p0 some
noncomputable def M112:Bool→Option (Int):=F112
end Go.Proofs.YtccnmhdgghjgoaaGreatDoor.Av
