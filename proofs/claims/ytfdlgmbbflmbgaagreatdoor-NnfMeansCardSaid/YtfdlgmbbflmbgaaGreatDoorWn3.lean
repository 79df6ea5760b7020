/- Twins of functions,printed by gen.py. Conditions: none. -/
import Derived.Test.YtfdlgmbbflmbgaaGreatDoorWn2
import Derived.KernelRfl
set_option linter.unusedSimpArgs false
set_option linter.unusedVariables false
set_option maxRecDepth 100000
set_option maxHeartbeats 8000000
namespace Go.Proofs.YtfdlgmbbflmbgaaGreatDoor.Av
open Go
def X46:Aux:=⟨[],[(4,.lin (rg 0 31))]⟩
abbrev C40:Type:=Int→Int→Option (Int)
def T46 {R:Type} (B:Ops) (c40:C40) (p0:Int) (p1:L3) (p2:Int) (k:(Int×L3×Int)→Option R):Option R:=cond (B.eq (↑p1.length) (0)) (k ((0,p1,p2))) (cond (B.eq (↑p1.length) (0)) none (cond (B.inb (Int.tmod (IntKind.wrap .i64 (p2+1)) (↑p1.length)) p1.length) (cond (B.eq (↑p1.length) (0)) none (cond (B.eq (IntKind.wrap .i64 (1+IntKind.wrap .i64 (Int.tdiv (IntKind.wrap .i64 (p2+1)) (↑p1.length)))) (0)) none (ob (c40 (IntKind.wrap .i64 (Int.tdiv (p1.getD (Int.toNat (Int.tmod (IntKind.wrap .i64 (p2+1)) (↑p1.length))) ty3.dflt) (IntKind.wrap .i64 (1+IntKind.wrap .i64 (Int.tdiv (IntKind.wrap .i64 (p2+1)) (↑p1.length)))))) p0) fun y0=>k ((y0,p1,IntKind.wrap .i64 (p2+1)))))) none))
abbrev K17 {R:Type} (k:AV→Objs→Option R) (y:(Int×L3×Int)):Option R:=k (.c (.int .i64 y.1)) [(0,.box 57 [.list 3 ty3 y.2.1,.int .i64 y.2.2])]
theorem eq46 {R:Type} (B:Ops) (c40:C40) (p0:Int) (p1:L3) (p2:Int) (k:AV→Objs→Option R) (n:Nat):afun tau B gl0 X46 (ent 40 (e40 c40) gnil) ow Tryz.f46 [.c (.ptr 0 0),.c (.int .i64 p0)] [(0,.box 57 [.list 3 ty3 p1,.int .i64 p2])] k n=T46 B c40 p0 p1 p2 (K17 k):=by kernel_rfl
theorem nt46 {R R':Type} (B:Ops) (c40:C40) (p0:Int) (p1:L3) (p2:Int) (k0:(Int×L3×Int)→Option R') (k:R'→Option R):T46 B c40 p0 p1 p2 (fun y=>ob (k0 y) k)=ob (T46 B c40 p0 p1 p2 k0) k:=by
 unfold T46
 repeat' first | exact rfl | apply qae | (apply qao;intro)
def F46 (c40:C40) (p0:Int) (p1:L3) (p2:Int):Option (Int×L3×Int):=T46 Ops.std c40 p0 p1 p2 some
def e46 {R:Type} (c:Int→L3→Int→Option (Int×L3×Int)):Ent R:=fun args objs k=>
 oCons args fun a0 l0=>oC a0 fun x0=>cPtr 0 x0 <| oI l0 .i64 fun p0 l1=>oNil l1 <| oBox 0 57 objs fun b0 o0=>cCons b0 fun u0_0 v0=>cList 3 ty3 u0_0 fun p1=>cCons v0 fun u0_1 v1=>cInt .i64 u0_1 fun p2=>cNil v1 <| oNilO o0 <| ob (c p0 p1 p2) (K17 k)
abbrev Sp46 (c:Int→L3→Int→Option (Int×L3×Int)):Prop:=∀ (p0:Int) (p1:L3) (p2:Int) (y:Int×L3×Int),c p0 p1 p2=some y→Spec Tryz.prog gl0 46 [.c (.ptr 0 0),.c (.int .i64 p0)] [(0,.box 57 [.list 3 ty3 p1,.int .i64 p2])] (.c (.int .i64 y.1)) [(0,.box 57 [.list 3 ty3 y.2.1,.int .i64 y.2.2])]
theorem ek46 {R:Type} {c:Int→L3→Int→Option (Int×L3×Int)} (hs:Sp46 c):EOk 46 (e46 (R:=R) c):=fun args objs k r h=>by
 unfold e46 at h
 obtain ⟨a0,l0,rfl,q1⟩:=qak h
 obtain ⟨x0,rfl,q2⟩:=qa5 q1
 obtain ⟨rfl,q3⟩:=qa3 q2
 obtain ⟨p0,l1,rfl,q6⟩:=qas q3
 obtain ⟨rfl,q7⟩:=qa2 q6
 obtain ⟨b0,o0,rfl,q8⟩:=qa4 q7
 obtain ⟨u0_0,v0,rfl,q9⟩:=qaa q8
 obtain ⟨p1,rfl,q10⟩:=qac q9
 obtain ⟨u0_1,v1,rfl,q11⟩:=qaa q10
 obtain ⟨p2,rfl,q12⟩:=qar q11
 obtain ⟨rfl,q13⟩:=qaq q12
 obtain ⟨rfl,q14⟩:=qay q13
 exact qan (hs p0 p1 p2) q14
theorem sf46 {c40:C40} (h40:Sp40 c40):Sp46 (F46 c40):=fun p0 p1 p2 y hy=>by
 refine qai (qad (ek40 h40) qah) 1000000 (fn:=Tryz.f46) (by kernel_rfl) (by kernel_rfl) (X:=X46) (by kernel_rfl) ?_
 rw [eq46]
 exact (nt46 Ops.std c40 p0 p1 p2 some (K17 k0)).trans (by show ob (F46 c40 p0 p1 p2) _=_;rw [hy];rfl)
noncomputable def M46:Int→L3→Int→Option (Int×L3×Int):=F46 M40
theorem sm46:Sp46 M46:=sf46 sm40
def X73:Aux:=⟨[],[]⟩
abbrev C46:Type:=Int→L3→Int→Option (Int×L3×Int)
def T73 {R:Type} (B:Ops) (c46:C46) (p0:L3) (p1:Int) (k:(LB×L3×Int)→Option R):Option R:=ob (c46 (2) p0 p1) fun y0=>cond (B.inb y0.1 (3)) (cond (B.lim (List.length (List.getD ((120::mt UInt8)::(121::mt UInt8)::(122::mt UInt8)::mt LB) (Int.toNat y0.1) (mt UInt8))+2) (1)) (cond (B.lim (List.length (List.getD ((120::mt UInt8)::(121::mt UInt8)::(122::mt UInt8)::mt LB) (Int.toNat y0.1) (mt UInt8))+2) (1)) (cond (B.lim (List.length (List.getD ((120::mt UInt8)::(121::mt UInt8)::(122::mt UInt8)::mt LB) (Int.toNat y0.1) (mt UInt8))+3) (1)) (cond (B.lim (List.length (List.getD ((120::mt UInt8)::(121::mt UInt8)::(122::mt UInt8)::mt LB) (Int.toNat y0.1) (mt UInt8))+2) (1)) (ob (c46 (9) y0.2.1 y0.2.2) fun y1=>cond (B.inb y1.1 (9)) (k ((List.getD (([49]:LB)::([49]:LB)::(List.getD ((120::mt UInt8)::(121::mt UInt8)::(122::mt UInt8)::mt LB) (Int.toNat y0.1) (mt UInt8)++([60,49]:LB))::(List.getD ((120::mt UInt8)::(121::mt UInt8)::(122::mt UInt8)::mt LB) (Int.toNat y0.1) (mt UInt8)++([62,48]:LB))::(List.getD ((120::mt UInt8)::(121::mt UInt8)::(122::mt UInt8)::mt LB) (Int.toNat y0.1) (mt UInt8)++([61,61,49]:LB))::([120,33,61,121]:LB)::([112,64,97,124,124,120,60,50]:LB)::([33,40,113,64,98,41]:LB)::(List.getD ((120::mt UInt8)::(121::mt UInt8)::(122::mt UInt8)::mt LB) (Int.toNat y0.1) (mt UInt8)++([60,50]:LB))::mt LB) (Int.toNat y1.1) (mt UInt8),y1.2.1,y1.2.2))) none) none) none) none) none) none
abbrev K18 {R:Type} (k:AV→Objs→Option R) (y:(LB×L3×Int)):Option R:=k (.c (.str y.1)) [(0,.box 57 [.list 3 ty3 y.2.1,.int .i64 y.2.2])]
theorem eq73 {R:Type} (B:Ops) (c46:C46) (p0:L3) (p1:Int) (k:AV→Objs→Option R) (n:Nat):afun tau B gl0 X73 (ent 46 (e46 c46) gnil) ow Tryz.f73 [.c (.ptr 0 0)] [(0,.box 57 [.list 3 ty3 p0,.int .i64 p1])] k n=T73 B c46 p0 p1 (K18 k):=by kernel_rfl
theorem nt73 {R R':Type} (B:Ops) (c46:C46) (p0:L3) (p1:Int) (k0:(LB×L3×Int)→Option R') (k:R'→Option R):T73 B c46 p0 p1 (fun y=>ob (k0 y) k)=ob (T73 B c46 p0 p1 k0) k:=by
 unfold T73
 repeat' first | exact rfl | apply qae | (apply qao;intro)
def F73 (c46:C46) (p0:L3) (p1:Int):Option (LB×L3×Int):=T73 Ops.std c46 p0 p1 some
def e73 {R:Type} (c:L3→Int→Option (LB×L3×Int)):Ent R:=fun args objs k=>
 oCons args fun a0 l0=>oC a0 fun x0=>cPtr 0 x0 <| oNil l0 <| oBox 0 57 objs fun b0 o0=>cCons b0 fun u0_0 v0=>cList 3 ty3 u0_0 fun p0=>cCons v0 fun u0_1 v1=>cInt .i64 u0_1 fun p1=>cNil v1 <| oNilO o0 <| ob (c p0 p1) (K18 k)
abbrev Sp73 (c:L3→Int→Option (LB×L3×Int)):Prop:=∀ (p0:L3) (p1:Int) (y:LB×L3×Int),c p0 p1=some y→Spec Tryz.prog gl0 73 [.c (.ptr 0 0)] [(0,.box 57 [.list 3 ty3 p0,.int .i64 p1])] (.c (.str y.1)) [(0,.box 57 [.list 3 ty3 y.2.1,.int .i64 y.2.2])]
theorem ek73 {R:Type} {c:L3→Int→Option (LB×L3×Int)} (hs:Sp73 c):EOk 73 (e73 (R:=R) c):=fun args objs k r h=>by
 unfold e73 at h
 obtain ⟨a0,l0,rfl,q1⟩:=qak h
 obtain ⟨x0,rfl,q2⟩:=qa5 q1
 obtain ⟨rfl,q3⟩:=qa3 q2
 obtain ⟨rfl,q4⟩:=qa2 q3
 obtain ⟨b0,o0,rfl,q5⟩:=qa4 q4
 obtain ⟨u0_0,v0,rfl,q6⟩:=qaa q5
 obtain ⟨p0,rfl,q7⟩:=qac q6
 obtain ⟨u0_1,v1,rfl,q8⟩:=qaa q7
 obtain ⟨p1,rfl,q9⟩:=qar q8
 obtain ⟨rfl,q10⟩:=qaq q9
 obtain ⟨rfl,q11⟩:=qay q10
 exact qan (hs p0 p1) q11
theorem sf73 {c46:C46} (h46:Sp46 c46):Sp73 (F73 c46):=fun p0 p1 y hy=>by
 refine qai (qad (ek46 h46) qah) 1000000 (fn:=Tryz.f73) (by kernel_rfl) (by kernel_rfl) (X:=X73) (by kernel_rfl) ?_
 rw [eq73]
 exact (nt73 Ops.std c46 p0 p1 some (K18 k0)).trans (by show ob (F73 c46 p0 p1) _=_;rw [hy];rfl)
noncomputable def M73:L3→Int→Option (LB×L3×Int):=F73 M46
theorem sm73:Sp73 M73:=sf73 sm46
def e74 {R:Type} (c:Int→L3→Int→Option (LB×L3×Int)):Ent R:=fun args objs k=>
 oCons args fun a0 l0=>oC a0 fun x0=>cPtr 0 x0 <| oI l0 .i64 fun p0 l1=>oNil l1 <| oBox 0 57 objs fun b0 o0=>cCons b0 fun u0_0 v0=>cList 3 ty3 u0_0 fun p1=>cCons v0 fun u0_1 v1=>cInt .i64 u0_1 fun p2=>cNil v1 <| oNilO o0 <| ob (c p0 p1 p2) (K18 k)
abbrev Sp74 (c:Int→L3→Int→Option (LB×L3×Int)):Prop:=∀ (p0:Int) (p1:L3) (p2:Int) (y:LB×L3×Int),c p0 p1 p2=some y→Spec Tryz.prog gl0 74 [.c (.ptr 0 0),.c (.int .i64 p0)] [(0,.box 57 [.list 3 ty3 p1,.int .i64 p2])] (.c (.str y.1)) [(0,.box 57 [.list 3 ty3 y.2.1,.int .i64 y.2.2])]
theorem ek74 {R:Type} {c:Int→L3→Int→Option (LB×L3×Int)} (hs:Sp74 c):EOk 74 (e74 (R:=R) c):=fun args objs k r h=>by
 unfold e74 at h
 obtain ⟨a0,l0,rfl,q1⟩:=qak h
 obtain ⟨x0,rfl,q2⟩:=qa5 q1
 obtain ⟨rfl,q3⟩:=qa3 q2
 obtain ⟨p0,l1,rfl,q6⟩:=qas q3
 obtain ⟨rfl,q7⟩:=qa2 q6
 obtain ⟨b0,o0,rfl,q8⟩:=qa4 q7
 obtain ⟨u0_0,v0,rfl,q9⟩:=qaa q8
 obtain ⟨p1,rfl,q10⟩:=qac q9
 obtain ⟨u0_1,v1,rfl,q11⟩:=qaa q10
 obtain ⟨p2,rfl,q12⟩:=qar q11
 obtain ⟨rfl,q13⟩:=qaq q12
 obtain ⟨rfl,q14⟩:=qay q13
 exact qan (hs p0 p1 p2) q14
def X74:Aux:=⟨[(1000004,([2,3,4]++rg 6 111))],[(24,.lin ([0,5,1,2,3,4,6,7,8,9,10]))]⟩
inductive S74 where
 | l1004 (v1:Int) (v2:L3) (v3:Int)
abbrev C74:Type:=Int→L3→Int→Option (LB×L3×Int)
def T74 {R:Type} (B:Ops) (c46:C46) (c74:C74) (p0:Int) (p1:L3) (p2:Int) (again:S74→Option R) (k:(LB×L3×Int)→Option R):Option S74→Option R | none=>ob (c46 (20) p1 p2) fun y0=>cond (B.lt (3) p0) (cond (B.eq (6) (0)) none (again (.l1004 (IntKind.wrap .i64 (14+Int.tmod y0.1 (6))) y0.2.1 y0.2.2))) (cond (B.lt (14) y0.2.2) (cond (B.eq (6) (0)) none (again (.l1004 (IntKind.wrap .i64 (14+Int.tmod y0.1 (6))) y0.2.1 y0.2.2))) (again (.l1004 y0.1 y0.2.1 y0.2.2))) | some (.l1004 v1 v2 v3)=>cond (B.lt v1 (10)) (ob (c74 (IntKind.wrap .i64 (p0+1)) v2 v3) fun y0=>ob (c74 (IntKind.wrap .i64 (p0+1)) y0.2.1 y0.2.2) fun y1=>ob (c46 (11) y1.2.1 y1.2.2) fun y2=>cond (B.inb y2.1 (11)) (ob (c46 (2) y2.2.1 y2.2.2) fun y3=>cond (B.eq y3.1 (0)) (cond (B.lim (1+List.length y0.1) (1)) (cond (B.lim (List.length (([40]:LB)++y0.1)+1) (1)) (cond (B.lim (List.length (([40]:LB)++y0.1++([41]:LB))+List.length (List.getD (([43]:LB)::([45]:LB)::([42]:LB)::([60]:LB)::([60,61]:LB)::([61,61]:LB)::([33,61]:LB)::([38,38]:LB)::([124,124]:LB)::([62]:LB)::([62,61]:LB)::mt LB) (Int.toNat y2.1) (mt UInt8))) (1)) (cond (B.lim (List.length (([40]:LB)++y0.1++([41]:LB)++List.getD (([43]:LB)::([45]:LB)::([42]:LB)::([60]:LB)::([60,61]:LB)::([61,61]:LB)::([33,61]:LB)::([38,38]:LB)::([124,124]:LB)::([62]:LB)::([62,61]:LB)::mt LB) (Int.toNat y2.1) (mt UInt8))+1) (1)) (cond (B.lim (List.length (([40]:LB)++y0.1++([41]:LB)++List.getD (([43]:LB)::([45]:LB)::([42]:LB)::([60]:LB)::([60,61]:LB)::([61,61]:LB)::([33,61]:LB)::([38,38]:LB)::([124,124]:LB)::([62]:LB)::([62,61]:LB)::mt LB) (Int.toNat y2.1) (mt UInt8)++([40]:LB))+List.length y1.1) (1)) (cond (B.lim (List.length (([40]:LB)++y0.1++([41]:LB)++List.getD (([43]:LB)::([45]:LB)::([42]:LB)::([60]:LB)::([60,61]:LB)::([61,61]:LB)::([33,61]:LB)::([38,38]:LB)::([124,124]:LB)::([62]:LB)::([62,61]:LB)::mt LB) (Int.toNat y2.1) (mt UInt8)++([40]:LB)++y1.1)+1) (1)) (k ((([40]:LB)++y0.1++([41]:LB)++List.getD (([43]:LB)::([45]:LB)::([42]:LB)::([60]:LB)::([60,61]:LB)::([61,61]:LB)::([33,61]:LB)::([38,38]:LB)::([124,124]:LB)::([62]:LB)::([62,61]:LB)::mt LB) (Int.toNat y2.1) (mt UInt8)++([40]:LB)++y1.1++([41]:LB),y3.2.1,y3.2.2))) none) none) none) none) none) none) (cond (B.lim (1+List.length y0.1) (1)) (cond (B.lim (List.length (([40]:LB)++y0.1)+1) (1)) (cond (B.lim (List.length (([40]:LB)++y0.1++([32]:LB))+List.length (List.getD (([43]:LB)::([45]:LB)::([42]:LB)::([60]:LB)::([60,61]:LB)::([61,61]:LB)::([33,61]:LB)::([38,38]:LB)::([124,124]:LB)::([62]:LB)::([62,61]:LB)::mt LB) (Int.toNat y2.1) (mt UInt8))) (1)) (cond (B.lim (List.length (([40]:LB)++y0.1++([32]:LB)++List.getD (([43]:LB)::([45]:LB)::([42]:LB)::([60]:LB)::([60,61]:LB)::([61,61]:LB)::([33,61]:LB)::([38,38]:LB)::([124,124]:LB)::([62]:LB)::([62,61]:LB)::mt LB) (Int.toNat y2.1) (mt UInt8))+1) (1)) (cond (B.lim (List.length (([40]:LB)++y0.1++([32]:LB)++List.getD (([43]:LB)::([45]:LB)::([42]:LB)::([60]:LB)::([60,61]:LB)::([61,61]:LB)::([33,61]:LB)::([38,38]:LB)::([124,124]:LB)::([62]:LB)::([62,61]:LB)::mt LB) (Int.toNat y2.1) (mt UInt8)++([32]:LB))+List.length y1.1) (1)) (cond (B.lim (List.length (([40]:LB)++y0.1++([32]:LB)++List.getD (([43]:LB)::([45]:LB)::([42]:LB)::([60]:LB)::([60,61]:LB)::([61,61]:LB)::([33,61]:LB)::([38,38]:LB)::([124,124]:LB)::([62]:LB)::([62,61]:LB)::mt LB) (Int.toNat y2.1) (mt UInt8)++([32]:LB)++y1.1)+1) (1)) (k ((([40]:LB)++y0.1++([32]:LB)++List.getD (([43]:LB)::([45]:LB)::([42]:LB)::([60]:LB)::([60,61]:LB)::([61,61]:LB)::([33,61]:LB)::([38,38]:LB)::([124,124]:LB)::([62]:LB)::([62,61]:LB)::mt LB) (Int.toNat y2.1) (mt UInt8)++([32]:LB)++y1.1++([41]:LB),y3.2.1,y3.2.2))) none) none) none) none) none) none)) none) (cond (B.eq v1 (10)) (ob (c74 (IntKind.wrap .i64 (p0+1)) v2 v3) fun y0=>cond (B.lim (2+List.length y0.1) (1)) (cond (B.lim (List.length (([33,40]:LB)++y0.1)+1) (1)) (k ((([33,40]:LB)++y0.1++([41]:LB),y0.2.1,y0.2.2))) none) none) (cond (B.eq v1 (11)) (ob (c74 (IntKind.wrap .i64 (p0+1)) v2 v3) fun y0=>cond (B.lim (2+List.length y0.1) (1)) (cond (B.lim (List.length (([45,40]:LB)++y0.1)+1) (1)) (k ((([45,40]:LB)++y0.1++([41]:LB),y0.2.1,y0.2.2))) none) none) (cond (B.eq v1 (12)) (ob (c74 (IntKind.wrap .i64 (p0+1)) v2 v3) fun y0=>cond (B.lim (List.length y0.1+1) (1)) (ob (c74 (IntKind.wrap .i64 (p0+1)) y0.2.1 y0.2.2) fun y1=>cond (B.lim (List.length (y0.1++([43]:LB))+List.length y1.1) (1)) (k ((y0.1++([43]:LB)++y1.1,y1.2.1,y1.2.2))) none) none) (cond (B.eq v1 (13)) (ob (c74 (IntKind.wrap .i64 (p0+1)) v2 v3) fun y0=>cond (B.lim (2+List.length y0.1) (1)) (k ((([33,33]:LB)++y0.1,y0.2.1,y0.2.2))) none) (cond (B.eq v1 (14)) (ob (c46 (4) v2 v3) fun y0=>cond (B.inb y0.1 (4)) (k ((List.getD (([48]:LB)::([49]:LB)::([50]:LB)::([48,48,55]:LB)::mt LB) (Int.toNat y0.1) (mt UInt8),y0.2.1,y0.2.2))) none) (cond (B.eq v1 (15)) (ob (c46 (4) v2 v3) fun y0=>cond (B.inb y0.1 (4)) (k ((List.getD (([48]:LB)::([49]:LB)::([50]:LB)::([48,48,55]:LB)::mt LB) (Int.toNat y0.1) (mt UInt8),y0.2.1,y0.2.2))) none) (cond (B.eq v1 (16)) (ob (c46 (2) v2 v3) fun y0=>cond (B.inb y0.1 (3)) (cond (B.lim (List.length (List.getD ((112::mt UInt8)::(113::mt UInt8)::(114::mt UInt8)::mt LB) (Int.toNat y0.1) (mt UInt8))+1) (1)) (ob (c46 (3) y0.2.1 y0.2.2) fun y1=>cond (B.inb y1.1 (4)) (cond (B.lim (List.length (List.getD ((112::mt UInt8)::(113::mt UInt8)::(114::mt UInt8)::mt LB) (Int.toNat y0.1) (mt UInt8)++([64]:LB))+List.length (List.getD ((97::mt UInt8)::(98::mt UInt8)::(99::mt UInt8)::(100::mt UInt8)::mt LB) (Int.toNat y1.1) (mt UInt8))) (1)) (k ((List.getD ((112::mt UInt8)::(113::mt UInt8)::(114::mt UInt8)::mt LB) (Int.toNat y0.1) (mt UInt8)++([64]:LB)++List.getD ((97::mt UInt8)::(98::mt UInt8)::(99::mt UInt8)::(100::mt UInt8)::mt LB) (Int.toNat y1.1) (mt UInt8),y1.2.1,y1.2.2))) none) none) none) none) (ob (c46 (2) v2 v3) fun y0=>cond (B.inb y0.1 (3)) (k ((List.getD ((120::mt UInt8)::(121::mt UInt8)::(122::mt UInt8)::mt LB) (Int.toNat y0.1) (mt UInt8),y0.2.1,y0.2.2))) none))))))))
def E74 (p0:Int) (p1:L3) (p2:Int):S74→List AV×Objs
 | .l1004 v1 v2 v3=>(mk 117 [(0,.c (.ptr 0 0)),(1,.c (.int .i64 p0)),(5,.c (.int .i64 v1))],[(0,.box 57 [.list 3 ty3 v2,.int .i64 v3])])
def I74:S74→Nat
 | .l1004 _ _ _=>1004
theorem eq74 {R:Type} (B:Ops) (c46:C46) (c74:C74) (p0:Int) (p1:L3) (p2:Int) (k:AV→Objs→Option R) (n:Nat):afun tau B gl0 X74 (ent 46 (e46 c46) (ent 74 (e74 c74) gnil)) ow Tryz.f74 [.c (.ptr 0 0),.c (.int .i64 p0)] [(0,.box 57 [.list 3 ty3 p1,.int .i64 p2])] k n=T74 B c46 c74 p0 p1 p2 (fun s=>aloop tau B gl0 X74 (ent 46 (e46 c46) (ent 74 (e74 c74) gnil)) ow [0] Tryz.f74 k (I74 s) (E74 p0 p1 p2 s) n) (K18 k) none:=by kernel_rfl
theorem el74 {R:Type} (B:Ops) (c46:C46) (c74:C74) (p0:Int) (p1:L3) (p2:Int) (k:AV→Objs→Option R) (n:Nat):∀ s,aloop tau B gl0 X74 (ent 46 (e46 c46) (ent 74 (e74 c74) gnil)) ow [0] Tryz.f74 k (I74 s) (E74 p0 p1 p2 s) (n+1)=T74 B c46 c74 p0 p1 p2 (fun s=>aloop tau B gl0 X74 (ent 46 (e46 c46) (ent 74 (e74 c74) gnil)) ow [0] Tryz.f74 k (I74 s) (E74 p0 p1 p2 s) n) (K18 k) (some s):=by
 intro s
 cases s<;>kernel_rfl
theorem nt74 {R R':Type} (B:Ops) (c46:C46) (c74:C74) (p0:Int) (p1:L3) (p2:Int) (again:S74→Option R) (again':S74→Option R') (k0:(LB×L3×Int)→Option R') (k:R'→Option R) (h:∀ s,again s=ob (again' s) k):∀ s,T74 B c46 c74 p0 p1 p2 again (fun y=>ob (k0 y) k) s=ob (T74 B c46 c74 p0 p1 p2 again' k0 s) k:=by
 rintro (_ | x)
 all_goals try cases x
 all_goals (unfold T74;repeat' first | exact rfl | exact h _ | apply qae | (apply qao;intro))
def R74 (c46:C46) (c74:C74) (p0:Int) (p1:L3) (p2:Int):Nat→S74→Option (LB×L3×Int)
 | 0,_=>none
 | n+1,s=>T74 Ops.std c46 c74 p0 p1 p2 (R74 c46 c74 p0 p1 p2 n) some (some s)
theorem rr74 {R:Type} (c46:C46) (c74:C74) (p0:Int) (p1:L3) (p2:Int) (k:AV→Objs→Option R):∀ (n:Nat) (s:S74),aloop tau Ops.std gl0 X74 (ent 46 (e46 c46) (ent 74 (e74 c74) gnil)) ow [0] Tryz.f74 k (I74 s) (E74 p0 p1 p2 s) n=ob (R74 c46 c74 p0 p1 p2 n s) (K18 k)
 | 0,s=>by cases s<;>rfl
 | n+1,s=>by rw [el74];exact nt74 Ops.std c46 c74 p0 p1 p2 _ _ some (K18 k) (rr74 c46 c74 p0 p1 p2 k n) (some s)
def F74 (c46:C46) (c74:C74) (p0:Int) (p1:L3) (p2:Int):Option (LB×L3×Int):=T74 Ops.std c46 c74 p0 p1 p2 (R74 c46 c74 p0 p1 p2 1000000) some none
theorem sf74 {c46:C46} {c74:C74} (h46:Sp46 c46) (h74:Sp74 c74):Sp74 (F74 c46 c74):=fun p0 p1 p2 y hy=>by
 refine qai (qad (ek46 h46) (qad (ek74 h74) qah)) 1000000 (fn:=Tryz.f74) (by kernel_rfl) (by kernel_rfl) (X:=X74) (by kernel_rfl) ?_
 rw [eq74]
 exact (nt74 Ops.std c46 c74 p0 p1 p2 _ _ some (K18 k0) (rr74 c46 c74 p0 p1 p2 k0 1000000) none).trans (by show ob (F74 c46 c74 p0 p1 p2) _=_;rw [hy];rfl)
noncomputable def Rec74:Nat→(Int→L3→Int→Option (LB×L3×Int))
 | 0=>fun _ _ _=>none
 | d+1=>F74 M46 (Rec74 d)
theorem rec74:∀ d,Sp74 (Rec74 d)
 | 0=>fun p0 p1 p2 y (h:(none:Option (LB×L3×Int))=some y)=>by cases h
 | d+1=>sf74 sm46 (rec74 d)
noncomputable def M74:Int→L3→Int→Option (LB×L3×Int):=(Rec74 1000000)
theorem sm74:Sp74 M74:=(rec74 1000000)
def X75:Aux:=⟨[],[(2,.lin (rg 0 10++[14,10,11,12,13,15,16,17]))]⟩
def T75 {R:Type} (B:Ops) (c46:C46) (p0:L3) (p1:Int) (k:(LB×L3×Int)→Option R):Option R:=ob (c46 (2) p0 p1) fun y0=>cond (B.inb y0.1 (3)) (cond (B.lim (2+List.length (List.getD ((120::mt UInt8)::(121::mt UInt8)::(122::mt UInt8)::mt LB) (Int.toNat y0.1) (mt UInt8))) (1)) (cond (B.lim (List.length (List.getD ((120::mt UInt8)::(121::mt UInt8)::(122::mt UInt8)::mt LB) (Int.toNat y0.1) (mt UInt8))+2) (1)) (cond (B.lim (List.length (List.getD ((120::mt UInt8)::(121::mt UInt8)::(122::mt UInt8)::mt LB) (Int.toNat y0.1) (mt UInt8))+2) (1)) (cond (B.lim (2+List.length (List.getD ((120::mt UInt8)::(121::mt UInt8)::(122::mt UInt8)::mt LB) (Int.toNat y0.1) (mt UInt8))) (1)) (ob (c46 (2) y0.2.1 y0.2.2) fun y1=>cond (B.inb y1.1 (3)) (ob (c46 (8) y1.2.1 y1.2.2) fun y2=>cond (B.inb y2.1 (8)) (k ((List.getD (([48]:LB)::([49]:LB)::List.getD ((120::mt UInt8)::(121::mt UInt8)::(122::mt UInt8)::mt LB) (Int.toNat y0.1) (mt UInt8)::(([49,45]:LB)++List.getD ((120::mt UInt8)::(121::mt UInt8)::(122::mt UInt8)::mt LB) (Int.toNat y0.1) (mt UInt8))::(List.getD ((120::mt UInt8)::(121::mt UInt8)::(122::mt UInt8)::mt LB) (Int.toNat y0.1) (mt UInt8)++([43,49]:LB))::(List.getD ((120::mt UInt8)::(121::mt UInt8)::(122::mt UInt8)::mt LB) (Int.toNat y0.1) (mt UInt8)++([45,49]:LB))::(([50,45]:LB)++List.getD ((120::mt UInt8)::(121::mt UInt8)::(122::mt UInt8)::mt LB) (Int.toNat y0.1) (mt UInt8))::List.getD ((120::mt UInt8)::(121::mt UInt8)::(122::mt UInt8)::mt LB) (Int.toNat y1.1) (mt UInt8)::mt LB) (Int.toNat y2.1) (mt UInt8),y2.2.1,y2.2.2))) none) none) none) none) none) none) none
theorem eq75 {R:Type} (B:Ops) (c46:C46) (p0:L3) (p1:Int) (k:AV→Objs→Option R) (n:Nat):afun tau B gl0 X75 (ent 46 (e46 c46) gnil) ow Tryz.f75 [.c (.ptr 0 0)] [(0,.box 57 [.list 3 ty3 p0,.int .i64 p1])] k n=T75 B c46 p0 p1 (K18 k):=by kernel_rfl
theorem nt75 {R R':Type} (B:Ops) (c46:C46) (p0:L3) (p1:Int) (k0:(LB×L3×Int)→Option R') (k:R'→Option R):T75 B c46 p0 p1 (fun y=>ob (k0 y) k)=ob (T75 B c46 p0 p1 k0) k:=by
 unfold T75
 repeat' first | exact rfl | apply qae | (apply qao;intro)
def F75 (c46:C46) (p0:L3) (p1:Int):Option (LB×L3×Int):=T75 Ops.std c46 p0 p1 some
def e75 {R:Type} (c:L3→Int→Option (LB×L3×Int)):Ent R:=fun args objs k=>
 oCons args fun a0 l0=>oC a0 fun x0=>cPtr 0 x0 <| oNil l0 <| oBox 0 57 objs fun b0 o0=>cCons b0 fun u0_0 v0=>cList 3 ty3 u0_0 fun p0=>cCons v0 fun u0_1 v1=>cInt .i64 u0_1 fun p1=>cNil v1 <| oNilO o0 <| ob (c p0 p1) (K18 k)
abbrev Sp75 (c:L3→Int→Option (LB×L3×Int)):Prop:=∀ (p0:L3) (p1:Int) (y:LB×L3×Int),c p0 p1=some y→Spec Tryz.prog gl0 75 [.c (.ptr 0 0)] [(0,.box 57 [.list 3 ty3 p0,.int .i64 p1])] (.c (.str y.1)) [(0,.box 57 [.list 3 ty3 y.2.1,.int .i64 y.2.2])]
theorem ek75 {R:Type} {c:L3→Int→Option (LB×L3×Int)} (hs:Sp75 c):EOk 75 (e75 (R:=R) c):=fun args objs k r h=>by
 unfold e75 at h
 obtain ⟨a0,l0,rfl,q1⟩:=qak h
 obtain ⟨x0,rfl,q2⟩:=qa5 q1
 obtain ⟨rfl,q3⟩:=qa3 q2
 obtain ⟨rfl,q4⟩:=qa2 q3
 obtain ⟨b0,o0,rfl,q5⟩:=qa4 q4
 obtain ⟨u0_0,v0,rfl,q6⟩:=qaa q5
 obtain ⟨p0,rfl,q7⟩:=qac q6
 obtain ⟨u0_1,v1,rfl,q8⟩:=qaa q7
 obtain ⟨p1,rfl,q9⟩:=qar q8
 obtain ⟨rfl,q10⟩:=qaq q9
 obtain ⟨rfl,q11⟩:=qay q10
 exact qan (hs p0 p1) q11
theorem sf75 {c46:C46} (h46:Sp46 c46):Sp75 (F75 c46):=fun p0 p1 y hy=>by
 refine qai (qad (ek46 h46) qah) 1000000 (fn:=Tryz.f75) (by kernel_rfl) (by kernel_rfl) (X:=X75) (by kernel_rfl) ?_
 rw [eq75]
 exact (nt75 Ops.std c46 p0 p1 some (K18 k0)).trans (by show ob (F75 c46 p0 p1) _=_;rw [hy];rfl)
noncomputable def M75:L3→Int→Option (LB×L3×Int):=F75 M46
theorem sm75:Sp75 M75:=sf75 sm46
def X42:Aux:=⟨[(9,([0,1,2,3,4,7]++rg 10 84))],[(2,.lin ([0,1,6,12,18,19,2,3,4,5,7,8,9,10,11,13,14,15,16,17,20,21,22,23,24])),(14,.lin ([0,1,2,3,4,5,6,13,7,8,9,10,11,12,14,15,16]))]⟩
inductive S42 where
 | l0 (v0:LB) (v1:Int) (v2:Int) (v3:L3) (v4:Int)
abbrev C73:Type:=L3→Int→Option (LB×L3×Int)
abbrev C75:Type:=L3→Int→Option (LB×L3×Int)
def T42 {R:Type} (B:Ops) (c46:C46) (c73:C73) (c74:C74) (c75:C75) (p0:L3) (p1:Int) (again:S42→Option R) (k:(LB)→Option R):Option S42→Option R | none=>ob (c46 p1 p0 (0)) fun y0=>cond (B.inb y0.1 (3)) (cond (B.lim (List.length (List.getD ((112::mt UInt8)::(113::mt UInt8)::(114::mt UInt8)::mt LB) (Int.toNat y0.1) (mt UInt8))+1) (1)) (ob (c46 (3) y0.2.1 y0.2.2) fun y1=>cond (B.inb y1.1 (4)) (cond (B.lim (List.length (List.getD ((112::mt UInt8)::(113::mt UInt8)::(114::mt UInt8)::mt LB) (Int.toNat y0.1) (mt UInt8)++([32]:LB))+List.length (List.getD ((97::mt UInt8)::(98::mt UInt8)::(99::mt UInt8)::(100::mt UInt8)::mt LB) (Int.toNat y1.1) (mt UInt8))) (1)) (cond (B.lim (List.length (List.getD ((112::mt UInt8)::(113::mt UInt8)::(114::mt UInt8)::mt LB) (Int.toNat y0.1) (mt UInt8)++([32]:LB)++List.getD ((97::mt UInt8)::(98::mt UInt8)::(99::mt UInt8)::(100::mt UInt8)::mt LB) (Int.toNat y1.1) (mt UInt8))+1) (1)) (ob (c46 (3) y1.2.1 y1.2.2) fun y2=>cond (B.inb y2.1 (4)) (cond (B.lim (List.length (List.getD ((112::mt UInt8)::(113::mt UInt8)::(114::mt UInt8)::mt LB) (Int.toNat y0.1) (mt UInt8)++([32]:LB)++List.getD ((97::mt UInt8)::(98::mt UInt8)::(99::mt UInt8)::(100::mt UInt8)::mt LB) (Int.toNat y1.1) (mt UInt8)++([32]:LB))+List.length (List.getD ((97::mt UInt8)::(98::mt UInt8)::(99::mt UInt8)::(100::mt UInt8)::mt LB) (Int.toNat y2.1) (mt UInt8))) (1)) (cond (B.lim (List.length (List.getD ((112::mt UInt8)::(113::mt UInt8)::(114::mt UInt8)::mt LB) (Int.toNat y0.1) (mt UInt8)++([32]:LB)++List.getD ((97::mt UInt8)::(98::mt UInt8)::(99::mt UInt8)::(100::mt UInt8)::mt LB) (Int.toNat y1.1) (mt UInt8)++([32]:LB)++List.getD ((97::mt UInt8)::(98::mt UInt8)::(99::mt UInt8)::(100::mt UInt8)::mt LB) (Int.toNat y2.1) (mt UInt8))+1) (1)) (ob (c46 (8) y2.2.1 y2.2.2) fun y3=>cond (B.inb y3.1 (8)) (cond (B.lim (List.length (List.getD ((112::mt UInt8)::(113::mt UInt8)::(114::mt UInt8)::mt LB) (Int.toNat y0.1) (mt UInt8)++([32]:LB)++List.getD ((97::mt UInt8)::(98::mt UInt8)::(99::mt UInt8)::(100::mt UInt8)::mt LB) (Int.toNat y1.1) (mt UInt8)++([32]:LB)++List.getD ((97::mt UInt8)::(98::mt UInt8)::(99::mt UInt8)::(100::mt UInt8)::mt LB) (Int.toNat y2.1) (mt UInt8)++([32]:LB))+List.length (List.getD (([45]:LB)::([45]:LB)::([45]:LB)::([45]:LB)::([99,33]:LB)::([99,63]:LB)::([100,33]:LB)::([99,63]:LB)::mt LB) (Int.toNat y3.1) (mt UInt8))) (1)) (cond (B.lim (List.length (List.getD ((112::mt UInt8)::(113::mt UInt8)::(114::mt UInt8)::mt LB) (Int.toNat y0.1) (mt UInt8)++([32]:LB)++List.getD ((97::mt UInt8)::(98::mt UInt8)::(99::mt UInt8)::(100::mt UInt8)::mt LB) (Int.toNat y1.1) (mt UInt8)++([32]:LB)++List.getD ((97::mt UInt8)::(98::mt UInt8)::(99::mt UInt8)::(100::mt UInt8)::mt LB) (Int.toNat y2.1) (mt UInt8)++([32]:LB)++List.getD (([45]:LB)::([45]:LB)::([45]:LB)::([45]:LB)::([99,33]:LB)::([99,63]:LB)::([100,33]:LB)::([99,63]:LB)::mt LB) (Int.toNat y3.1) (mt UInt8))+1) (1)) (ob (c73 y3.2.1 y3.2.2) fun y4=>ob (c46 (9) y4.2.1 y4.2.2) fun y5=>cond (B.eq y5.1 (8)) (ob (c74 (2) y5.2.1 y5.2.2) fun y6=>cond (B.lim (List.length (List.getD ((112::mt UInt8)::(113::mt UInt8)::(114::mt UInt8)::mt LB) (Int.toNat y0.1) (mt UInt8)++([32]:LB)++List.getD ((97::mt UInt8)::(98::mt UInt8)::(99::mt UInt8)::(100::mt UInt8)::mt LB) (Int.toNat y1.1) (mt UInt8)++([32]:LB)++List.getD ((97::mt UInt8)::(98::mt UInt8)::(99::mt UInt8)::(100::mt UInt8)::mt LB) (Int.toNat y2.1) (mt UInt8)++([32]:LB)++List.getD (([45]:LB)::([45]:LB)::([45]:LB)::([45]:LB)::([99,33]:LB)::([99,63]:LB)::([100,33]:LB)::([99,63]:LB)::mt LB) (Int.toNat y3.1) (mt UInt8)++([32]:LB))+List.length y6.1) (1)) (ob (c46 (4) y6.2.1 y6.2.2) fun y7=>cond (B.inb y7.1 (4)) (again (.l0 (List.getD ((112::mt UInt8)::(113::mt UInt8)::(114::mt UInt8)::mt LB) (Int.toNat y0.1) (mt UInt8)++([32]:LB)++List.getD ((97::mt UInt8)::(98::mt UInt8)::(99::mt UInt8)::(100::mt UInt8)::mt LB) (Int.toNat y1.1) (mt UInt8)++([32]:LB)++List.getD ((97::mt UInt8)::(98::mt UInt8)::(99::mt UInt8)::(100::mt UInt8)::mt LB) (Int.toNat y2.1) (mt UInt8)++([32]:LB)++List.getD (([45]:LB)::([45]:LB)::([45]:LB)::([45]:LB)::([99,33]:LB)::([99,63]:LB)::([100,33]:LB)::([99,63]:LB)::mt LB) (Int.toNat y3.1) (mt UInt8)++([32]:LB)++y6.1) (List.getD (0::1::1::2::mt Int) (Int.toNat y7.1) (0)) 0 y7.2.1 y7.2.2)) none) none) (cond (B.lim (List.length (List.getD ((112::mt UInt8)::(113::mt UInt8)::(114::mt UInt8)::mt LB) (Int.toNat y0.1) (mt UInt8)++([32]:LB)++List.getD ((97::mt UInt8)::(98::mt UInt8)::(99::mt UInt8)::(100::mt UInt8)::mt LB) (Int.toNat y1.1) (mt UInt8)++([32]:LB)++List.getD ((97::mt UInt8)::(98::mt UInt8)::(99::mt UInt8)::(100::mt UInt8)::mt LB) (Int.toNat y2.1) (mt UInt8)++([32]:LB)++List.getD (([45]:LB)::([45]:LB)::([45]:LB)::([45]:LB)::([99,33]:LB)::([99,63]:LB)::([100,33]:LB)::([99,63]:LB)::mt LB) (Int.toNat y3.1) (mt UInt8)++([32]:LB))+List.length y4.1) (1)) (ob (c46 (4) y5.2.1 y5.2.2) fun y6=>cond (B.inb y6.1 (4)) (again (.l0 (List.getD ((112::mt UInt8)::(113::mt UInt8)::(114::mt UInt8)::mt LB) (Int.toNat y0.1) (mt UInt8)++([32]:LB)++List.getD ((97::mt UInt8)::(98::mt UInt8)::(99::mt UInt8)::(100::mt UInt8)::mt LB) (Int.toNat y1.1) (mt UInt8)++([32]:LB)++List.getD ((97::mt UInt8)::(98::mt UInt8)::(99::mt UInt8)::(100::mt UInt8)::mt LB) (Int.toNat y2.1) (mt UInt8)++([32]:LB)++List.getD (([45]:LB)::([45]:LB)::([45]:LB)::([45]:LB)::([99,33]:LB)::([99,63]:LB)::([100,33]:LB)::([99,63]:LB)::mt LB) (Int.toNat y3.1) (mt UInt8)++([32]:LB)++y4.1) (List.getD (0::1::1::2::mt Int) (Int.toNat y6.1) (0)) 0 y6.2.1 y6.2.2)) none) none)) none) none) none) none) none) none) none) none) none) none) none | some (.l0 v0 v1 v2 v3 v4)=>cond (B.lt v2 v1) (ob (c46 (2) v3 v4) fun y0=>cond (B.inb y0.1 (3)) (ob (c75 y0.2.1 y0.2.2) fun y1=>ob (c46 (6) y1.2.1 y1.2.2) fun y2=>cond (B.eq y2.1 (0)) (cond (B.lim (List.length v0+3) (1)) (cond (B.lim (List.length (v0++([32,59,32]:LB))+List.length (List.getD ((120::mt UInt8)::(121::mt UInt8)::(122::mt UInt8)::mt LB) (Int.toNat y0.1) (mt UInt8))) (1)) (cond (B.lim (List.length (v0++([32,59,32]:LB)++List.getD ((120::mt UInt8)::(121::mt UInt8)::(122::mt UInt8)::mt LB) (Int.toNat y0.1) (mt UInt8))+3) (1)) (cond (B.lim (List.length (v0++([32,59,32]:LB)++List.getD ((120::mt UInt8)::(121::mt UInt8)::(122::mt UInt8)::mt LB) (Int.toNat y0.1) (mt UInt8)++([32,61,32]:LB))+List.length y1.1) (1)) (again (.l0 (v0++([32,59,32]:LB)++List.getD ((120::mt UInt8)::(121::mt UInt8)::(122::mt UInt8)::mt LB) (Int.toNat y0.1) (mt UInt8)++([32,61,32]:LB)++y1.1) v1 (IntKind.wrap .i64 (v2+1)) y2.2.1 y2.2.2)) none) none) none) none) (cond (B.eq y2.1 (1)) (cond (B.lim (List.length v0+3) (1)) (cond (B.lim (List.length (v0++([32,59,32]:LB))+List.length (List.getD ((120::mt UInt8)::(121::mt UInt8)::(122::mt UInt8)::mt LB) (Int.toNat y0.1) (mt UInt8))) (1)) (cond (B.lim (List.length (v0++([32,59,32]:LB)++List.getD ((120::mt UInt8)::(121::mt UInt8)::(122::mt UInt8)::mt LB) (Int.toNat y0.1) (mt UInt8))+3) (1)) (cond (B.lim (List.length (v0++([32,59,32]:LB)++List.getD ((120::mt UInt8)::(121::mt UInt8)::(122::mt UInt8)::mt LB) (Int.toNat y0.1) (mt UInt8)++([32,61,32]:LB))+1) (1)) (again (.l0 (v0++([32,59,32]:LB)++List.getD ((120::mt UInt8)::(121::mt UInt8)::(122::mt UInt8)::mt LB) (Int.toNat y0.1) (mt UInt8)++([32,61,32]:LB)++([48]:LB)) v1 (IntKind.wrap .i64 (v2+1)) y2.2.1 y2.2.2)) none) none) none) none) (cond (B.lim (3+List.length (List.getD ((120::mt UInt8)::(121::mt UInt8)::(122::mt UInt8)::mt LB) (Int.toNat y0.1) (mt UInt8))) (1)) (cond (B.lim (List.length (([49,45,40]:LB)++List.getD ((120::mt UInt8)::(121::mt UInt8)::(122::mt UInt8)::mt LB) (Int.toNat y0.1) (mt UInt8))+4) (1)) (cond (B.lim (1+List.length (List.getD ((120::mt UInt8)::(121::mt UInt8)::(122::mt UInt8)::mt LB) (Int.toNat y0.1) (mt UInt8))) (1)) (cond (B.lim (List.length (([40]:LB)++List.getD ((120::mt UInt8)::(121::mt UInt8)::(122::mt UInt8)::mt LB) (Int.toNat y0.1) (mt UInt8))+3) (1)) (ob (c46 (2) y2.2.1 y2.2.2) fun y3=>cond (B.inb y3.1 (3)) (cond (B.lim (1+List.length (List.getD ((120::mt UInt8)::(121::mt UInt8)::(122::mt UInt8)::mt LB) (Int.toNat y3.1) (mt UInt8))) (1)) (cond (B.lim (List.length (([40]:LB)++List.getD ((120::mt UInt8)::(121::mt UInt8)::(122::mt UInt8)::mt LB) (Int.toNat y3.1) (mt UInt8))+4) (1)) (ob (c46 (3) y3.2.1 y3.2.2) fun y4=>cond (B.inb y4.1 (3)) (cond (B.lim (List.length v0+3) (1)) (cond (B.lim (List.length (v0++([32,59,32]:LB))+List.length (List.getD ((120::mt UInt8)::(121::mt UInt8)::(122::mt UInt8)::mt LB) (Int.toNat y0.1) (mt UInt8))) (1)) (cond (B.lim (List.length (v0++([32,59,32]:LB)++List.getD ((120::mt UInt8)::(121::mt UInt8)::(122::mt UInt8)::mt LB) (Int.toNat y0.1) (mt UInt8))+3) (1)) (cond (B.lim (List.length (v0++([32,59,32]:LB)++List.getD ((120::mt UInt8)::(121::mt UInt8)::(122::mt UInt8)::mt LB) (Int.toNat y0.1) (mt UInt8)++([32,61,32]:LB))+List.length (List.getD ((([49,45,40]:LB)++List.getD ((120::mt UInt8)::(121::mt UInt8)::(122::mt UInt8)::mt LB) (Int.toNat y0.1) (mt UInt8)++([61,61,49,41]:LB))::(([40]:LB)++List.getD ((120::mt UInt8)::(121::mt UInt8)::(122::mt UInt8)::mt LB) (Int.toNat y0.1) (mt UInt8)++([60,49,41]:LB))::(([40]:LB)++List.getD ((120::mt UInt8)::(121::mt UInt8)::(122::mt UInt8)::mt LB) (Int.toNat y3.1) (mt UInt8)++([61,61,48,41]:LB))::mt LB) (Int.toNat y4.1) (mt UInt8))) (1)) (again (.l0 (v0++([32,59,32]:LB)++List.getD ((120::mt UInt8)::(121::mt UInt8)::(122::mt UInt8)::mt LB) (Int.toNat y0.1) (mt UInt8)++([32,61,32]:LB)++List.getD ((([49,45,40]:LB)++List.getD ((120::mt UInt8)::(121::mt UInt8)::(122::mt UInt8)::mt LB) (Int.toNat y0.1) (mt UInt8)++([61,61,49,41]:LB))::(([40]:LB)++List.getD ((120::mt UInt8)::(121::mt UInt8)::(122::mt UInt8)::mt LB) (Int.toNat y0.1) (mt UInt8)++([60,49,41]:LB))::(([40]:LB)++List.getD ((120::mt UInt8)::(121::mt UInt8)::(122::mt UInt8)::mt LB) (Int.toNat y3.1) (mt UInt8)++([61,61,48,41]:LB))::mt LB) (Int.toNat y4.1) (mt UInt8)) v1 (IntKind.wrap .i64 (v2+1)) y4.2.1 y4.2.2)) none) none) none) none) none) none) none) none) none) none) none) none))) none) (k v0)
def E42 (p0:L3) (p1:Int):S42→List AV×Objs
 | .l0 v0 v1 v2 v3 v4=>(mk 94 [(5,.c (.ptr 5 0)),(6,.c (.str v0)),(8,.c (.int .i64 v1)),(9,.c (.int .i64 v2))],[(5,.box 57 [.list 3 ty3 v3,.int .i64 v4])])
def I42:S42→Nat
 | .l0 _ _ _ _ _=>0
theorem eq42 {R:Type} (B:Ops) (c46:C46) (c73:C73) (c74:C74) (c75:C75) (p0:L3) (p1:Int) (k:AV→Objs→Option R) (n:Nat):afun tau B gl0 X42 (ent 46 (e46 c46) (ent 73 (e73 c73) (ent 74 (e74 c74) (ent 75 (e75 c75) gnil)))) ow Tryz.f42 [.c (.list 3 ty3 p0),.c (.int .i64 p1)] [] k n=T42 B c46 c73 c74 c75 p0 p1 (fun s=>aloop tau B gl0 X42 (ent 46 (e46 c46) (ent 73 (e73 c73) (ent 74 (e74 c74) (ent 75 (e75 c75) gnil)))) ow [] Tryz.f42 k (I42 s) (E42 p0 p1 s) n) (K2 k) none:=by kernel_rfl
theorem el42 {R:Type} (B:Ops) (c46:C46) (c73:C73) (c74:C74) (c75:C75) (p0:L3) (p1:Int) (k:AV→Objs→Option R) (n:Nat):∀ s,aloop tau B gl0 X42 (ent 46 (e46 c46) (ent 73 (e73 c73) (ent 74 (e74 c74) (ent 75 (e75 c75) gnil)))) ow [] Tryz.f42 k (I42 s) (E42 p0 p1 s) (n+1)=T42 B c46 c73 c74 c75 p0 p1 (fun s=>aloop tau B gl0 X42 (ent 46 (e46 c46) (ent 73 (e73 c73) (ent 74 (e74 c74) (ent 75 (e75 c75) gnil)))) ow [] Tryz.f42 k (I42 s) (E42 p0 p1 s) n) (K2 k) (some s):=by
 intro s
 cases s<;>kernel_rfl
theorem nt42 {R R':Type} (B:Ops) (c46:C46) (c73:C73) (c74:C74) (c75:C75) (p0:L3) (p1:Int) (again:S42→Option R) (again':S42→Option R') (k0:(LB)→Option R') (k:R'→Option R) (h:∀ s,again s=ob (again' s) k):∀ s,T42 B c46 c73 c74 c75 p0 p1 again (fun y=>ob (k0 y) k) s=ob (T42 B c46 c73 c74 c75 p0 p1 again' k0 s) k:=by
 rintro (_ | x)
 all_goals try cases x
 all_goals (unfold T42;repeat' first | exact rfl | exact h _ | apply qae | (apply qao;intro))
def R42 (c46:C46) (c73:C73) (c74:C74) (c75:C75) (p0:L3) (p1:Int):Nat→S42→Option (LB)
 | 0,_=>none
 | n+1,s=>T42 Ops.std c46 c73 c74 c75 p0 p1 (R42 c46 c73 c74 c75 p0 p1 n) some (some s)
theorem rr42 {R:Type} (c46:C46) (c73:C73) (c74:C74) (c75:C75) (p0:L3) (p1:Int) (k:AV→Objs→Option R):∀ (n:Nat) (s:S42),aloop tau Ops.std gl0 X42 (ent 46 (e46 c46) (ent 73 (e73 c73) (ent 74 (e74 c74) (ent 75 (e75 c75) gnil)))) ow [] Tryz.f42 k (I42 s) (E42 p0 p1 s) n=ob (R42 c46 c73 c74 c75 p0 p1 n s) (K2 k)
 | 0,s=>by cases s<;>rfl
 | n+1,s=>by rw [el42];exact nt42 Ops.std c46 c73 c74 c75 p0 p1 _ _ some (K2 k) (rr42 c46 c73 c74 c75 p0 p1 k n) (some s)
def F42 (c46:C46) (c73:C73) (c74:C74) (c75:C75) (p0:L3) (p1:Int):Option (LB):=T42 Ops.std c46 c73 c74 c75 p0 p1 (R42 c46 c73 c74 c75 p0 p1 1000000) some none
def e42 {R:Type} (c:L3→Int→Option (LB)):Ent R:=fun args objs k=>
 oL args 3 ty3 fun p0 l0=>oI l0 .i64 fun p1 l1=>oE l1 objs <| ob (c p0 p1) (K2 k)
abbrev Sp42 (c:L3→Int→Option (LB)):Prop:=∀ (p0:L3) (p1:Int) (y:LB),c p0 p1=some y→Spec Tryz.prog gl0 42 [.c (.list 3 ty3 p0),.c (.int .i64 p1)] [] (.c (.str y)) []
theorem ek42 {R:Type} {c:L3→Int→Option (LB)} (hs:Sp42 c):EOk 42 (e42 (R:=R) c):=fun args objs k r h=>by
 unfold e42 at h
 obtain ⟨p0,l0,rfl,q3⟩:=qa1 h
 obtain ⟨p1,l1,rfl,q6⟩:=qas q3
 obtain ⟨rfl,rfl,q8⟩:=qam q6
 exact qan (hs p0 p1) q8
theorem sf42 {c46:C46} {c73:C73} {c74:C74} {c75:C75} (h46:Sp46 c46) (h73:Sp73 c73) (h74:Sp74 c74) (h75:Sp75 c75):Sp42 (F42 c46 c73 c74 c75):=fun p0 p1 y hy=>by
 refine qai (qad (ek46 h46) (qad (ek73 h73) (qad (ek74 h74) (qad (ek75 h75) qah)))) 1000000 (fn:=Tryz.f42) (by kernel_rfl) (by kernel_rfl) (X:=X42) (by kernel_rfl) ?_
 rw [eq42]
 exact (nt42 Ops.std c46 c73 c74 c75 p0 p1 _ _ some (K2 k0) (rr42 c46 c73 c74 c75 p0 p1 k0 1000000) none).trans (by show ob (F42 c46 c73 c74 c75 p0 p1) _=_;rw [hy];rfl)
noncomputable def M42:L3→Int→Option (LB):=F42 M46 M73 M74 M75
theorem sm42:Sp42 M42:=sf42 sm46 sm73 sm74 sm75
def X17:Aux:=⟨[(3,([0,2]++rg 5 103)),(8,([0,2,4]++rg 7 101)),(15,([0,2,4,6]++rg 8 100))],[(5,.lin (rg 0 11++[15,16,17,18,19,20,25,26,27,28,29,30,11,12,13,14,21,22,23,24,31,32,33,34,35])),(17,.lin ([0,1,2,3,4,8,9,10,11,12,13,5,6,7,14,15,16,17]))]⟩
inductive S17 where
 | l0 (v0:LB) (v1:Int)
 | l1 (v0:LB) (v1:Int) (v2:Int)
 | l2 (v0:LB) (v1:Int) (v2:Int)
abbrev C41:Type:=Int→Option (LB)
abbrev C42:Type:=L3→Int→Option (LB)
def T17 {R:Type} (B:Ops) (c40:C40) (c41:C41) (c42:C42) (p0:Int) (p1:Int) (p2:L22) (again:S17→Option R) (k:(LB)→Option R):Option S17→Option R | none=>again (.l0 (mt UInt8) 0) | some (.l0 v0 v1)=>ob (c40 p1 (2)) fun y0=>cond (B.lt v1 (IntKind.wrap .i64 (2+y0))) (cond (B.lim (List.length v0+4) (1)) (cond (B.inb v1 (3)) (cond (B.lim (List.length (v0++([118,97,114,32]:LB))+List.length (List.getD ((120::mt UInt8)::(121::mt UInt8)::(122::mt UInt8)::mt LB) v1.toNat (mt UInt8))) (1)) (cond (B.lim (List.length (v0++([118,97,114,32]:LB)++List.getD ((120::mt UInt8)::(121::mt UInt8)::(122::mt UInt8)::mt LB) v1.toNat (mt UInt8))+1) (1)) (cond (B.eq (7) (0)) none (cond (B.eq (IntKind.wrap .i64 (2+v1)) (0)) none (cond (B.eq (IntKind.wrap .i64 (5+v1)) (0)) none (ob (c40 (IntKind.wrap .i64 (Int.tdiv p1 (7))) (2)) fun y1=>cond (B.inb y1 (2)) (cond (B.lim (List.length (v0++([118,97,114,32]:LB)++List.getD ((120::mt UInt8)::(121::mt UInt8)::(122::mt UInt8)::mt LB) v1.toNat (mt UInt8)++([32]:LB))+List.length (List.getD (([48]:LB)::([45,49]:LB)::mt LB) y1.toNat (mt UInt8))) (1)) (cond (B.lim (List.length (v0++([118,97,114,32]:LB)++List.getD ((120::mt UInt8)::(121::mt UInt8)::(122::mt UInt8)::mt LB) v1.toNat (mt UInt8)++([32]:LB)++List.getD (([48]:LB)::([45,49]:LB)::mt LB) y1.toNat (mt UInt8))+1) (1)) (ob (c40 (IntKind.wrap .i64 (Int.tdiv p1 (IntKind.wrap .i64 (2+v1)))) (3)) fun y2=>cond (B.inb y2 (3)) (cond (B.lim (List.length (v0++([118,97,114,32]:LB)++List.getD ((120::mt UInt8)::(121::mt UInt8)::(122::mt UInt8)::mt LB) v1.toNat (mt UInt8)++([32]:LB)++List.getD (([48]:LB)::([45,49]:LB)::mt LB) y1.toNat (mt UInt8)++([32]:LB))+List.length (List.getD (([49]:LB)::([50]:LB)::([51]:LB)::mt LB) y2.toNat (mt UInt8))) (1)) (cond (B.lim (List.length (v0++([118,97,114,32]:LB)++List.getD ((120::mt UInt8)::(121::mt UInt8)::(122::mt UInt8)::mt LB) v1.toNat (mt UInt8)++([32]:LB)++List.getD (([48]:LB)::([45,49]:LB)::mt LB) y1.toNat (mt UInt8)++([32]:LB)++List.getD (([49]:LB)::([50]:LB)::([51]:LB)::mt LB) y2.toNat (mt UInt8))+1) (1)) (ob (c40 (IntKind.wrap .i64 (Int.tdiv p1 (IntKind.wrap .i64 (5+v1)))) (2)) fun y3=>cond (B.inb y3 (2)) (cond (B.lim (List.length (v0++([118,97,114,32]:LB)++List.getD ((120::mt UInt8)::(121::mt UInt8)::(122::mt UInt8)::mt LB) v1.toNat (mt UInt8)++([32]:LB)++List.getD (([48]:LB)::([45,49]:LB)::mt LB) y1.toNat (mt UInt8)++([32]:LB)++List.getD (([49]:LB)::([50]:LB)::([51]:LB)::mt LB) y2.toNat (mt UInt8)++([32]:LB))+List.length (List.getD (([48]:LB)::([49]:LB)::mt LB) y3.toNat (mt UInt8))) (1)) (cond (B.lim (List.length (v0++([118,97,114,32]:LB)++List.getD ((120::mt UInt8)::(121::mt UInt8)::(122::mt UInt8)::mt LB) v1.toNat (mt UInt8)++([32]:LB)++List.getD (([48]:LB)::([45,49]:LB)::mt LB) y1.toNat (mt UInt8)++([32]:LB)++List.getD (([49]:LB)::([50]:LB)::([51]:LB)::mt LB) y2.toNat (mt UInt8)++([32]:LB)++List.getD (([48]:LB)::([49]:LB)::mt LB) y3.toNat (mt UInt8))+1) (1)) (again (.l0 (v0++([118,97,114,32]:LB)++List.getD ((120::mt UInt8)::(121::mt UInt8)::(122::mt UInt8)::mt LB) v1.toNat (mt UInt8)++([32]:LB)++List.getD (([48]:LB)::([45,49]:LB)::mt LB) y1.toNat (mt UInt8)++([32]:LB)++List.getD (([49]:LB)::([50]:LB)::([51]:LB)::mt LB) y2.toNat (mt UInt8)++([32]:LB)++List.getD (([48]:LB)::([49]:LB)::mt LB) y3.toNat (mt UInt8)++([10]:LB)) (IntKind.wrap .i64 (v1+1)))) none) none) none) none) none) none) none) none) none)))) none) none) none) none) (ob (c40 p0 (4)) fun y1=>cond (B.eq (3) (0)) none (again (.l1 v0 (IntKind.wrap .i64 (2+IntKind.wrap .i64 (Int.tdiv y1 (3)))) 0))) | some (.l1 v0 v1 v2)=>cond (B.lt v2 v1) (cond (B.lim (List.length v0+5) (1)) (cond (B.inb v2 (3)) (cond (B.lim (List.length (v0++([112,114,111,99,32]:LB))+List.length (List.getD ((112::mt UInt8)::(113::mt UInt8)::(114::mt UInt8)::mt LB) v2.toNat (mt UInt8))) (1)) (cond (B.lim (List.length (v0++([112,114,111,99,32]:LB)++List.getD ((112::mt UInt8)::(113::mt UInt8)::(114::mt UInt8)::mt LB) v2.toNat (mt UInt8))+6) (1)) (cond (B.eq (IntKind.wrap .i64 (2+v2)) (0)) none (ob (c40 (IntKind.wrap .i64 (Int.tdiv p0 (IntKind.wrap .i64 (2+v2)))) (3)) fun y0=>cond (B.eq y0 (0)) (cond (B.lim (List.length (v0++([112,114,111,99,32]:LB)++List.getD ((112::mt UInt8)::(113::mt UInt8)::(114::mt UInt8)::mt LB) v2.toNat (mt UInt8)++([32,97,32,98,32,99]:LB))+2) (1)) (cond (B.lim (List.length (v0++([112,114,111,99,32]:LB)++List.getD ((112::mt UInt8)::(113::mt UInt8)::(114::mt UInt8)::mt LB) v2.toNat (mt UInt8)++([32,97,32,98,32,99]:LB)++([32,100]:LB))+1) (1)) (again (.l1 (v0++([112,114,111,99,32]:LB)++List.getD ((112::mt UInt8)::(113::mt UInt8)::(114::mt UInt8)::mt LB) v2.toNat (mt UInt8)++([32,97,32,98,32,99]:LB)++([32,100]:LB)++([10]:LB)) v1 (IntKind.wrap .i64 (v2+1)))) none) none) (cond (B.lim (List.length (v0++([112,114,111,99,32]:LB)++List.getD ((112::mt UInt8)::(113::mt UInt8)::(114::mt UInt8)::mt LB) v2.toNat (mt UInt8)++([32,97,32,98,32,99]:LB))+1) (1)) (again (.l1 (v0++([112,114,111,99,32]:LB)++List.getD ((112::mt UInt8)::(113::mt UInt8)::(114::mt UInt8)::mt LB) v2.toNat (mt UInt8)++([32,97,32,98,32,99]:LB)++([10]:LB)) v1 (IntKind.wrap .i64 (v2+1)))) none))) none) none) none) none) (again (.l2 v0 v1 0)) | some (.l2 v0 v1 v2)=>cond (B.lt v2 (↑p2.length)) (cond (B.lt v2 (10)) (cond (B.lim (List.length v0+6) (1)) (cond (B.inb v2 p2.length) (ob (c41 (IntKind.wrap .i64 (IntKind.wrap .i64 (3*v2)+1))) fun y0=>cond (B.lim (List.length (v0++([116,114,97,110,115,32]:LB))+List.length y0) (1)) (cond (B.lim (List.length (v0++([116,114,97,110,115,32]:LB)++y0)+1) (1)) (ob (c42 (p2.getD v2.toNat ty22.dflt) v1) fun y1=>cond (B.lim (List.length (v0++([116,114,97,110,115,32]:LB)++y0++([32]:LB))+List.length y1) (1)) (cond (B.lim (List.length (v0++([116,114,97,110,115,32]:LB)++y0++([32]:LB)++y1)+1) (1)) (again (.l2 (v0++([116,114,97,110,115,32]:LB)++y0++([32]:LB)++y1++([10]:LB)) v1 (IntKind.wrap .i64 (v2+1)))) none) none) none) none) none) none) (k v0)) (k v0)
def E17 (p0:Int) (p1:Int) (p2:L22):S17→List AV×Objs
 | .l0 v0 v1=>(mk 108 [(1,.c (.ptr 1 0)),(3,.c (.str v0)),(4,.c (.int .i64 v1))],[(1,.box 25 [.int .i64 p0,.int .i64 p1,.list 22 ty22 p2])])
 | .l1 v0 v1 v2=>(mk 108 [(1,.c (.ptr 1 0)),(3,.c (.str v0)),(5,.c (.int .i64 v1)),(6,.c (.int .i64 v2))],[(1,.box 25 [.int .i64 p0,.int .i64 p1,.list 22 ty22 p2])])
 | .l2 v0 v1 v2=>(mk 108 [(1,.c (.ptr 1 0)),(3,.c (.str v0)),(5,.c (.int .i64 v1)),(7,.c (.int .i64 v2))],[(1,.box 25 [.int .i64 p0,.int .i64 p1,.list 22 ty22 p2])])
def I17:S17→Nat
 | .l0 _ _=>0
 | .l1 _ _ _=>1
 | .l2 _ _ _=>2
theorem eq17 {R:Type} (B:Ops) (c40:C40) (c41:C41) (c42:C42) (p0:Int) (p1:Int) (p2:L22) (k:AV→Objs→Option R) (n:Nat):afun tau B gl0 X17 (ent 40 (e40 c40) (ent 41 (e41 c41) (ent 42 (e42 c42) gnil))) ow Tryz.f17 [.agg [.int .i64 p0,.int .i64 p1,.list 22 ty22 p2]] [] k n=T17 B c40 c41 c42 p0 p1 p2 (fun s=>aloop tau B gl0 X17 (ent 40 (e40 c40) (ent 41 (e41 c41) (ent 42 (e42 c42) gnil))) ow [] Tryz.f17 k (I17 s) (E17 p0 p1 p2 s) n) (K2 k) none:=by kernel_rfl
theorem el17 {R:Type} (B:Ops) (c40:C40) (c41:C41) (c42:C42) (p0:Int) (p1:Int) (p2:L22) (k:AV→Objs→Option R) (n:Nat):∀ s,aloop tau B gl0 X17 (ent 40 (e40 c40) (ent 41 (e41 c41) (ent 42 (e42 c42) gnil))) ow [] Tryz.f17 k (I17 s) (E17 p0 p1 p2 s) (n+1)=T17 B c40 c41 c42 p0 p1 p2 (fun s=>aloop tau B gl0 X17 (ent 40 (e40 c40) (ent 41 (e41 c41) (ent 42 (e42 c42) gnil))) ow [] Tryz.f17 k (I17 s) (E17 p0 p1 p2 s) n) (K2 k) (some s):=by
 intro s
 cases s<;>kernel_rfl
theorem nt17 {R R':Type} (B:Ops) (c40:C40) (c41:C41) (c42:C42) (p0:Int) (p1:Int) (p2:L22) (again:S17→Option R) (again':S17→Option R') (k0:(LB)→Option R') (k:R'→Option R) (h:∀ s,again s=ob (again' s) k):∀ s,T17 B c40 c41 c42 p0 p1 p2 again (fun y=>ob (k0 y) k) s=ob (T17 B c40 c41 c42 p0 p1 p2 again' k0 s) k:=by
 rintro (_ | x)
 all_goals try cases x
 all_goals (unfold T17;repeat' first | exact rfl | exact h _ | apply qae | (apply qao;intro))
def R17 (c40:C40) (c41:C41) (c42:C42) (p0:Int) (p1:Int) (p2:L22):Nat→S17→Option (LB)
 | 0,_=>none
 | n+1,s=>T17 Ops.std c40 c41 c42 p0 p1 p2 (R17 c40 c41 c42 p0 p1 p2 n) some (some s)
theorem rr17 {R:Type} (c40:C40) (c41:C41) (c42:C42) (p0:Int) (p1:Int) (p2:L22) (k:AV→Objs→Option R):∀ (n:Nat) (s:S17),aloop tau Ops.std gl0 X17 (ent 40 (e40 c40) (ent 41 (e41 c41) (ent 42 (e42 c42) gnil))) ow [] Tryz.f17 k (I17 s) (E17 p0 p1 p2 s) n=ob (R17 c40 c41 c42 p0 p1 p2 n s) (K2 k)
 | 0,s=>by cases s<;>rfl
 | n+1,s=>by rw [el17];exact nt17 Ops.std c40 c41 c42 p0 p1 p2 _ _ some (K2 k) (rr17 c40 c41 c42 p0 p1 p2 k n) (some s)
def F17 (c40:C40) (c41:C41) (c42:C42) (p0:Int) (p1:Int) (p2:L22):Option (LB):=T17 Ops.std c40 c41 c42 p0 p1 p2 (R17 c40 c41 c42 p0 p1 p2 1000000) some none
def e17 {R:Type} (c:Int→Int→L22→Option (LB)):Ent R:=fun args objs k=>
 oCons args fun a0 l0=>oAgg a0 fun x0=>cCons x0 fun z0_0 w0_0=>cInt .i64 z0_0 fun p0=>cCons w0_0 fun z0_1 w0_1=>cInt .i64 z0_1 fun p1=>cCons w0_1 fun z0_2 w0_2=>cList 22 ty22 z0_2 fun p2=>cNil w0_2 <| oE l0 objs <| ob (c p0 p1 p2) (K2 k)
abbrev Sp17 (c:Int→Int→L22→Option (LB)):Prop:=∀ (p0:Int) (p1:Int) (p2:L22) (y:LB),c p0 p1 p2=some y→Spec Tryz.prog gl0 17 [.agg [.int .i64 p0,.int .i64 p1,.list 22 ty22 p2]] [] (.c (.str y)) []
theorem ek17 {R:Type} {c:Int→Int→L22→Option (LB)} (hs:Sp17 c):EOk 17 (e17 (R:=R) c):=fun args objs k r h=>by
 unfold e17 at h
 obtain ⟨a0,l0,rfl,q1⟩:=qak h
 obtain ⟨x0,rfl,q2⟩:=qav q1
 obtain ⟨z0_0,w0_0,rfl,q3⟩:=qaa q2
 obtain ⟨p0,rfl,q4⟩:=qar q3
 obtain ⟨z0_1,w0_1,rfl,q5⟩:=qaa q4
 obtain ⟨p1,rfl,q6⟩:=qar q5
 obtain ⟨z0_2,w0_2,rfl,q7⟩:=qaa q6
 obtain ⟨p2,rfl,q8⟩:=qac q7
 obtain ⟨rfl,q9⟩:=qaq q8
 obtain ⟨rfl,rfl,q11⟩:=qam q9
 exact qan (hs p0 p1 p2) q11
theorem sf17 {c40:C40} {c41:C41} {c42:C42} (h40:Sp40 c40) (h41:Sp41 c41) (h42:Sp42 c42):Sp17 (F17 c40 c41 c42):=fun p0 p1 p2 y hy=>by
 refine qai (qad (ek40 h40) (qad (ek41 h41) (qad (ek42 h42) qah))) 1000000 (fn:=Tryz.f17) (by kernel_rfl) (by kernel_rfl) (X:=X17) (by kernel_rfl) ?_
 rw [eq17]
 exact (nt17 Ops.std c40 c41 c42 p0 p1 p2 _ _ some (K2 k0) (rr17 c40 c41 c42 p0 p1 p2 k0 1000000) none).trans (by show ob (F17 c40 c41 c42 p0 p1 p2) _=_;rw [hy];rfl)
noncomputable def M17:Int→Int→L22→Option (LB):=F17 M40 M41 M42
theorem sm17:Sp17 M17:=sf17 sm40 sm41 sm42
def X35:Aux:=⟨[(4,([2,3,4]++rg 8 26))],[]⟩
inductive S35 where
 | l0 (v2:Int) (v3:Int) (v4:L9)
def T35 {R:Type} (B:Ops) (p0:LB) (p1:Int) (again:S35→Option R) (k:(L9)→Option R):Option S35→Option R | none=>again (.l0 0 0 (mt (Ty.den Ty.str))) | some (.l0 v2 v3 v4)=>cond (B.lt v3 (↑p0.length)) (cond (B.inb v3 p0.length) (cond (B.eq (Nat.cast (UInt8.toNat (p0.getD v3.toNat (0)))) p1) (cond (B.inb v3 (List.length p0+1)) (cond (bif B.le (0) v2 then B.le v2 v3 else false) (cond (B.lim (List.length v4+List.length (List.drop v2.toNat (List.take v3.toNat p0)::mt (Ty.den Ty.str))) (16)) (again (.l0 (IntKind.wrap .i64 (v3+1)) (IntKind.wrap .i64 (v3+1)) (v4++List.drop v2.toNat (List.take v3.toNat p0)::mt (Ty.den Ty.str)))) none) none) none) (again (.l0 v2 (IntKind.wrap .i64 (v3+1)) v4))) none) (cond (B.inb v2 (List.length p0+1)) (cond (B.lim (List.length v4+List.length (List.drop v2.toNat (List.take p0.length p0)::mt (Ty.den Ty.str))) (16)) (k (v4++List.drop v2.toNat (List.take p0.length p0)::mt (Ty.den Ty.str))) none) none)
def E35 (p0:LB) (p1:Int):S35→List AV×Objs
 | .l0 v2 v3 v4=>(mk 34 [(0,.c (.str p0)),(1,.c (.int .u8 p1)),(5,.c (.own 5)),(6,.c (.int .i64 v2)),(7,.c (.int .i64 v3))],[(5,.row 9 ty9 v4)])
def I35:S35→Nat
 | .l0 _ _ _=>0
abbrev K19 {R:Type} (k:AV→Objs→Option R) (y:(L9)):Option R:=k (.c (.own 500)) [(500,.row 9 ty9 y)]
theorem eq35 {R:Type} (B:Ops) (p0:LB) (p1:Int) (k:AV→Objs→Option R) (n:Nat):afun tau B gl0 X35 gnil ow Tryz.f35 [.c (.str p0),.c (.int .u8 p1)] [] k n=T35 B p0 p1 (fun s=>aloop tau B gl0 X35 gnil ow [] Tryz.f35 k (I35 s) (E35 p0 p1 s) n) (K19 k) none:=by kernel_rfl
theorem el35 {R:Type} (B:Ops) (p0:LB) (p1:Int) (k:AV→Objs→Option R) (n:Nat):∀ s,aloop tau B gl0 X35 gnil ow [] Tryz.f35 k (I35 s) (E35 p0 p1 s) (n+1)=T35 B p0 p1 (fun s=>aloop tau B gl0 X35 gnil ow [] Tryz.f35 k (I35 s) (E35 p0 p1 s) n) (K19 k) (some s):=by
 intro s
 cases s<;>kernel_rfl
theorem nt35 {R R':Type} (B:Ops) (p0:LB) (p1:Int) (again:S35→Option R) (again':S35→Option R') (k0:(L9)→Option R') (k:R'→Option R) (h:∀ s,again s=ob (again' s) k):∀ s,T35 B p0 p1 again (fun y=>ob (k0 y) k) s=ob (T35 B p0 p1 again' k0 s) k:=by
 rintro (_ | x)
 all_goals try cases x
 all_goals (unfold T35;repeat' first | exact rfl | exact h _ | apply qae | (apply qao;intro))
def R35 (p0:LB) (p1:Int):Nat→S35→Option (L9)
 | 0,_=>none
 | n+1,s=>T35 Ops.std p0 p1 (R35 p0 p1 n) some (some s)
theorem rr35 {R:Type} (p0:LB) (p1:Int) (k:AV→Objs→Option R):∀ (n:Nat) (s:S35),aloop tau Ops.std gl0 X35 gnil ow [] Tryz.f35 k (I35 s) (E35 p0 p1 s) n=ob (R35 p0 p1 n s) (K19 k)
 | 0,s=>by cases s<;>rfl
 | n+1,s=>by rw [el35];exact nt35 Ops.std p0 p1 _ _ some (K19 k) (rr35 p0 p1 k n) (some s)
def F35 (p0:LB) (p1:Int):Option (L9):=T35 Ops.std p0 p1 (R35 p0 p1 1000000) some none
def e35 {R:Type} (c:LB→Int→Option (L9)):Ent R:=fun args objs k=>
 oS args fun p0 l0=>oI l0 .u8 fun p1 l1=>oE l1 objs <| ob (c p0 p1) (K19 k)
abbrev Sp35 (c:LB→Int→Option (L9)):Prop:=∀ (p0:LB) (p1:Int) (y:L9),c p0 p1=some y→Spec Tryz.prog gl0 35 [.c (.str p0),.c (.int .u8 p1)] [] (.c (.own 500)) [(500,.row 9 ty9 y)]
theorem ek35 {R:Type} {c:LB→Int→Option (L9)} (hs:Sp35 c):EOk 35 (e35 (R:=R) c):=fun args objs k r h=>by
 unfold e35 at h
 obtain ⟨p0,l0,rfl,q3⟩:=qa9 h
 obtain ⟨p1,l1,rfl,q6⟩:=qas q3
 obtain ⟨rfl,rfl,q8⟩:=qam q6
 exact qan (hs p0 p1) q8
theorem sf35:Sp35 (F35):=fun p0 p1 y hy=>by
 refine qai qah 1000000 (fn:=Tryz.f35) (by kernel_rfl) (by kernel_rfl) (X:=X35) (by kernel_rfl) ?_
 rw [eq35]
 exact (nt35 Ops.std p0 p1 _ _ some (K19 k0) (rr35 p0 p1 k0 1000000) none).trans (by show ob (F35 p0 p1) _=_;rw [hy];rfl)
noncomputable def M35:LB→Int→Option (L9):=F35
theorem sm35:Sp35 M35:=sf35
def X36:Aux:=⟨[(4,([0,1,2]++rg 6 21))],[]⟩
inductive S36 where
 | l0 (v0:Int) (v1:L9) (v2:L9)
abbrev C35:Type:=LB→Int→Option (L9)
def T36 {R:Type} (B:Ops) (c35:C35) (p0:LB) (again:S36→Option R) (k:(L9)→Option R):Option S36→Option R | none=>ob (c35 p0 (32)) fun y0=>again (.l0 0 (mt (Ty.den Ty.str)) y0) | some (.l0 v0 v1 v2)=>cond (B.lt v0 (↑v2.length)) (cond (B.inb v0 v2.length) (cond (!v2.getD v0.toNat ty9.dflt == mt UInt8) (cond (B.inb v0 v2.length) (cond (B.lim (List.length v1+List.length (v2.getD v0.toNat ty9.dflt::mt (Ty.den Ty.str))) (16)) (again (.l0 (IntKind.wrap .i64 (v0+1)) (v1++v2.getD v0.toNat ty9.dflt::mt (Ty.den Ty.str)) v2)) none) none) (again (.l0 (IntKind.wrap .i64 (v0+1)) v1 v2))) none) (k v1)
def E36 (p0:LB):S36→List AV×Objs
 | .l0 v0 v1 v2=>(mk 27 [(3,.c (.own 3)),(4,.c (.own 4)),(5,.c (.int .i64 v0))],[(3,.row 9 ty9 v1),(4,.row 9 ty9 v2)])
def I36:S36→Nat
 | .l0 _ _ _=>0
theorem eq36 {R:Type} (B:Ops) (c35:C35) (p0:LB) (k:AV→Objs→Option R) (n:Nat):afun tau B gl0 X36 (ent 35 (e35 c35) gnil) ow Tryz.f36 [.c (.str p0)] [] k n=T36 B c35 p0 (fun s=>aloop tau B gl0 X36 (ent 35 (e35 c35) gnil) ow [] Tryz.f36 k (I36 s) (E36 p0 s) n) (K19 k) none:=by kernel_rfl
theorem el36 {R:Type} (B:Ops) (c35:C35) (p0:LB) (k:AV→Objs→Option R) (n:Nat):∀ s,aloop tau B gl0 X36 (ent 35 (e35 c35) gnil) ow [] Tryz.f36 k (I36 s) (E36 p0 s) (n+1)=T36 B c35 p0 (fun s=>aloop tau B gl0 X36 (ent 35 (e35 c35) gnil) ow [] Tryz.f36 k (I36 s) (E36 p0 s) n) (K19 k) (some s):=by
 intro s
 cases s<;>kernel_rfl
theorem nt36 {R R':Type} (B:Ops) (c35:C35) (p0:LB) (again:S36→Option R) (again':S36→Option R') (k0:(L9)→Option R') (k:R'→Option R) (h:∀ s,again s=ob (again' s) k):∀ s,T36 B c35 p0 again (fun y=>ob (k0 y) k) s=ob (T36 B c35 p0 again' k0 s) k:=by
 rintro (_ | x)
 all_goals try cases x
 all_goals (unfold T36;repeat' first | exact rfl | exact h _ | apply qae | (apply qao;intro))
def R36 (c35:C35) (p0:LB):Nat→S36→Option (L9)
 | 0,_=>none
 | n+1,s=>T36 Ops.std c35 p0 (R36 c35 p0 n) some (some s)
theorem rr36 {R:Type} (c35:C35) (p0:LB) (k:AV→Objs→Option R):∀ (n:Nat) (s:S36),aloop tau Ops.std gl0 X36 (ent 35 (e35 c35) gnil) ow [] Tryz.f36 k (I36 s) (E36 p0 s) n=ob (R36 c35 p0 n s) (K19 k)
 | 0,s=>by cases s<;>rfl
 | n+1,s=>by rw [el36];exact nt36 Ops.std c35 p0 _ _ some (K19 k) (rr36 c35 p0 k n) (some s)
def F36 (c35:C35) (p0:LB):Option (L9):=T36 Ops.std c35 p0 (R36 c35 p0 1000000) some none
def e36 {R:Type} (c:LB→Option (L9)):Ent R:=fun args objs k=>
 oS args fun p0 l0=>oE l0 objs <| ob (c p0) (K19 k)
abbrev Sp36 (c:LB→Option (L9)):Prop:=∀ (p0:LB) (y:L9),c p0=some y→Spec Tryz.prog gl0 36 [.c (.str p0)] [] (.c (.own 500)) [(500,.row 9 ty9 y)]
theorem ek36 {R:Type} {c:LB→Option (L9)} (hs:Sp36 c):EOk 36 (e36 (R:=R) c):=fun args objs k r h=>by
 unfold e36 at h
 obtain ⟨p0,l0,rfl,q3⟩:=qa9 h
 obtain ⟨rfl,rfl,q5⟩:=qam q3
 exact qan (hs p0) q5
theorem sf36 {c35:C35} (h35:Sp35 c35):Sp36 (F36 c35):=fun p0 y hy=>by
 refine qai (qad (ek35 h35) qah) 1000000 (fn:=Tryz.f36) (by kernel_rfl) (by kernel_rfl) (X:=X36) (by kernel_rfl) ?_
 rw [eq36]
 exact (nt36 Ops.std c35 p0 _ _ some (K19 k0) (rr36 c35 p0 k0 1000000) none).trans (by show ob (F36 c35 p0) _=_;rw [hy];rfl)
noncomputable def M36:LB→Option (L9):=F36 M35
theorem sm36:Sp36 M36:=sf36 sm35
abbrev K20 {R:Type} (k:AV→Objs→Option R) (y:(Int×Bool)):Option R:=k (.tup [(false,[.int .i64 y.1]),(false,[.bool y.2])]) []
def e68 {R:Type} (c:LB→Bool→Option (Int×Bool)):Ent R:=fun args objs k=>
 oS args fun p0 l0=>oCons l0 fun a1 l1=>oC a1 fun x1=>cBool x1 fun p1=>oE l1 objs <| ob (c p0 p1) (K20 k)
abbrev Sp68 (c:LB→Bool→Option (Int×Bool)):Prop:=∀ (p0:LB) (p1:Bool) (y:Int×Bool),c p0 p1=some y→Spec Tryz.prog gl0 68 [.c (.str p0),.c (.bool p1)] [] (.tup [(false,[.int .i64 y.1]),(false,[.bool y.2])]) []
theorem ek68 {R:Type} {c:LB→Bool→Option (Int×Bool)} (hs:Sp68 c):EOk 68 (e68 (R:=R) c):=fun args objs k r h=>by
 unfold e68 at h
 obtain ⟨p0,l0,rfl,q3⟩:=qa9 h
 obtain ⟨a1,l1,rfl,q4⟩:=qak q3
 obtain ⟨x1,rfl,q5⟩:=qa5 q4
 obtain ⟨p1,rfl,q6⟩:=qbv q5
 obtain ⟨rfl,rfl,q8⟩:=qam q6
 exact qan (hs p0 p1) q8
def X68:Aux:=⟨[(6,([1,2,3,4,5,6,7]++rg 10 45))],[]⟩
inductive S68 where
 | l0 (v1:Int) (v2:Int)
abbrev C68:Type:=LB→Bool→Option (Int×Bool)
def T68 {R:Type} (B:Ops) (c68:C68) (c48:C48) (p0:LB) (p1:Bool) (again:S68→Option R) (k:(Int×Bool)→Option R):Option S68→Option R | none=>cond (p1) (cond (B.lt (1) (↑p0.length)) (cond (B.inb (0) p0.length) (cond (B.eq (Nat.cast (UInt8.toNat (p0.getD (Int.toNat (0)) (0)))) (45)) (cond (B.inb (1) (List.length p0+1)) (ob (c68 (List.drop (Int.toNat (1)) (List.take p0.length p0)) false) fun y0=>k ((IntKind.wrap .i64 (0-y0.1),y0.2))) none) (again (.l0 0 0))) none) (again (.l0 0 0))) (again (.l0 0 0)) | some (.l0 v1 v2)=>cond (B.lt v2 (↑p0.length)) (cond (B.inb v2 p0.length) (ob (c48 (Nat.cast (UInt8.toNat (p0.getD v2.toNat (0))))) fun y0=>cond (!y0) (k ((0,false))) (cond (B.inb v2 p0.length) (cond (B.lt (2) v2) (k ((0,false))) (again (.l0 (IntKind.wrap .i64 (IntKind.wrap .i64 (10*v1)+IntKind.wrap .i64 (IntKind.wrap IntKind.u8 (Nat.cast (UInt8.toNat (p0.getD v2.toNat (0)))-48)))) (IntKind.wrap .i64 (v2+1))))) none)) none) (k ((v1,B.lt (0) (↑p0.length))))
def E68 (p0:LB) (p1:Bool):S68→List AV×Objs
 | .l0 v1 v2=>(mk 55 [(0,.c (.str p0)),(8,.c (.int .i64 v1)),(9,.c (.int .i64 v2))],[])
def I68:S68→Nat
 | .l0 _ _=>0
theorem eq68 {R:Type} (B:Ops) (c68:C68) (c48:C48) (p0:LB) (p1:Bool) (k:AV→Objs→Option R) (n:Nat):afun tau B gl0 X68 (ent 68 (e68 c68) (ent 48 (e48 c48) gnil)) ow Tryz.f68 [.c (.str p0),.c (.bool p1)] [] k n=T68 B c68 c48 p0 p1 (fun s=>aloop tau B gl0 X68 (ent 68 (e68 c68) (ent 48 (e48 c48) gnil)) ow [] Tryz.f68 k (I68 s) (E68 p0 p1 s) n) (K20 k) none:=by kernel_rfl
theorem el68 {R:Type} (B:Ops) (c68:C68) (c48:C48) (p0:LB) (p1:Bool) (k:AV→Objs→Option R) (n:Nat):∀ s,aloop tau B gl0 X68 (ent 68 (e68 c68) (ent 48 (e48 c48) gnil)) ow [] Tryz.f68 k (I68 s) (E68 p0 p1 s) (n+1)=T68 B c68 c48 p0 p1 (fun s=>aloop tau B gl0 X68 (ent 68 (e68 c68) (ent 48 (e48 c48) gnil)) ow [] Tryz.f68 k (I68 s) (E68 p0 p1 s) n) (K20 k) (some s):=by
 intro s
 cases s<;>kernel_rfl
theorem nt68 {R R':Type} (B:Ops) (c68:C68) (c48:C48) (p0:LB) (p1:Bool) (again:S68→Option R) (again':S68→Option R') (k0:(Int×Bool)→Option R') (k:R'→Option R) (h:∀ s,again s=ob (again' s) k):∀ s,T68 B c68 c48 p0 p1 again (fun y=>ob (k0 y) k) s=ob (T68 B c68 c48 p0 p1 again' k0 s) k:=by
 rintro (_ | x)
 all_goals try cases x
 all_goals (unfold T68;repeat' first | exact rfl | exact h _ | apply qae | (apply qao;intro))
def R68 (c68:C68) (c48:C48) (p0:LB) (p1:Bool):Nat→S68→Option (Int×Bool)
 | 0,_=>none
 | n+1,s=>T68 Ops.std c68 c48 p0 p1 (R68 c68 c48 p0 p1 n) some (some s)
theorem rr68 {R:Type} (c68:C68) (c48:C48) (p0:LB) (p1:Bool) (k:AV→Objs→Option R):∀ (n:Nat) (s:S68),aloop tau Ops.std gl0 X68 (ent 68 (e68 c68) (ent 48 (e48 c48) gnil)) ow [] Tryz.f68 k (I68 s) (E68 p0 p1 s) n=ob (R68 c68 c48 p0 p1 n s) (K20 k)
 | 0,s=>by cases s<;>rfl
 | n+1,s=>by rw [el68];exact nt68 Ops.std c68 c48 p0 p1 _ _ some (K20 k) (rr68 c68 c48 p0 p1 k n) (some s)
def F68 (c68:C68) (c48:C48) (p0:LB) (p1:Bool):Option (Int×Bool):=T68 Ops.std c68 c48 p0 p1 (R68 c68 c48 p0 p1 1000000) some none
theorem sf68 {c68:C68} {c48:C48} (h68:Sp68 c68) (h48:Sp48 c48):Sp68 (F68 c68 c48):=fun p0 p1 y hy=>by
 refine qai (qad (ek68 h68) (qad (ek48 h48) qah)) 1000000 (fn:=Tryz.f68) (by kernel_rfl) (by kernel_rfl) (X:=X68) (by kernel_rfl) ?_
 rw [eq68]
 exact (nt68 Ops.std c68 c48 p0 p1 _ _ some (K20 k0) (rr68 c68 c48 p0 p1 k0 1000000) none).trans (by show ob (F68 c68 c48 p0 p1) _=_;rw [hy];rfl)
noncomputable def Rec68:Nat→(LB→Bool→Option (Int×Bool))
 | 0=>fun _ _=>none
 | d+1=>F68 (Rec68 d) M48
theorem rec68:∀ d,Sp68 (Rec68 d)
 | 0=>fun p0 p1 y (h:(none:Option (Int×Bool))=some y)=>by cases h
 | d+1=>sf68 (rec68 d) sm48
noncomputable def M68:LB→Bool→Option (Int×Bool):=(Rec68 1000000)
theorem sm68:Sp68 M68:=(rec68 1000000)
def X37:Aux:=⟨[],[]⟩
def T37 {R:Type} (B:Ops) (c68:C68) (p0:L9) (k:(LB×Int×Int×Int×Bool)→Option R):Option R:=cond (!B.eq (↑p0.length) (4)) (k ((mt UInt8,0,0,0,false))) (cond (B.inb (1) p0.length) (ob (c68 (p0.getD (Int.toNat (1)) ty9.dflt) true) fun y0=>cond (B.inb (2) p0.length) (ob (c68 (p0.getD (Int.toNat (2)) ty9.dflt) true) fun y1=>cond (B.inb (3) p0.length) (ob (c68 (p0.getD (Int.toNat (3)) ty9.dflt) true) fun y2=>cond (B.inb (0) p0.length) (cond y0.2 (cond y1.2 (k ((p0.getD (Int.toNat (0)) ty9.dflt,y0.1,y1.1,y2.1,y2.2))) (k ((p0.getD (Int.toNat (0)) ty9.dflt,y0.1,y1.1,y2.1,false)))) (k ((p0.getD (Int.toNat (0)) ty9.dflt,y0.1,y1.1,y2.1,false)))) none) none) none) none)
abbrev K21 {R:Type} (k:AV→Objs→Option R) (y:(LB×Int×Int×Int×Bool)):Option R:=k (.tup [(true,[.str y.1,.int .i64 y.2.1,.int .i64 y.2.2.1,.int .i64 y.2.2.2.1]),(false,[.bool y.2.2.2.2])]) []
theorem eq37 {R:Type} (B:Ops) (c68:C68) (p0:L9) (k:AV→Objs→Option R) (n:Nat):afun tau B gl0 X37 (ent 68 (e68 c68) gnil) ow Tryz.f37 [.c (.list 9 ty9 p0)] [] k n=T37 B c68 p0 (K21 k):=by kernel_rfl
theorem nt37 {R R':Type} (B:Ops) (c68:C68) (p0:L9) (k0:(LB×Int×Int×Int×Bool)→Option R') (k:R'→Option R):T37 B c68 p0 (fun y=>ob (k0 y) k)=ob (T37 B c68 p0 k0) k:=by
 unfold T37
 repeat' first | exact rfl | apply qae | (apply qao;intro)
def F37 (c68:C68) (p0:L9):Option (LB×Int×Int×Int×Bool):=T37 Ops.std c68 p0 some
def e37 {R:Type} (c:L9→Option (LB×Int×Int×Int×Bool)):Ent R:=fun args objs k=>
 oL args 9 ty9 fun p0 l0=>oE l0 objs <| ob (c p0) (K21 k)
abbrev Sp37 (c:L9→Option (LB×Int×Int×Int×Bool)):Prop:=∀ (p0:L9) (y:LB×Int×Int×Int×Bool),c p0=some y→Spec Tryz.prog gl0 37 [.c (.list 9 ty9 p0)] [] (.tup [(true,[.str y.1,.int .i64 y.2.1,.int .i64 y.2.2.1,.int .i64 y.2.2.2.1]),(false,[.bool y.2.2.2.2])]) []
theorem ek37 {R:Type} {c:L9→Option (LB×Int×Int×Int×Bool)} (hs:Sp37 c):EOk 37 (e37 (R:=R) c):=fun args objs k r h=>by
 unfold e37 at h
 obtain ⟨p0,l0,rfl,q3⟩:=qa1 h
 obtain ⟨rfl,rfl,q5⟩:=qam q3
 exact qan (hs p0) q5
theorem sf37 {c68:C68} (h68:Sp68 c68):Sp37 (F37 c68):=fun p0 y hy=>by
 refine qai (qad (ek68 h68) qah) 1000000 (fn:=Tryz.f37) (by kernel_rfl) (by kernel_rfl) (X:=X37) (by kernel_rfl) ?_
 rw [eq37]
 exact (nt37 Ops.std c68 p0 some (K21 k0)).trans (by show ob (F37 c68 p0) _=_;rw [hy];rfl)
noncomputable def M37:L9→Option (LB×Int×Int×Int×Bool):=F37 M68
theorem sm37:Sp37 M37:=sf37 sm68
def X39:Aux:=⟨[(1,(rg 2 28)),(3,(rg 2 28)),(5,(rg 2 28))],[]⟩
inductive S39 where
 | l0 (v0:LB) (v1:Int)
 | l1 (v0:LB) (v1:Int)
 | l2 (v0:LB) (v1:Int)
def T39 {R:Type} (B:Ops) (p0:LB) (p1:Int) (again:S39→Option R) (k:(LB)→Option R):Option S39→Option R | none=>again (.l0 p0 p1) | some (.l0 v0 v1)=>cond (B.lt (0) v1) (again (.l1 v0 v1)) (k v0) | some (.l1 v0 v1)=>cond (B.lt (0) (↑v0.length)) (cond (B.inb (0) v0.length) (cond (B.eq (Nat.cast (UInt8.toNat (v0.getD (Int.toNat (0)) (0)))) (32)) (cond (B.inb (1) (List.length v0+1)) (again (.l1 (List.drop (Int.toNat (1)) (List.take v0.length v0)) v1)) none) (again (.l2 v0 v1))) none) (again (.l2 v0 v1)) | some (.l2 v0 v1)=>cond (B.lt (0) (↑v0.length)) (cond (B.inb (0) v0.length) (cond (!B.eq (Nat.cast (UInt8.toNat (v0.getD (Int.toNat (0)) (0)))) (32)) (cond (B.inb (1) (List.length v0+1)) (again (.l2 (List.drop (Int.toNat (1)) (List.take v0.length v0)) v1)) none) (again (.l0 v0 (IntKind.wrap .i64 (v1-1))))) none) (again (.l0 v0 (IntKind.wrap .i64 (v1-1))))
def E39 (p0:LB) (p1:Int):S39→List AV×Objs
 | .l0 v0 v1=>(mk 30 [(0,.c (.str v0)),(1,.c (.int .i64 v1))],[])
 | .l1 v0 v1=>(mk 30 [(0,.c (.str v0)),(1,.c (.int .i64 v1))],[])
 | .l2 v0 v1=>(mk 30 [(0,.c (.str v0)),(1,.c (.int .i64 v1))],[])
def I39:S39→Nat
 | .l0 _ _=>0
 | .l1 _ _=>1
 | .l2 _ _=>2
theorem eq39 {R:Type} (B:Ops) (p0:LB) (p1:Int) (k:AV→Objs→Option R) (n:Nat):afun tau B gl0 X39 gnil ow Tryz.f39 [.c (.str p0),.c (.int .i64 p1)] [] k n=T39 B p0 p1 (fun s=>aloop tau B gl0 X39 gnil ow [] Tryz.f39 k (I39 s) (E39 p0 p1 s) n) (K2 k) none:=by kernel_rfl
theorem el39 {R:Type} (B:Ops) (p0:LB) (p1:Int) (k:AV→Objs→Option R) (n:Nat):∀ s,aloop tau B gl0 X39 gnil ow [] Tryz.f39 k (I39 s) (E39 p0 p1 s) (n+1)=T39 B p0 p1 (fun s=>aloop tau B gl0 X39 gnil ow [] Tryz.f39 k (I39 s) (E39 p0 p1 s) n) (K2 k) (some s):=by
 intro s
 cases s<;>kernel_rfl
theorem nt39 {R R':Type} (B:Ops) (p0:LB) (p1:Int) (again:S39→Option R) (again':S39→Option R') (k0:(LB)→Option R') (k:R'→Option R) (h:∀ s,again s=ob (again' s) k):∀ s,T39 B p0 p1 again (fun y=>ob (k0 y) k) s=ob (T39 B p0 p1 again' k0 s) k:=by
 rintro (_ | x)
 all_goals try cases x
 all_goals (unfold T39;repeat' first | exact rfl | exact h _ | apply qae | (apply qao;intro))
def R39 (p0:LB) (p1:Int):Nat→S39→Option (LB)
 | 0,_=>none
 | n+1,s=>T39 Ops.std p0 p1 (R39 p0 p1 n) some (some s)
theorem rr39 {R:Type} (p0:LB) (p1:Int) (k:AV→Objs→Option R):∀ (n:Nat) (s:S39),aloop tau Ops.std gl0 X39 gnil ow [] Tryz.f39 k (I39 s) (E39 p0 p1 s) n=ob (R39 p0 p1 n s) (K2 k)
 | 0,s=>by cases s<;>rfl
 | n+1,s=>by rw [el39];exact nt39 Ops.std p0 p1 _ _ some (K2 k) (rr39 p0 p1 k n) (some s)
def F39 (p0:LB) (p1:Int):Option (LB):=T39 Ops.std p0 p1 (R39 p0 p1 1000000) some none
def e39 {R:Type} (c:LB→Int→Option (LB)):Ent R:=fun args objs k=>
 oS args fun p0 l0=>oI l0 .i64 fun p1 l1=>oE l1 objs <| ob (c p0 p1) (K2 k)
abbrev Sp39 (c:LB→Int→Option (LB)):Prop:=∀ (p0:LB) (p1:Int) (y:LB),c p0 p1=some y→Spec Tryz.prog gl0 39 [.c (.str p0),.c (.int .i64 p1)] [] (.c (.str y)) []
theorem ek39 {R:Type} {c:LB→Int→Option (LB)} (hs:Sp39 c):EOk 39 (e39 (R:=R) c):=fun args objs k r h=>by
 unfold e39 at h
 obtain ⟨p0,l0,rfl,q3⟩:=qa9 h
 obtain ⟨p1,l1,rfl,q6⟩:=qas q3
 obtain ⟨rfl,rfl,q8⟩:=qam q6
 exact qan (hs p0 p1) q8
theorem sf39:Sp39 (F39):=fun p0 p1 y hy=>by
 refine qai qah 1000000 (fn:=Tryz.f39) (by kernel_rfl) (by kernel_rfl) (X:=X39) (by kernel_rfl) ?_
 rw [eq39]
 exact (nt39 Ops.std p0 p1 _ _ some (K2 k0) (rr39 p0 p1 k0 1000000) none).trans (by show ob (F39 p0 p1) _=_;rw [hy];rfl)
noncomputable def M39:LB→Int→Option (LB):=F39
theorem sm39:Sp39 M39:=sf39
def X50:Aux:=⟨[],[]⟩
def T50 {R:Type} (B:Ops) (c20:C20) (p0:LB) (k:(LB×Bool)→Option R):Option R:=cond (p0 == mt UInt8) (k ((mt UInt8,true))) (cond (B.inb (IntKind.wrap .i64 (Nat.cast p0.length-1)) (List.length p0+1)) (cond (B.inb (IntKind.wrap .i64 (Nat.cast p0.length-1)) (List.length p0+1)) (ob (c20 (List.drop (0) (List.take (Int.toNat (IntKind.wrap .i64 (Nat.cast p0.length-1))) p0))) fun y0=>cond (y0) (cond (List.drop (Int.toNat (IntKind.wrap .i64 (Nat.cast p0.length-1))) (List.take p0.length p0) == ([33]:LB)) (k ((List.drop (0) (List.take (Int.toNat (IntKind.wrap .i64 (Nat.cast p0.length-1))) p0),true))) (k ((List.drop (0) (List.take (Int.toNat (IntKind.wrap .i64 (Nat.cast p0.length-1))) p0),List.drop (Int.toNat (IntKind.wrap .i64 (Nat.cast p0.length-1))) (List.take p0.length p0) == ([63]:LB))))) (k ((List.drop (0) (List.take (Int.toNat (IntKind.wrap .i64 (Nat.cast p0.length-1))) p0),false)))) none) none)
abbrev K22 {R:Type} (k:AV→Objs→Option R) (y:(LB×Bool)):Option R:=k (.tup [(false,[.str y.1]),(false,[.bool y.2])]) []
theorem eq50 {R:Type} (B:Ops) (c20:C20) (p0:LB) (k:AV→Objs→Option R) (n:Nat):afun tau B gl0 X50 (ent 20 (e20 c20) gnil) ow Tryz.f50 [.c (.str p0)] [] k n=T50 B c20 p0 (K22 k):=by kernel_rfl
theorem nt50 {R R':Type} (B:Ops) (c20:C20) (p0:LB) (k0:(LB×Bool)→Option R') (k:R'→Option R):T50 B c20 p0 (fun y=>ob (k0 y) k)=ob (T50 B c20 p0 k0) k:=by
 unfold T50
 repeat' first | exact rfl | apply qae | (apply qao;intro)
def F50 (c20:C20) (p0:LB):Option (LB×Bool):=T50 Ops.std c20 p0 some
def e50 {R:Type} (c:LB→Option (LB×Bool)):Ent R:=fun args objs k=>
 oS args fun p0 l0=>oE l0 objs <| ob (c p0) (K22 k)
abbrev Sp50 (c:LB→Option (LB×Bool)):Prop:=∀ (p0:LB) (y:LB×Bool),c p0=some y→Spec Tryz.prog gl0 50 [.c (.str p0)] [] (.tup [(false,[.str y.1]),(false,[.bool y.2])]) []
theorem ek50 {R:Type} {c:LB→Option (LB×Bool)} (hs:Sp50 c):EOk 50 (e50 (R:=R) c):=fun args objs k r h=>by
 unfold e50 at h
 obtain ⟨p0,l0,rfl,q3⟩:=qa9 h
 obtain ⟨rfl,rfl,q5⟩:=qam q3
 exact qan (hs p0) q5
theorem sf50 {c20:C20} (h20:Sp20 c20):Sp50 (F50 c20):=fun p0 y hy=>by
 refine qai (qad (ek20 h20) qah) 1000000 (fn:=Tryz.f50) (by kernel_rfl) (by kernel_rfl) (X:=X50) (by kernel_rfl) ?_
 rw [eq50]
 exact (nt50 Ops.std c20 p0 some (K22 k0)).trans (by show ob (F50 c20 p0) _=_;rw [hy];rfl)
noncomputable def M50:LB→Option (LB×Bool):=F50 M20
theorem sm50:Sp50 M50:=sf50 sm20
def X69:Aux:=⟨[],[(6,.lin [0,1,2,3,4,5,6,7,8]),(8,.lin [0,1,2,3,4,5,6,7])]⟩
def T69 {R:Type} (B:Ops) (c43:C43) (c87:C87) (p0:LB) (k:(Int×Int×L118)→Option R):Option R:=ob (c43 p0) fun y0=>cond (!B.eq y0.1 (0)) (k ((y0.1,y0.2.1,mt (Ty.den ty118)))) (ob (c87 y0.2.2 (0)) fun y1=>cond (!B.eq y1.2.1 (0)) (cond (B.inb y1.1 (List.length y0.2.2)) (k ((y1.2.1,(((List.getD y0.2.2 (Int.toNat y1.1) ty106.dflt).2).2).2,mt (Ty.den ty118)))) none) (cond (B.inb y1.1 (List.length y0.2.2)) (cond (!B.eq ((List.getD y0.2.2 (Int.toNat y1.1) ty106.dflt).1) (5)) (cond (B.inb y1.1 (List.length y0.2.2)) (k ((2,(((List.getD y0.2.2 (Int.toNat y1.1) ty106.dflt).2).2).2,mt (Ty.den ty118)))) none) (k ((0,0,y1.2.2)))) none))
theorem eq69 {R:Type} (B:Ops) (c43:C43) (c87:C87) (p0:LB) (k:AV→Objs→Option R) (n:Nat):afun tau B gl0 X69 (ent 43 (e43 c43) (ent 87 (e87 c87) gnil)) ow Tryz.f69 [.c (.str p0)] [] k n=T69 B c43 c87 p0 (K9 k):=by kernel_rfl
theorem nt69 {R R':Type} (B:Ops) (c43:C43) (c87:C87) (p0:LB) (k0:(Int×Int×L118)→Option R') (k:R'→Option R):T69 B c43 c87 p0 (fun y=>ob (k0 y) k)=ob (T69 B c43 c87 p0 k0) k:=by
 unfold T69
 repeat' first | exact rfl | apply qae | (apply qao;intro)
def F69 (c43:C43) (c87:C87) (p0:LB):Option (Int×Int×L118):=T69 Ops.std c43 c87 p0 some
def e69 {R:Type} (c:LB→Option (Int×Int×L118)):Ent R:=fun args objs k=>
 oS args fun p0 l0=>oE l0 objs <| ob (c p0) (K9 k)
abbrev Sp69 (c:LB→Option (Int×Int×L118)):Prop:=∀ (p0:LB) (y:Int×Int×L118),c p0=some y→Spec Tryz.prog gl0 69 [.c (.str p0)] [] (.tup [(false,[.own 501000]),(false,[.int .i64 y.1]),(false,[.int .i64 y.2.1])]) [(501000,.row 118 ty118 y.2.2)]
theorem ek69 {R:Type} {c:LB→Option (Int×Int×L118)} (hs:Sp69 c):EOk 69 (e69 (R:=R) c):=fun args objs k r h=>by
 unfold e69 at h
 obtain ⟨p0,l0,rfl,q3⟩:=qa9 h
 obtain ⟨rfl,rfl,q5⟩:=qam q3
 exact qan (hs p0) q5
theorem sf69 {c43:C43} {c87:C87} (h43:Sp43 c43) (h87:Sp87 c87):Sp69 (F69 c43 c87):=fun p0 y hy=>by
 refine qai (qad (ek43 h43) (qad (ek87 h87) qah)) 1000000 (fn:=Tryz.f69) (by kernel_rfl) (by kernel_rfl) (X:=X69) (by kernel_rfl) ?_
 rw [eq69]
 exact (nt69 Ops.std c43 c87 p0 some (K9 k0)).trans (by show ob (F69 c43 c87 p0) _=_;rw [hy];rfl)
noncomputable def M69:LB→Option (Int×Int×L118):=F69 M43 M87
theorem sm69:Sp69 M69:=sf69 sm43 sm87
def X70:Aux:=⟨[(3,([1,2,3]++rg 6 74))],[]⟩
inductive S70 where
 | l0 (v1:Int) (v2:L116)
def T70 {R:Type} (B:Ops) (c43:C43) (c87:C87) (p0:L9) (again:S70→Option R) (k:(Bool×L116)→Option R):Option S70→Option R | none=>again (.l0 0 (mt (Ty.den ty116))) | some (.l0 v1 v2)=>cond (B.lt v1 (↑p0.length)) (cond (B.inb v1 p0.length) (ob (c43 (p0.getD v1.toNat ty9.dflt)) fun y0=>cond (!B.eq y0.1 (0)) (k ((false,mt (Ty.den ty116)))) (cond (B.lt (Nat.cast (List.length y0.2.2)) (3)) (k ((false,mt (Ty.den ty116)))) (cond (B.inb (0) (List.length y0.2.2)) (cond (!B.eq ((List.getD y0.2.2 (Int.toNat (0)) ty106.dflt).1) (2)) (k ((false,mt (Ty.den ty116)))) (cond (B.inb (1) (List.length y0.2.2)) (cond (!B.eq ((List.getD y0.2.2 (Int.toNat (1)) ty106.dflt).1) (4)) (k ((false,mt (Ty.den ty116)))) (cond (B.inb (1) (List.length y0.2.2)) (cond (!((List.getD y0.2.2 (Int.toNat (1)) ty106.dflt).2).1 == ([61]:LB)) (k ((false,mt (Ty.den ty116)))) (ob (c87 y0.2.2 (2)) fun y1=>cond (!B.eq y1.2.1 (0)) (k ((false,mt (Ty.den ty116)))) (cond (B.inb y1.1 (List.length y0.2.2)) (cond (!B.eq ((List.getD y0.2.2 (Int.toNat y1.1) ty106.dflt).1) (5)) (k ((false,mt (Ty.den ty116)))) (cond (B.inb (0) (List.length y0.2.2)) (cond (B.lim (List.length v2+List.length ((((List.getD y0.2.2 (Int.toNat (0)) ty106.dflt).2).1,y1.2.2)::mt (Ty.den ty116))) (40)) (again (.l0 (IntKind.wrap .i64 (v1+1)) (v2++(((List.getD y0.2.2 (Int.toNat (0)) ty106.dflt).2).1,y1.2.2)::mt (Ty.den ty116)))) none) none)) none))) none)) none)) none))) none) (k ((true,v2)))
def E70 (p0:L9):S70→List AV×Objs
 | .l0 v1 v2=>(mk 80 [(0,.c (.list 9 ty9 p0)),(4,.c (.own 4)),(5,.c (.int .i64 v1))],[(4,.row 116 ty116 v2)])
def I70:S70→Nat
 | .l0 _ _=>0
abbrev K23 {R:Type} (k:AV→Objs→Option R) (y:(Bool×L116)):Option R:=k (.tup [(false,[.own 501000]),(false,[.bool y.1])]) [(501000,.row 116 ty116 y.2)]
theorem eq70 {R:Type} (B:Ops) (c43:C43) (c87:C87) (p0:L9) (k:AV→Objs→Option R) (n:Nat):afun tau B gl0 X70 (ent 43 (e43 c43) (ent 87 (e87 c87) gnil)) ow Tryz.f70 [.c (.list 9 ty9 p0)] [] k n=T70 B c43 c87 p0 (fun s=>aloop tau B gl0 X70 (ent 43 (e43 c43) (ent 87 (e87 c87) gnil)) ow [] Tryz.f70 k (I70 s) (E70 p0 s) n) (K23 k) none:=by kernel_rfl
theorem el70 {R:Type} (B:Ops) (c43:C43) (c87:C87) (p0:L9) (k:AV→Objs→Option R) (n:Nat):∀ s,aloop tau B gl0 X70 (ent 43 (e43 c43) (ent 87 (e87 c87) gnil)) ow [] Tryz.f70 k (I70 s) (E70 p0 s) (n+1)=T70 B c43 c87 p0 (fun s=>aloop tau B gl0 X70 (ent 43 (e43 c43) (ent 87 (e87 c87) gnil)) ow [] Tryz.f70 k (I70 s) (E70 p0 s) n) (K23 k) (some s):=by
 intro s
 cases s<;>kernel_rfl
theorem nt70 {R R':Type} (B:Ops) (c43:C43) (c87:C87) (p0:L9) (again:S70→Option R) (again':S70→Option R') (k0:(Bool×L116)→Option R') (k:R'→Option R) (h:∀ s,again s=ob (again' s) k):∀ s,T70 B c43 c87 p0 again (fun y=>ob (k0 y) k) s=ob (T70 B c43 c87 p0 again' k0 s) k:=by
 rintro (_ | x)
 all_goals try cases x
 all_goals (unfold T70;repeat' first | exact rfl | exact h _ | apply qae | (apply qao;intro))
def R70 (c43:C43) (c87:C87) (p0:L9):Nat→S70→Option (Bool×L116)
 | 0,_=>none
 | n+1,s=>T70 Ops.std c43 c87 p0 (R70 c43 c87 p0 n) some (some s)
theorem rr70 {R:Type} (c43:C43) (c87:C87) (p0:L9) (k:AV→Objs→Option R):∀ (n:Nat) (s:S70),aloop tau Ops.std gl0 X70 (ent 43 (e43 c43) (ent 87 (e87 c87) gnil)) ow [] Tryz.f70 k (I70 s) (E70 p0 s) n=ob (R70 c43 c87 p0 n s) (K23 k)
 | 0,s=>by cases s<;>rfl
 | n+1,s=>by rw [el70];exact nt70 Ops.std c43 c87 p0 _ _ some (K23 k) (rr70 c43 c87 p0 k n) (some s)
def F70 (c43:C43) (c87:C87) (p0:L9):Option (Bool×L116):=T70 Ops.std c43 c87 p0 (R70 c43 c87 p0 1000000) some none
def e70 {R:Type} (c:L9→Option (Bool×L116)):Ent R:=fun args objs k=>
 oL args 9 ty9 fun p0 l0=>oE l0 objs <| ob (c p0) (K23 k)
abbrev Sp70 (c:L9→Option (Bool×L116)):Prop:=∀ (p0:L9) (y:Bool×L116),c p0=some y→Spec Tryz.prog gl0 70 [.c (.list 9 ty9 p0)] [] (.tup [(false,[.own 501000]),(false,[.bool y.1])]) [(501000,.row 116 ty116 y.2)]
theorem ek70 {R:Type} {c:L9→Option (Bool×L116)} (hs:Sp70 c):EOk 70 (e70 (R:=R) c):=fun args objs k r h=>by
 unfold e70 at h
 obtain ⟨p0,l0,rfl,q3⟩:=qa1 h
 obtain ⟨rfl,rfl,q5⟩:=qam q3
 exact qan (hs p0) q5
theorem sf70 {c43:C43} {c87:C87} (h43:Sp43 c43) (h87:Sp87 c87):Sp70 (F70 c43 c87):=fun p0 y hy=>by
 refine qai (qad (ek43 h43) (qad (ek87 h87) qah)) 1000000 (fn:=Tryz.f70) (by kernel_rfl) (by kernel_rfl) (X:=X70) (by kernel_rfl) ?_
 rw [eq70]
 exact (nt70 Ops.std c43 c87 p0 _ _ some (K23 k0) (rr70 c43 c87 p0 k0 1000000) none).trans (by show ob (F70 c43 c87 p0) _=_;rw [hy];rfl)
noncomputable def M70:L9→Option (Bool×L116):=F70 M43 M87
theorem sm70:Sp70 M70:=sf70 sm43 sm87
def X51:Aux:=⟨[],[]⟩
def T51 {R:Type} (B:Ops) (p0:Int) (k:(Bool)→Option R):Option R:=cond (B.le (1) p0) (k (B.le p0 (999))) (k false)
theorem eq51 {R:Type} (B:Ops) (p0:Int) (k:AV→Objs→Option R) (n:Nat):afun tau B gl0 X51 gnil ow Tryz.f51 [.c (.int .i64 p0)] [] k n=T51 B p0 (K1 k):=by kernel_rfl
theorem nt51 {R R':Type} (B:Ops) (p0:Int) (k0:(Bool)→Option R') (k:R'→Option R):T51 B p0 (fun y=>ob (k0 y) k)=ob (T51 B p0 k0) k:=by
 unfold T51
 repeat' first | exact rfl | apply qae | (apply qao;intro)
def F51 (p0:Int):Option (Bool):=T51 Ops.std p0 some
def e51 {R:Type} (c:Int→Option (Bool)):Ent R:=fun args objs k=>
 oI args .i64 fun p0 l0=>oE l0 objs <| ob (c p0) (K1 k)
abbrev Sp51 (c:Int→Option (Bool)):Prop:=∀ (p0:Int) (y:Bool),c p0=some y→Spec Tryz.prog gl0 51 [.c (.int .i64 p0)] [] (.c (.bool y)) []
theorem ek51 {R:Type} {c:Int→Option (Bool)} (hs:Sp51 c):EOk 51 (e51 (R:=R) c):=fun args objs k r h=>by
 unfold e51 at h
 obtain ⟨p0,l0,rfl,q3⟩:=qas h
 obtain ⟨rfl,rfl,q5⟩:=qam q3
 exact qan (hs p0) q5
theorem sf51:Sp51 (F51):=fun p0 y hy=>by
 refine qai qah 1000000 (fn:=Tryz.f51) (by kernel_rfl) (by kernel_rfl) (X:=X51) (by kernel_rfl) ?_
 rw [eq51]
 exact (nt51 Ops.std p0 some (K1 k0)).trans (by show ob (F51 p0) _=_;rw [hy];rfl)
noncomputable def M51:Int→Option (Bool):=F51
theorem sm51:Sp51 M51:=sf51
def X88:Aux:=⟨[(2,([1,2]++rg 4 25))],[]⟩
inductive S88 where
 | l0 (v1:Int)
def T88 {R:Type} (B:Ops) (c20:C20) (c54:C54) (p0:L116) (again:S88→Option R) (k:(Bool)→Option R):Option S88→Option R | none=>again (.l0 0) | some (.l0 v1)=>cond (B.lt v1 (↑p0.length)) (cond (B.inb v1 p0.length) (ob (c20 ((p0.getD v1.toNat ty116.dflt).1)) fun y0=>cond (!y0) (k false) (cond (B.inb v1 p0.length) (ob (c54 ((p0.getD v1.toNat ty116.dflt).2)) fun y1=>cond (!y1) (k false) (again (.l0 (IntKind.wrap .i64 (v1+1))))) none)) none) (k (B.le (↑p0.length) (3)))
def E88 (p0:L116):S88→List AV×Objs
 | .l0 v1=>(mk 29 [(0,.c (.list 116 ty116 p0)),(3,.c (.int .i64 v1))],[])
def I88:S88→Nat
 | .l0 _=>0
theorem eq88 {R:Type} (B:Ops) (c20:C20) (c54:C54) (p0:L116) (k:AV→Objs→Option R) (n:Nat):afun tau B gl0 X88 (ent 20 (e20 c20) (ent 54 (e54 c54) gnil)) ow Tryz.f88 [.c (.list 116 ty116 p0)] [] k n=T88 B c20 c54 p0 (fun s=>aloop tau B gl0 X88 (ent 20 (e20 c20) (ent 54 (e54 c54) gnil)) ow [] Tryz.f88 k (I88 s) (E88 p0 s) n) (K1 k) none:=by kernel_rfl
theorem el88 {R:Type} (B:Ops) (c20:C20) (c54:C54) (p0:L116) (k:AV→Objs→Option R) (n:Nat):∀ s,aloop tau B gl0 X88 (ent 20 (e20 c20) (ent 54 (e54 c54) gnil)) ow [] Tryz.f88 k (I88 s) (E88 p0 s) (n+1)=T88 B c20 c54 p0 (fun s=>aloop tau B gl0 X88 (ent 20 (e20 c20) (ent 54 (e54 c54) gnil)) ow [] Tryz.f88 k (I88 s) (E88 p0 s) n) (K1 k) (some s):=by
 intro s
 cases s<;>kernel_rfl
theorem nt88 {R R':Type} (B:Ops) (c20:C20) (c54:C54) (p0:L116) (again:S88→Option R) (again':S88→Option R') (k0:(Bool)→Option R') (k:R'→Option R) (h:∀ s,again s=ob (again' s) k):∀ s,T88 B c20 c54 p0 again (fun y=>ob (k0 y) k) s=ob (T88 B c20 c54 p0 again' k0 s) k:=by
 rintro (_ | x)
 all_goals try cases x
 all_goals (unfold T88;repeat' first | exact rfl | exact h _ | apply qae | (apply qao;intro))
def R88 (c20:C20) (c54:C54) (p0:L116):Nat→S88→Option (Bool)
 | 0,_=>none
 | n+1,s=>T88 Ops.std c20 c54 p0 (R88 c20 c54 p0 n) some (some s)
theorem rr88 {R:Type} (c20:C20) (c54:C54) (p0:L116) (k:AV→Objs→Option R):∀ (n:Nat) (s:S88),aloop tau Ops.std gl0 X88 (ent 20 (e20 c20) (ent 54 (e54 c54) gnil)) ow [] Tryz.f88 k (I88 s) (E88 p0 s) n=ob (R88 c20 c54 p0 n s) (K1 k)
 | 0,s=>by cases s<;>rfl
 | n+1,s=>by rw [el88];exact nt88 Ops.std c20 c54 p0 _ _ some (K1 k) (rr88 c20 c54 p0 k n) (some s)
def F88 (c20:C20) (c54:C54) (p0:L116):Option (Bool):=T88 Ops.std c20 c54 p0 (R88 c20 c54 p0 1000000) some none
def e88 {R:Type} (c:L116→Option (Bool)):Ent R:=fun args objs k=>
 oL args 116 ty116 fun p0 l0=>oE l0 objs <| ob (c p0) (K1 k)
abbrev Sp88 (c:L116→Option (Bool)):Prop:=∀ (p0:L116) (y:Bool),c p0=some y→Spec Tryz.prog gl0 88 [.c (.list 116 ty116 p0)] [] (.c (.bool y)) []
theorem ek88 {R:Type} {c:L116→Option (Bool)} (hs:Sp88 c):EOk 88 (e88 (R:=R) c):=fun args objs k r h=>by
 unfold e88 at h
 obtain ⟨p0,l0,rfl,q3⟩:=qa1 h
 obtain ⟨rfl,rfl,q5⟩:=qam q3
 exact qan (hs p0) q5
theorem sf88 {c20:C20} {c54:C54} (h20:Sp20 c20) (h54:Sp54 c54):Sp88 (F88 c20 c54):=fun p0 y hy=>by
 refine qai (qad (ek20 h20) (qad (ek54 h54) qah)) 1000000 (fn:=Tryz.f88) (by kernel_rfl) (by kernel_rfl) (X:=X88) (by kernel_rfl) ?_
 rw [eq88]
 exact (nt88 Ops.std c20 c54 p0 _ _ some (K1 k0) (rr88 c20 c54 p0 k0 1000000) none).trans (by show ob (F88 c20 c54 p0) _=_;rw [hy];rfl)
noncomputable def M88:L116→Option (Bool):=F88 M20 M54
theorem sm88:Sp88 M88:=sf88 sm20 sm54
def X89:Aux:=⟨[(3,([1,2]++rg 5 23))],[(5,.lin (rg 0 17))]⟩
inductive S89 where
 | l0 (v1:LB) (v2:Int)
def T89 {R:Type} (B:Ops) (c63:C63) (p0:L116) (again:S89→Option R) (k:(LB)→Option R):Option S89→Option R | none=>again (.l0 (mt UInt8) 0) | some (.l0 v1 v2)=>cond (B.lt v2 (↑p0.length)) (cond (B.lim (List.length v1+3) (1)) (cond (B.inb v2 p0.length) (cond (B.lim (List.length (v1++([32,59,32]:LB))+List.length ((p0.getD v2.toNat ty116.dflt).1)) (1)) (cond (B.lim (List.length (v1++([32,59,32]:LB)++(p0.getD v2.toNat ty116.dflt).1)+3) (1)) (cond (B.inb v2 p0.length) (ob (c63 ((p0.getD v2.toNat ty116.dflt).2)) fun y0=>cond (B.lim (List.length (v1++([32,59,32]:LB)++(p0.getD v2.toNat ty116.dflt).1++([32,61,32]:LB))+List.length y0) (1)) (again (.l0 (v1++([32,59,32]:LB)++(p0.getD v2.toNat ty116.dflt).1++([32,61,32]:LB)++y0) (IntKind.wrap .i64 (v2+1)))) none) none) none) none) none) none) (k v1)
def E89 (p0:L116):S89→List AV×Objs
 | .l0 v1 v2=>(mk 28 [(0,.c (.list 116 ty116 p0)),(3,.c (.str v1)),(4,.c (.int .i64 v2))],[])
def I89:S89→Nat
 | .l0 _ _=>0
theorem eq89 {R:Type} (B:Ops) (c63:C63) (p0:L116) (k:AV→Objs→Option R) (n:Nat):afun tau B gl0 X89 (ent 63 (e63 c63) gnil) ow Tryz.f89 [.c (.list 116 ty116 p0)] [] k n=T89 B c63 p0 (fun s=>aloop tau B gl0 X89 (ent 63 (e63 c63) gnil) ow [] Tryz.f89 k (I89 s) (E89 p0 s) n) (K2 k) none:=by kernel_rfl
theorem el89 {R:Type} (B:Ops) (c63:C63) (p0:L116) (k:AV→Objs→Option R) (n:Nat):∀ s,aloop tau B gl0 X89 (ent 63 (e63 c63) gnil) ow [] Tryz.f89 k (I89 s) (E89 p0 s) (n+1)=T89 B c63 p0 (fun s=>aloop tau B gl0 X89 (ent 63 (e63 c63) gnil) ow [] Tryz.f89 k (I89 s) (E89 p0 s) n) (K2 k) (some s):=by
 intro s
 cases s<;>kernel_rfl
theorem nt89 {R R':Type} (B:Ops) (c63:C63) (p0:L116) (again:S89→Option R) (again':S89→Option R') (k0:(LB)→Option R') (k:R'→Option R) (h:∀ s,again s=ob (again' s) k):∀ s,T89 B c63 p0 again (fun y=>ob (k0 y) k) s=ob (T89 B c63 p0 again' k0 s) k:=by
 rintro (_ | x)
 all_goals try cases x
 all_goals (unfold T89;repeat' first | exact rfl | exact h _ | apply qae | (apply qao;intro))
def R89 (c63:C63) (p0:L116):Nat→S89→Option (LB)
 | 0,_=>none
 | n+1,s=>T89 Ops.std c63 p0 (R89 c63 p0 n) some (some s)
theorem rr89 {R:Type} (c63:C63) (p0:L116) (k:AV→Objs→Option R):∀ (n:Nat) (s:S89),aloop tau Ops.std gl0 X89 (ent 63 (e63 c63) gnil) ow [] Tryz.f89 k (I89 s) (E89 p0 s) n=ob (R89 c63 p0 n s) (K2 k)
 | 0,s=>by cases s<;>rfl
 | n+1,s=>by rw [el89];exact nt89 Ops.std c63 p0 _ _ some (K2 k) (rr89 c63 p0 k n) (some s)
def F89 (c63:C63) (p0:L116):Option (LB):=T89 Ops.std c63 p0 (R89 c63 p0 1000000) some none
def e89 {R:Type} (c:L116→Option (LB)):Ent R:=fun args objs k=>
 oL args 116 ty116 fun p0 l0=>oE l0 objs <| ob (c p0) (K2 k)
abbrev Sp89 (c:L116→Option (LB)):Prop:=∀ (p0:L116) (y:LB),c p0=some y→Spec Tryz.prog gl0 89 [.c (.list 116 ty116 p0)] [] (.c (.str y)) []
theorem ek89 {R:Type} {c:L116→Option (LB)} (hs:Sp89 c):EOk 89 (e89 (R:=R) c):=fun args objs k r h=>by
 unfold e89 at h
 obtain ⟨p0,l0,rfl,q3⟩:=qa1 h
 obtain ⟨rfl,rfl,q5⟩:=qam q3
 exact qan (hs p0) q5
theorem sf89 {c63:C63} (h63:Sp63 c63):Sp89 (F89 c63):=fun p0 y hy=>by
 refine qai (qad (ek63 h63) qah) 1000000 (fn:=Tryz.f89) (by kernel_rfl) (by kernel_rfl) (X:=X89) (by kernel_rfl) ?_
 rw [eq89]
 exact (nt89 Ops.std c63 p0 _ _ some (K2 k0) (rr89 c63 p0 k0 1000000) none).trans (by show ob (F89 c63 p0) _=_;rw [hy];rfl)
noncomputable def M89:L116→Option (LB):=F89 M63
theorem sm89:Sp89 M89:=sf89 sm63
def X71:Aux:=⟨[],[(7,.lin ([0,1,4,5,8,9,12,13,16,19,20,23,24,2,3,6,7,10,11,14,15,17,18,21,22,25,26,27]))]⟩
abbrev C50:Type:=LB→Option (LB×Bool)
abbrev C51:Type:=Int→Option (Bool)
abbrev C88:Type:=L116→Option (Bool)
abbrev C89:Type:=L116→Option (LB)
def T71 {R:Type} (B:Ops) (c50:C50) (c51:C51) (c20:C20) (c54:C54) (c88:C88) (c72:C72) (c63:C63) (c89:C89) (p0:Int) (p1:LB) (p2:LB) (p3:LB) (p4:LB) (p5:L118) (p6:L116) (k:(LB)→Option R):Option R:=ob (c50 p4) fun y0=>ob (c51 p0) fun y1=>cond (!y1) (k (mt UInt8)) (cond (!y0.2) (k (mt UInt8)) (ob (c20 p1) fun y2=>cond (!y2) (k (mt UInt8)) (ob (c20 p2) fun y3=>cond (!y3) (k (mt UInt8)) (ob (c20 p3) fun y4=>cond (!y4) (k (mt UInt8)) (ob (c54 p5) fun y5=>cond (!y5) (k (mt UInt8)) (ob (c88 p6) fun y6=>cond (!y6) (k (mt UInt8)) (cond (p4 == mt UInt8) (ob (c72 p0) fun y7=>cond (B.lim (List.length y7+1) (1)) (cond (B.lim (List.length (y7++([32]:LB))+List.length p1) (1)) (cond (B.lim (List.length (y7++([32]:LB)++p1)+1) (1)) (cond (B.lim (List.length (y7++([32]:LB)++p1++([32]:LB))+List.length p2) (1)) (cond (B.lim (List.length (y7++([32]:LB)++p1++([32]:LB)++p2)+1) (1)) (cond (B.lim (List.length (y7++([32]:LB)++p1++([32]:LB)++p2++([32]:LB))+List.length p3) (1)) (cond (B.lim (List.length (y7++([32]:LB)++p1++([32]:LB)++p2++([32]:LB)++p3)+1) (1)) (cond (B.lim (List.length (y7++([32]:LB)++p1++([32]:LB)++p2++([32]:LB)++p3++([32]:LB))+1) (1)) (cond (B.lim (List.length (y7++([32]:LB)++p1++([32]:LB)++p2++([32]:LB)++p3++([32]:LB)++([45]:LB))+1) (1)) (ob (c63 p5) fun y8=>cond (B.lim (List.length (y7++([32]:LB)++p1++([32]:LB)++p2++([32]:LB)++p3++([32]:LB)++([45]:LB)++([32]:LB))+List.length y8) (1)) (ob (c89 p6) fun y9=>cond (B.lim (List.length (y7++([32]:LB)++p1++([32]:LB)++p2++([32]:LB)++p3++([32]:LB)++([45]:LB)++([32]:LB)++y8)+List.length y9) (1)) (k (y7++([32]:LB)++p1++([32]:LB)++p2++([32]:LB)++p3++([32]:LB)++([45]:LB)++([32]:LB)++y8++y9)) none) none) none) none) none) none) none) none) none) none) none) (ob (c72 p0) fun y7=>cond (B.lim (List.length y7+1) (1)) (cond (B.lim (List.length (y7++([32]:LB))+List.length p1) (1)) (cond (B.lim (List.length (y7++([32]:LB)++p1)+1) (1)) (cond (B.lim (List.length (y7++([32]:LB)++p1++([32]:LB))+List.length p2) (1)) (cond (B.lim (List.length (y7++([32]:LB)++p1++([32]:LB)++p2)+1) (1)) (cond (B.lim (List.length (y7++([32]:LB)++p1++([32]:LB)++p2++([32]:LB))+List.length p3) (1)) (cond (B.lim (List.length (y7++([32]:LB)++p1++([32]:LB)++p2++([32]:LB)++p3)+1) (1)) (cond (B.lim (List.length (y7++([32]:LB)++p1++([32]:LB)++p2++([32]:LB)++p3++([32]:LB))+List.length p4) (1)) (cond (B.lim (List.length (y7++([32]:LB)++p1++([32]:LB)++p2++([32]:LB)++p3++([32]:LB)++p4)+1) (1)) (ob (c63 p5) fun y8=>cond (B.lim (List.length (y7++([32]:LB)++p1++([32]:LB)++p2++([32]:LB)++p3++([32]:LB)++p4++([32]:LB))+List.length y8) (1)) (ob (c89 p6) fun y9=>cond (B.lim (List.length (y7++([32]:LB)++p1++([32]:LB)++p2++([32]:LB)++p3++([32]:LB)++p4++([32]:LB)++y8)+List.length y9) (1)) (k (y7++([32]:LB)++p1++([32]:LB)++p2++([32]:LB)++p3++([32]:LB)++p4++([32]:LB)++y8++y9)) none) none) none) none) none) none) none) none) none) none) none))))))))
theorem eq71 {R:Type} (B:Ops) (c50:C50) (c51:C51) (c20:C20) (c54:C54) (c88:C88) (c72:C72) (c63:C63) (c89:C89) (p0:Int) (p1:LB) (p2:LB) (p3:LB) (p4:LB) (p5:L118) (p6:L116) (k:AV→Objs→Option R) (n:Nat):afun tau B gl0 X71 (ent 50 (e50 c50) (ent 51 (e51 c51) (ent 20 (e20 c20) (ent 54 (e54 c54) (ent 88 (e88 c88) (ent 72 (e72 c72) (ent 63 (e63 c63) (ent 89 (e89 c89) gnil)))))))) ow Tryz.f71 [.agg [.int .i64 p0,.str p1,.str p2,.str p3,.str p4,.list 118 ty118 p5,.list 116 ty116 p6]] [] k n=T71 B c50 c51 c20 c54 c88 c72 c63 c89 p0 p1 p2 p3 p4 p5 p6 (K2 k):=by kernel_rfl
theorem nt71 {R R':Type} (B:Ops) (c50:C50) (c51:C51) (c20:C20) (c54:C54) (c88:C88) (c72:C72) (c63:C63) (c89:C89) (p0:Int) (p1:LB) (p2:LB) (p3:LB) (p4:LB) (p5:L118) (p6:L116) (k0:(LB)→Option R') (k:R'→Option R):T71 B c50 c51 c20 c54 c88 c72 c63 c89 p0 p1 p2 p3 p4 p5 p6 (fun y=>ob (k0 y) k)=ob (T71 B c50 c51 c20 c54 c88 c72 c63 c89 p0 p1 p2 p3 p4 p5 p6 k0) k:=by
 unfold T71
 repeat' first | exact rfl | apply qae | (apply qao;intro)
def F71 (c50:C50) (c51:C51) (c20:C20) (c54:C54) (c88:C88) (c72:C72) (c63:C63) (c89:C89) (p0:Int) (p1:LB) (p2:LB) (p3:LB) (p4:LB) (p5:L118) (p6:L116):Option (LB):=T71 Ops.std c50 c51 c20 c54 c88 c72 c63 c89 p0 p1 p2 p3 p4 p5 p6 some
def e71 {R:Type} (c:Int→LB→LB→LB→LB→L118→L116→Option (LB)):Ent R:=fun args objs k=>
 oCons args fun a0 l0=>oAgg a0 fun x0=>cCons x0 fun z0_0 w0_0=>cInt .i64 z0_0 fun p0=>cCons w0_0 fun z0_1 w0_1=>cStr z0_1 fun p1=>cCons w0_1 fun z0_2 w0_2=>cStr z0_2 fun p2=>cCons w0_2 fun z0_3 w0_3=>cStr z0_3 fun p3=>cCons w0_3 fun z0_4 w0_4=>cStr z0_4 fun p4=>cCons w0_4 fun z0_5 w0_5=>cList 118 ty118 z0_5 fun p5=>cCons w0_5 fun z0_6 w0_6=>cList 116 ty116 z0_6 fun p6=>cNil w0_6 <| oE l0 objs <| ob (c p0 p1 p2 p3 p4 p5 p6) (K2 k)
abbrev Sp71 (c:Int→LB→LB→LB→LB→L118→L116→Option (LB)):Prop:=∀ (p0:Int) (p1:LB) (p2:LB) (p3:LB) (p4:LB) (p5:L118) (p6:L116) (y:LB),c p0 p1 p2 p3 p4 p5 p6=some y→Spec Tryz.prog gl0 71 [.agg [.int .i64 p0,.str p1,.str p2,.str p3,.str p4,.list 118 ty118 p5,.list 116 ty116 p6]] [] (.c (.str y)) []
theorem ek71 {R:Type} {c:Int→LB→LB→LB→LB→L118→L116→Option (LB)} (hs:Sp71 c):EOk 71 (e71 (R:=R) c):=fun args objs k r h=>by
 unfold e71 at h
 obtain ⟨a0,l0,rfl,q1⟩:=qak h
 obtain ⟨x0,rfl,q2⟩:=qav q1
 obtain ⟨z0_0,w0_0,rfl,q3⟩:=qaa q2
 obtain ⟨p0,rfl,q4⟩:=qar q3
 obtain ⟨z0_1,w0_1,rfl,q5⟩:=qaa q4
 obtain ⟨p1,rfl,q6⟩:=qbb q5
 obtain ⟨z0_2,w0_2,rfl,q7⟩:=qaa q6
 obtain ⟨p2,rfl,q8⟩:=qbb q7
 obtain ⟨z0_3,w0_3,rfl,q9⟩:=qaa q8
 obtain ⟨p3,rfl,q10⟩:=qbb q9
 obtain ⟨z0_4,w0_4,rfl,q11⟩:=qaa q10
 obtain ⟨p4,rfl,q12⟩:=qbb q11
 obtain ⟨z0_5,w0_5,rfl,q13⟩:=qaa q12
 obtain ⟨p5,rfl,q14⟩:=qac q13
 obtain ⟨z0_6,w0_6,rfl,q15⟩:=qaa q14
 obtain ⟨p6,rfl,q16⟩:=qac q15
 obtain ⟨rfl,q17⟩:=qaq q16
 obtain ⟨rfl,rfl,q19⟩:=qam q17
 exact qan (hs p0 p1 p2 p3 p4 p5 p6) q19
theorem sf71 {c50:C50} {c51:C51} {c20:C20} {c54:C54} {c88:C88} {c72:C72} {c63:C63} {c89:C89} (h50:Sp50 c50) (h51:Sp51 c51) (h20:Sp20 c20) (h54:Sp54 c54) (h88:Sp88 c88) (h72:Sp72 c72) (h63:Sp63 c63) (h89:Sp89 c89):Sp71 (F71 c50 c51 c20 c54 c88 c72 c63 c89):=fun p0 p1 p2 p3 p4 p5 p6 y hy=>by
 refine qai (qad (ek50 h50) (qad (ek51 h51) (qad (ek20 h20) (qad (ek54 h54) (qad (ek88 h88) (qad (ek72 h72) (qad (ek63 h63) (qad (ek89 h89) qah)))))))) 1000000 (fn:=Tryz.f71) (by kernel_rfl) (by kernel_rfl) (X:=X71) (by kernel_rfl) ?_
 rw [eq71]
 exact (nt71 Ops.std c50 c51 c20 c54 c88 c72 c63 c89 p0 p1 p2 p3 p4 p5 p6 some (K2 k0)).trans (by show ob (F71 c50 c51 c20 c54 c88 c72 c63 c89 p0 p1 p2 p3 p4 p5 p6) _=_;rw [hy];rfl)
noncomputable def M71:Int→LB→LB→LB→LB→L118→L116→Option (LB):=F71 M50 M51 M20 M54 M88 M72 M63 M89
theorem sm71:Sp71 M71:=sf71 sm50 sm51 sm20 sm54 sm88 sm72 sm63 sm89
def X38:Aux:=⟨[(2000000,[])],[(5,.lin (rg 0 16))]⟩
abbrev C36:Type:=LB→Option (L9)
abbrev C39:Type:=LB→Int→Option (LB)
abbrev C69:Type:=LB→Option (Int×Int×L118)
abbrev C70:Type:=L9→Option (Bool×L116)
abbrev C71:Type:=Int→LB→LB→LB→LB→L118→L116→Option (LB)
def T38 {R:Type} (B:Ops) (c36:C36) (c68:C68) (c50:C50) (c39:C39) (c35:C35) (c69:C69) (c70:C70) (c71:C71) (p0:LB) (k:(Int×LB×LB×LB×LB×L118×L116×Bool)→Option R):Option R:=ob (c36 p0) fun y0=>cond (B.lt (↑y0.length) (6)) (k ((0,mt UInt8,mt UInt8,mt UInt8,mt UInt8,mt (Ty.den ty118),mt (Ty.den ty116),false))) (cond (B.inb (0) y0.length) (ob (c68 (y0.getD (Int.toNat (0)) ty9.dflt) false) fun y1=>cond (B.inb (1) y0.length) (cond (B.inb (2) y0.length) (cond (B.inb (3) y0.length) (cond (B.inb (4) y0.length) (cond (y0.getD (Int.toNat (4)) ty9.dflt == ([45]:LB)) (ob (c39 p0 (5)) fun y2=>ob (c35 y2 (59)) fun y3=>cond (B.inb (0) y3.length) (ob (c69 (y3.getD (Int.toNat (0)) ty9.dflt)) fun y4=>cond (B.inb (1) (List.length y3+1)) (ob (c70 (List.drop (Int.toNat (1)) (List.take y3.length y3))) fun y5=>cond (!y1.2) (k ((0,mt UInt8,mt UInt8,mt UInt8,mt UInt8,mt (Ty.den ty118),mt (Ty.den ty116),false))) (cond (!B.eq y4.1 (0)) (k ((0,mt UInt8,mt UInt8,mt UInt8,mt UInt8,mt (Ty.den ty118),mt (Ty.den ty116),false))) (cond (!y5.1) (k ((0,mt UInt8,mt UInt8,mt UInt8,mt UInt8,mt (Ty.den ty118),mt (Ty.den ty116),false))) (ob (c71 y1.1 (y0.getD (Int.toNat (1)) ty9.dflt) (y0.getD (Int.toNat (2)) ty9.dflt) (y0.getD (Int.toNat (3)) ty9.dflt) (mt UInt8) y4.2.2 y5.2) fun y6=>cond (y6 == mt UInt8) (k ((0,mt UInt8,mt UInt8,mt UInt8,mt UInt8,mt (Ty.den ty118),mt (Ty.den ty116),false))) (k ((y1.1,y0.getD (Int.toNat (1)) ty9.dflt,y0.getD (Int.toNat (2)) ty9.dflt,y0.getD (Int.toNat (3)) ty9.dflt,mt UInt8,y4.2.2,y5.2,true))))))) none) none) (ob (c50 (y0.getD (Int.toNat (4)) ty9.dflt)) fun y2=>cond (!y2.2) (k ((0,mt UInt8,mt UInt8,mt UInt8,mt UInt8,mt (Ty.den ty118),mt (Ty.den ty116),false))) (ob (c39 p0 (5)) fun y3=>ob (c35 y3 (59)) fun y4=>cond (B.inb (0) y4.length) (ob (c69 (y4.getD (Int.toNat (0)) ty9.dflt)) fun y5=>cond (B.inb (1) (List.length y4+1)) (ob (c70 (List.drop (Int.toNat (1)) (List.take y4.length y4))) fun y6=>cond (!y1.2) (k ((0,mt UInt8,mt UInt8,mt UInt8,mt UInt8,mt (Ty.den ty118),mt (Ty.den ty116),false))) (cond (!B.eq y5.1 (0)) (k ((0,mt UInt8,mt UInt8,mt UInt8,mt UInt8,mt (Ty.den ty118),mt (Ty.den ty116),false))) (cond (!y6.1) (k ((0,mt UInt8,mt UInt8,mt UInt8,mt UInt8,mt (Ty.den ty118),mt (Ty.den ty116),false))) (ob (c71 y1.1 (y0.getD (Int.toNat (1)) ty9.dflt) (y0.getD (Int.toNat (2)) ty9.dflt) (y0.getD (Int.toNat (3)) ty9.dflt) (y0.getD (Int.toNat (4)) ty9.dflt) y5.2.2 y6.2) fun y7=>cond (y7 == mt UInt8) (k ((0,mt UInt8,mt UInt8,mt UInt8,mt UInt8,mt (Ty.den ty118),mt (Ty.den ty116),false))) (k ((y1.1,y0.getD (Int.toNat (1)) ty9.dflt,y0.getD (Int.toNat (2)) ty9.dflt,y0.getD (Int.toNat (3)) ty9.dflt,y0.getD (Int.toNat (4)) ty9.dflt,y5.2.2,y6.2,true))))))) none) none))) none) none) none) none) none)
abbrev K24 {R:Type} (k:AV→Objs→Option R) (y:(Int×LB×LB×LB×LB×L118×L116×Bool)):Option R:=k (.tup [(true,[.int .i64 y.1,.str y.2.1,.str y.2.2.1,.str y.2.2.2.1,.str y.2.2.2.2.1,.list 118 ty118 y.2.2.2.2.2.1,.list 116 ty116 y.2.2.2.2.2.2.1]),(false,[.bool y.2.2.2.2.2.2.2])]) []
theorem eq38 {R:Type} (B:Ops) (c36:C36) (c68:C68) (c50:C50) (c39:C39) (c35:C35) (c69:C69) (c70:C70) (c71:C71) (p0:LB) (k:AV→Objs→Option R) (n:Nat):afun tau B gl0 X38 (ent 36 (e36 c36) (ent 68 (e68 c68) (ent 50 (e50 c50) (ent 39 (e39 c39) (ent 35 (e35 c35) (ent 69 (e69 c69) (ent 70 (e70 c70) (ent 71 (e71 c71) gnil)))))))) ow Tryz.f38 [.c (.str p0)] [] k n=T38 B c36 c68 c50 c39 c35 c69 c70 c71 p0 (K24 k):=by kernel_rfl
theorem nt38 {R R':Type} (B:Ops) (c36:C36) (c68:C68) (c50:C50) (c39:C39) (c35:C35) (c69:C69) (c70:C70) (c71:C71) (p0:LB) (k0:(Int×LB×LB×LB×LB×L118×L116×Bool)→Option R') (k:R'→Option R):T38 B c36 c68 c50 c39 c35 c69 c70 c71 p0 (fun y=>ob (k0 y) k)=ob (T38 B c36 c68 c50 c39 c35 c69 c70 c71 p0 k0) k:=by
 unfold T38
 repeat' first | exact rfl | apply qae | (apply qao;intro)
def F38 (c36:C36) (c68:C68) (c50:C50) (c39:C39) (c35:C35) (c69:C69) (c70:C70) (c71:C71) (p0:LB):Option (Int×LB×LB×LB×LB×L118×L116×Bool):=T38 Ops.std c36 c68 c50 c39 c35 c69 c70 c71 p0 some
def e38 {R:Type} (c:LB→Option (Int×LB×LB×LB×LB×L118×L116×Bool)):Ent R:=fun args objs k=>
 oS args fun p0 l0=>oE l0 objs <| ob (c p0) (K24 k)
abbrev Sp38 (c:LB→Option (Int×LB×LB×LB×LB×L118×L116×Bool)):Prop:=∀ (p0:LB) (y:Int×LB×LB×LB×LB×L118×L116×Bool),c p0=some y→Spec Tryz.prog gl0 38 [.c (.str p0)] [] (.tup [(true,[.int .i64 y.1,.str y.2.1,.str y.2.2.1,.str y.2.2.2.1,.str y.2.2.2.2.1,.list 118 ty118 y.2.2.2.2.2.1,.list 116 ty116 y.2.2.2.2.2.2.1]),(false,[.bool y.2.2.2.2.2.2.2])]) []
theorem ek38 {R:Type} {c:LB→Option (Int×LB×LB×LB×LB×L118×L116×Bool)} (hs:Sp38 c):EOk 38 (e38 (R:=R) c):=fun args objs k r h=>by
 unfold e38 at h
 obtain ⟨p0,l0,rfl,q3⟩:=qa9 h
 obtain ⟨rfl,rfl,q5⟩:=qam q3
 exact qan (hs p0) q5
theorem sf38 {c36:C36} {c68:C68} {c50:C50} {c39:C39} {c35:C35} {c69:C69} {c70:C70} {c71:C71} (h36:Sp36 c36) (h68:Sp68 c68) (h50:Sp50 c50) (h39:Sp39 c39) (h35:Sp35 c35) (h69:Sp69 c69) (h70:Sp70 c70) (h71:Sp71 c71):Sp38 (F38 c36 c68 c50 c39 c35 c69 c70 c71):=fun p0 y hy=>by
 refine qai (qad (ek36 h36) (qad (ek68 h68) (qad (ek50 h50) (qad (ek39 h39) (qad (ek35 h35) (qad (ek69 h69) (qad (ek70 h70) (qad (ek71 h71) qah)))))))) 1000000 (fn:=Tryz.f38) (by kernel_rfl) (by kernel_rfl) (X:=X38) (by kernel_rfl) ?_
 rw [eq38]
 exact (nt38 Ops.std c36 c68 c50 c39 c35 c69 c70 c71 p0 some (K24 k0)).trans (by show ob (F38 c36 c68 c50 c39 c35 c69 c70 c71 p0) _=_;rw [hy];rfl)
noncomputable def M38:LB→Option (Int×LB×LB×LB×LB×L118×L116×Bool):=F38 M36 M68 M50 M39 M35 M69 M70 M71
theorem sm38:Sp38 M38:=sf38 sm36 sm68 sm50 sm39 sm35 sm69 sm70 sm71
def X21:Aux:=⟨[],[]⟩
def T21 {R:Type} (B:Ops) (p0:Int) (k:(Bool)→Option R):Option R:=cond (B.le (-999) p0) (k (B.le p0 (999))) (k false)
theorem eq21 {R:Type} (B:Ops) (p0:Int) (k:AV→Objs→Option R) (n:Nat):afun tau B gl0 X21 gnil ow Tryz.f21 [.c (.int .i64 p0)] [] k n=T21 B p0 (K1 k):=by kernel_rfl
theorem nt21 {R R':Type} (B:Ops) (p0:Int) (k0:(Bool)→Option R') (k:R'→Option R):T21 B p0 (fun y=>ob (k0 y) k)=ob (T21 B p0 k0) k:=by
 unfold T21
 repeat' first | exact rfl | apply qae | (apply qao;intro)
def F21 (p0:Int):Option (Bool):=T21 Ops.std p0 some
def e21 {R:Type} (c:Int→Option (Bool)):Ent R:=fun args objs k=>
 oI args .i64 fun p0 l0=>oE l0 objs <| ob (c p0) (K1 k)
abbrev Sp21 (c:Int→Option (Bool)):Prop:=∀ (p0:Int) (y:Bool),c p0=some y→Spec Tryz.prog gl0 21 [.c (.int .i64 p0)] [] (.c (.bool y)) []
theorem ek21 {R:Type} {c:Int→Option (Bool)} (hs:Sp21 c):EOk 21 (e21 (R:=R) c):=fun args objs k r h=>by
 unfold e21 at h
 obtain ⟨p0,l0,rfl,q3⟩:=qas h
 obtain ⟨rfl,rfl,q5⟩:=qam q3
 exact qan (hs p0) q5
theorem sf21:Sp21 (F21):=fun p0 y hy=>by
 refine qai qah 1000000 (fn:=Tryz.f21) (by kernel_rfl) (by kernel_rfl) (X:=X21) (by kernel_rfl) ?_
 rw [eq21]
 exact (nt21 Ops.std p0 some (K1 k0)).trans (by show ob (F21 p0) _=_;rw [hy];rfl)
noncomputable def M21:Int→Option (Bool):=F21
theorem sm21:Sp21 M21:=sf21
def X22:Aux:=⟨[(2,([1,2]++rg 4 21)),(5,([1,2]++rg 5 20))],[(7,.lin [0,1,2,3,4,5,6,7,8])]⟩
inductive S22 where
 | l0 (v1:Int)
 | l1 (v1:Int) (v2:Int)
def T22 {R:Type} (B:Ops) (p0:L9) (again:S22→Option R) (k:(Bool)→Option R):Option S22→Option R | none=>again (.l0 0) | some (.l0 v1)=>cond (B.lt v1 (↑p0.length)) (again (.l1 v1 0)) (k false) | some (.l1 v1 v2)=>cond (B.lt v2 v1) (cond (B.inb v1 p0.length) (cond (B.inb v2 p0.length) (cond (p0.getD v1.toNat ty9.dflt == p0.getD v2.toNat ty9.dflt) (k true) (again (.l1 v1 (IntKind.wrap .i64 (v2+1))))) none) none) (again (.l0 (IntKind.wrap .i64 (v1+1))))
def E22 (p0:L9):S22→List AV×Objs
 | .l0 v1=>(mk 25 [(0,.c (.list 9 ty9 p0)),(3,.c (.int .i64 v1))],[])
 | .l1 v1 v2=>(mk 25 [(0,.c (.list 9 ty9 p0)),(3,.c (.int .i64 v1)),(4,.c (.int .i64 v2))],[])
def I22:S22→Nat
 | .l0 _=>0
 | .l1 _ _=>1
theorem eq22 {R:Type} (B:Ops) (p0:L9) (k:AV→Objs→Option R) (n:Nat):afun tau B gl0 X22 gnil ow Tryz.f22 [.c (.list 9 ty9 p0)] [] k n=T22 B p0 (fun s=>aloop tau B gl0 X22 gnil ow [] Tryz.f22 k (I22 s) (E22 p0 s) n) (K1 k) none:=by kernel_rfl
theorem el22 {R:Type} (B:Ops) (p0:L9) (k:AV→Objs→Option R) (n:Nat):∀ s,aloop tau B gl0 X22 gnil ow [] Tryz.f22 k (I22 s) (E22 p0 s) (n+1)=T22 B p0 (fun s=>aloop tau B gl0 X22 gnil ow [] Tryz.f22 k (I22 s) (E22 p0 s) n) (K1 k) (some s):=by
 intro s
 cases s<;>kernel_rfl
theorem nt22 {R R':Type} (B:Ops) (p0:L9) (again:S22→Option R) (again':S22→Option R') (k0:(Bool)→Option R') (k:R'→Option R) (h:∀ s,again s=ob (again' s) k):∀ s,T22 B p0 again (fun y=>ob (k0 y) k) s=ob (T22 B p0 again' k0 s) k:=by
 rintro (_ | x)
 all_goals try cases x
 all_goals (unfold T22;repeat' first | exact rfl | exact h _ | apply qae | (apply qao;intro))
def R22 (p0:L9):Nat→S22→Option (Bool)
 | 0,_=>none
 | n+1,s=>T22 Ops.std p0 (R22 p0 n) some (some s)
theorem rr22 {R:Type} (p0:L9) (k:AV→Objs→Option R):∀ (n:Nat) (s:S22),aloop tau Ops.std gl0 X22 gnil ow [] Tryz.f22 k (I22 s) (E22 p0 s) n=ob (R22 p0 n s) (K1 k)
 | 0,s=>by cases s<;>rfl
 | n+1,s=>by rw [el22];exact nt22 Ops.std p0 _ _ some (K1 k) (rr22 p0 k n) (some s)
def F22 (p0:L9):Option (Bool):=T22 Ops.std p0 (R22 p0 1000000) some none
def e22 {R:Type} (c:L9→Option (Bool)):Ent R:=fun args objs k=>
 oL args 9 ty9 fun p0 l0=>oE l0 objs <| ob (c p0) (K1 k)
abbrev Sp22 (c:L9→Option (Bool)):Prop:=∀ (p0:L9) (y:Bool),c p0=some y→Spec Tryz.prog gl0 22 [.c (.list 9 ty9 p0)] [] (.c (.bool y)) []
theorem ek22 {R:Type} {c:L9→Option (Bool)} (hs:Sp22 c):EOk 22 (e22 (R:=R) c):=fun args objs k r h=>by
 unfold e22 at h
 obtain ⟨p0,l0,rfl,q3⟩:=qa1 h
 obtain ⟨rfl,rfl,q5⟩:=qam q3
 exact qan (hs p0) q5
theorem sf22:Sp22 (F22):=fun p0 y hy=>by
 refine qai qah 1000000 (fn:=Tryz.f22) (by kernel_rfl) (by kernel_rfl) (X:=X22) (by kernel_rfl) ?_
 rw [eq22]
 exact (nt22 Ops.std p0 _ _ some (K1 k0) (rr22 p0 k0 1000000) none).trans (by show ob (F22 p0) _=_;rw [hy];rfl)
noncomputable def M22:L9→Option (Bool):=F22
theorem sm22:Sp22 M22:=sf22
def X49:Aux:=⟨[(2,([0,3,4]++rg 6 16))],[]⟩
inductive S49 where
 | l0 (v1:Int)
def T49 {R:Type} (B:Ops) (p0:L61) (p1:L65) (p2:L71) (p3:LB) (again:S49→Option R) (k:(Int)→Option R):Option S49→Option R | none=>again (.l0 0) | some (.l0 v1)=>cond (B.lt v1 (↑p1.length)) (cond (B.inb v1 p1.length) (cond ((p1.getD v1.toNat ty65.dflt).1 == p3) (k v1) (again (.l0 (IntKind.wrap .i64 (v1+1))))) none) (k (-1))
def E49 (p0:L61) (p1:L65) (p2:L71) (p3:LB):S49→List AV×Objs
 | .l0 v1=>(mk 22 [(1,.c (.str p3)),(2,.c (.ptr 2 0)),(5,.c (.int .i64 v1))],[(2,.box 31 [.list 61 ty61 p0,.list 65 ty65 p1,.list 71 ty71 p2])])
def I49:S49→Nat
 | .l0 _=>0
theorem eq49 {R:Type} (B:Ops) (p0:L61) (p1:L65) (p2:L71) (p3:LB) (k:AV→Objs→Option R) (n:Nat):afun tau B gl0 X49 gnil ow Tryz.f49 [.agg [.list 61 ty61 p0,.list 65 ty65 p1,.list 71 ty71 p2],.c (.str p3)] [] k n=T49 B p0 p1 p2 p3 (fun s=>aloop tau B gl0 X49 gnil ow [] Tryz.f49 k (I49 s) (E49 p0 p1 p2 p3 s) n) (K8 k) none:=by kernel_rfl
theorem el49 {R:Type} (B:Ops) (p0:L61) (p1:L65) (p2:L71) (p3:LB) (k:AV→Objs→Option R) (n:Nat):∀ s,aloop tau B gl0 X49 gnil ow [] Tryz.f49 k (I49 s) (E49 p0 p1 p2 p3 s) (n+1)=T49 B p0 p1 p2 p3 (fun s=>aloop tau B gl0 X49 gnil ow [] Tryz.f49 k (I49 s) (E49 p0 p1 p2 p3 s) n) (K8 k) (some s):=by
 intro s
 cases s<;>kernel_rfl
theorem nt49 {R R':Type} (B:Ops) (p0:L61) (p1:L65) (p2:L71) (p3:LB) (again:S49→Option R) (again':S49→Option R') (k0:(Int)→Option R') (k:R'→Option R) (h:∀ s,again s=ob (again' s) k):∀ s,T49 B p0 p1 p2 p3 again (fun y=>ob (k0 y) k) s=ob (T49 B p0 p1 p2 p3 again' k0 s) k:=by
 rintro (_ | x)
 all_goals try cases x
 all_goals (unfold T49;repeat' first | exact rfl | exact h _ | apply qae | (apply qao;intro))
def R49 (p0:L61) (p1:L65) (p2:L71) (p3:LB):Nat→S49→Option (Int)
 | 0,_=>none
 | n+1,s=>T49 Ops.std p0 p1 p2 p3 (R49 p0 p1 p2 p3 n) some (some s)
theorem rr49 {R:Type} (p0:L61) (p1:L65) (p2:L71) (p3:LB) (k:AV→Objs→Option R):∀ (n:Nat) (s:S49),aloop tau Ops.std gl0 X49 gnil ow [] Tryz.f49 k (I49 s) (E49 p0 p1 p2 p3 s) n=ob (R49 p0 p1 p2 p3 n s) (K8 k)
 | 0,s=>by cases s<;>rfl
 | n+1,s=>by rw [el49];exact nt49 Ops.std p0 p1 p2 p3 _ _ some (K8 k) (rr49 p0 p1 p2 p3 k n) (some s)
def F49 (p0:L61) (p1:L65) (p2:L71) (p3:LB):Option (Int):=T49 Ops.std p0 p1 p2 p3 (R49 p0 p1 p2 p3 1000000) some none
def e49 {R:Type} (c:L61→L65→L71→LB→Option (Int)):Ent R:=fun args objs k=>
 oCons args fun a0 l0=>oAgg a0 fun x0=>cCons x0 fun z0_0 w0_0=>cList 61 ty61 z0_0 fun p0=>cCons w0_0 fun z0_1 w0_1=>cList 65 ty65 z0_1 fun p1=>cCons w0_1 fun z0_2 w0_2=>cList 71 ty71 z0_2 fun p2=>cNil w0_2 <| oS l0 fun p3 l1=>oE l1 objs <| ob (c p0 p1 p2 p3) (K8 k)
abbrev Sp49 (c:L61→L65→L71→LB→Option (Int)):Prop:=∀ (p0:L61) (p1:L65) (p2:L71) (p3:LB) (y:Int),c p0 p1 p2 p3=some y→Spec Tryz.prog gl0 49 [.agg [.list 61 ty61 p0,.list 65 ty65 p1,.list 71 ty71 p2],.c (.str p3)] [] (.c (.int .i64 y)) []
theorem ek49 {R:Type} {c:L61→L65→L71→LB→Option (Int)} (hs:Sp49 c):EOk 49 (e49 (R:=R) c):=fun args objs k r h=>by
 unfold e49 at h
 obtain ⟨a0,l0,rfl,q1⟩:=qak h
 obtain ⟨x0,rfl,q2⟩:=qav q1
 obtain ⟨z0_0,w0_0,rfl,q3⟩:=qaa q2
 obtain ⟨p0,rfl,q4⟩:=qac q3
 obtain ⟨z0_1,w0_1,rfl,q5⟩:=qaa q4
 obtain ⟨p1,rfl,q6⟩:=qac q5
 obtain ⟨z0_2,w0_2,rfl,q7⟩:=qaa q6
 obtain ⟨p2,rfl,q8⟩:=qac q7
 obtain ⟨rfl,q9⟩:=qaq q8
 obtain ⟨p3,l1,rfl,q12⟩:=qa9 q9
 obtain ⟨rfl,rfl,q14⟩:=qam q12
 exact qan (hs p0 p1 p2 p3) q14
theorem sf49:Sp49 (F49):=fun p0 p1 p2 p3 y hy=>by
 refine qai qah 1000000 (fn:=Tryz.f49) (by kernel_rfl) (by kernel_rfl) (X:=X49) (by kernel_rfl) ?_
 rw [eq49]
 exact (nt49 Ops.std p0 p1 p2 p3 _ _ some (K8 k0) (rr49 p0 p1 p2 p3 k0 1000000) none).trans (by show ob (F49 p0 p1 p2 p3) _=_;rw [hy];rfl)
noncomputable def M49:L61→L65→L71→LB→Option (Int):=F49
theorem sm49:Sp49 M49:=sf49
def X52:Aux:=⟨[(4,([0,4,5,6]++rg 8 25))],[]⟩
inductive S52 where
 | l0 (v2:Int)
def T52 {R:Type} (B:Ops) (p0:L61) (p1:L65) (p2:L71) (p3:Int) (p4:LB) (again:S52→Option R) (k:(Int)→Option R):Option S52→Option R | none=>cond (B.lt p3 (0)) (k (-1)) (again (.l0 0)) | some (.l0 v2)=>cond (B.inb p3 p1.length) (cond (B.lt v2 (Nat.cast (List.length ((p1.getD p3.toNat ty65.dflt).2)))) (cond (B.inb p3 p1.length) (cond (B.inb v2 (List.length ((p1.getD p3.toNat ty65.dflt).2))) (cond (List.getD ((p1.getD p3.toNat ty65.dflt).2) v2.toNat (Ty.dflt Ty.str) == p4) (k v2) (again (.l0 (IntKind.wrap .i64 (v2+1))))) none) none) (k (-1))) none
def E52 (p0:L61) (p1:L65) (p2:L71) (p3:Int) (p4:LB):S52→List AV×Objs
 | .l0 v2=>(mk 33 [(1,.c (.int .i64 p3)),(2,.c (.str p4)),(3,.c (.ptr 3 0)),(7,.c (.int .i64 v2))],[(3,.box 31 [.list 61 ty61 p0,.list 65 ty65 p1,.list 71 ty71 p2])])
def I52:S52→Nat
 | .l0 _=>0
theorem eq52 {R:Type} (B:Ops) (p0:L61) (p1:L65) (p2:L71) (p3:Int) (p4:LB) (k:AV→Objs→Option R) (n:Nat):afun tau B gl0 X52 gnil ow Tryz.f52 [.agg [.list 61 ty61 p0,.list 65 ty65 p1,.list 71 ty71 p2],.c (.int .i64 p3),.c (.str p4)] [] k n=T52 B p0 p1 p2 p3 p4 (fun s=>aloop tau B gl0 X52 gnil ow [] Tryz.f52 k (I52 s) (E52 p0 p1 p2 p3 p4 s) n) (K8 k) none:=by kernel_rfl
theorem el52 {R:Type} (B:Ops) (p0:L61) (p1:L65) (p2:L71) (p3:Int) (p4:LB) (k:AV→Objs→Option R) (n:Nat):∀ s,aloop tau B gl0 X52 gnil ow [] Tryz.f52 k (I52 s) (E52 p0 p1 p2 p3 p4 s) (n+1)=T52 B p0 p1 p2 p3 p4 (fun s=>aloop tau B gl0 X52 gnil ow [] Tryz.f52 k (I52 s) (E52 p0 p1 p2 p3 p4 s) n) (K8 k) (some s):=by
 intro s
 cases s<;>kernel_rfl
theorem nt52 {R R':Type} (B:Ops) (p0:L61) (p1:L65) (p2:L71) (p3:Int) (p4:LB) (again:S52→Option R) (again':S52→Option R') (k0:(Int)→Option R') (k:R'→Option R) (h:∀ s,again s=ob (again' s) k):∀ s,T52 B p0 p1 p2 p3 p4 again (fun y=>ob (k0 y) k) s=ob (T52 B p0 p1 p2 p3 p4 again' k0 s) k:=by
 rintro (_ | x)
 all_goals try cases x
 all_goals (unfold T52;repeat' first | exact rfl | exact h _ | apply qae | (apply qao;intro))
def R52 (p0:L61) (p1:L65) (p2:L71) (p3:Int) (p4:LB):Nat→S52→Option (Int)
 | 0,_=>none
 | n+1,s=>T52 Ops.std p0 p1 p2 p3 p4 (R52 p0 p1 p2 p3 p4 n) some (some s)
theorem rr52 {R:Type} (p0:L61) (p1:L65) (p2:L71) (p3:Int) (p4:LB) (k:AV→Objs→Option R):∀ (n:Nat) (s:S52),aloop tau Ops.std gl0 X52 gnil ow [] Tryz.f52 k (I52 s) (E52 p0 p1 p2 p3 p4 s) n=ob (R52 p0 p1 p2 p3 p4 n s) (K8 k)
 | 0,s=>by cases s<;>rfl
 | n+1,s=>by rw [el52];exact nt52 Ops.std p0 p1 p2 p3 p4 _ _ some (K8 k) (rr52 p0 p1 p2 p3 p4 k n) (some s)
def F52 (p0:L61) (p1:L65) (p2:L71) (p3:Int) (p4:LB):Option (Int):=T52 Ops.std p0 p1 p2 p3 p4 (R52 p0 p1 p2 p3 p4 1000000) some none
def e52 {R:Type} (c:L61→L65→L71→Int→LB→Option (Int)):Ent R:=fun args objs k=>
 oCons args fun a0 l0=>oAgg a0 fun x0=>cCons x0 fun z0_0 w0_0=>cList 61 ty61 z0_0 fun p0=>cCons w0_0 fun z0_1 w0_1=>cList 65 ty65 z0_1 fun p1=>cCons w0_1 fun z0_2 w0_2=>cList 71 ty71 z0_2 fun p2=>cNil w0_2 <| oI l0 .i64 fun p3 l1=>oS l1 fun p4 l2=>oE l2 objs <| ob (c p0 p1 p2 p3 p4) (K8 k)
abbrev Sp52 (c:L61→L65→L71→Int→LB→Option (Int)):Prop:=∀ (p0:L61) (p1:L65) (p2:L71) (p3:Int) (p4:LB) (y:Int),c p0 p1 p2 p3 p4=some y→Spec Tryz.prog gl0 52 [.agg [.list 61 ty61 p0,.list 65 ty65 p1,.list 71 ty71 p2],.c (.int .i64 p3),.c (.str p4)] [] (.c (.int .i64 y)) []
theorem ek52 {R:Type} {c:L61→L65→L71→Int→LB→Option (Int)} (hs:Sp52 c):EOk 52 (e52 (R:=R) c):=fun args objs k r h=>by
 unfold e52 at h
 obtain ⟨a0,l0,rfl,q1⟩:=qak h
 obtain ⟨x0,rfl,q2⟩:=qav q1
 obtain ⟨z0_0,w0_0,rfl,q3⟩:=qaa q2
 obtain ⟨p0,rfl,q4⟩:=qac q3
 obtain ⟨z0_1,w0_1,rfl,q5⟩:=qaa q4
 obtain ⟨p1,rfl,q6⟩:=qac q5
 obtain ⟨z0_2,w0_2,rfl,q7⟩:=qaa q6
 obtain ⟨p2,rfl,q8⟩:=qac q7
 obtain ⟨rfl,q9⟩:=qaq q8
 obtain ⟨p3,l1,rfl,q12⟩:=qas q9
 obtain ⟨p4,l2,rfl,q15⟩:=qa9 q12
 obtain ⟨rfl,rfl,q17⟩:=qam q15
 exact qan (hs p0 p1 p2 p3 p4) q17
theorem sf52:Sp52 (F52):=fun p0 p1 p2 p3 p4 y hy=>by
 refine qai qah 1000000 (fn:=Tryz.f52) (by kernel_rfl) (by kernel_rfl) (X:=X52) (by kernel_rfl) ?_
 rw [eq52]
 exact (nt52 Ops.std p0 p1 p2 p3 p4 _ _ some (K8 k0) (rr52 p0 p1 p2 p3 p4 k0 1000000) none).trans (by show ob (F52 p0 p1 p2 p3 p4) _=_;rw [hy];rfl)
noncomputable def M52:L61→L65→L71→Int→LB→Option (Int):=F52
theorem sm52:Sp52 M52:=sf52
def X53:Aux:=⟨[(2,([0,3,4]++rg 6 16))],[]⟩
inductive S53 where
 | l0 (v1:Int)
def T53 {R:Type} (B:Ops) (p0:L61) (p1:L65) (p2:L71) (p3:LB) (again:S53→Option R) (k:(Int)→Option R):Option S53→Option R | none=>again (.l0 0) | some (.l0 v1)=>cond (B.lt v1 (↑p0.length)) (cond (B.inb v1 p0.length) (cond ((p0.getD v1.toNat ty61.dflt).1 == p3) (k v1) (again (.l0 (IntKind.wrap .i64 (v1+1))))) none) (k (-1))
def E53 (p0:L61) (p1:L65) (p2:L71) (p3:LB):S53→List AV×Objs
 | .l0 v1=>(mk 22 [(1,.c (.str p3)),(2,.c (.ptr 2 0)),(5,.c (.int .i64 v1))],[(2,.box 31 [.list 61 ty61 p0,.list 65 ty65 p1,.list 71 ty71 p2])])
def I53:S53→Nat
 | .l0 _=>0
theorem eq53 {R:Type} (B:Ops) (p0:L61) (p1:L65) (p2:L71) (p3:LB) (k:AV→Objs→Option R) (n:Nat):afun tau B gl0 X53 gnil ow Tryz.f53 [.agg [.list 61 ty61 p0,.list 65 ty65 p1,.list 71 ty71 p2],.c (.str p3)] [] k n=T53 B p0 p1 p2 p3 (fun s=>aloop tau B gl0 X53 gnil ow [] Tryz.f53 k (I53 s) (E53 p0 p1 p2 p3 s) n) (K8 k) none:=by kernel_rfl
theorem el53 {R:Type} (B:Ops) (p0:L61) (p1:L65) (p2:L71) (p3:LB) (k:AV→Objs→Option R) (n:Nat):∀ s,aloop tau B gl0 X53 gnil ow [] Tryz.f53 k (I53 s) (E53 p0 p1 p2 p3 s) (n+1)=T53 B p0 p1 p2 p3 (fun s=>aloop tau B gl0 X53 gnil ow [] Tryz.f53 k (I53 s) (E53 p0 p1 p2 p3 s) n) (K8 k) (some s):=by
 intro s
 cases s<;>kernel_rfl
theorem nt53 {R R':Type} (B:Ops) (p0:L61) (p1:L65) (p2:L71) (p3:LB) (again:S53→Option R) (again':S53→Option R') (k0:(Int)→Option R') (k:R'→Option R) (h:∀ s,again s=ob (again' s) k):∀ s,T53 B p0 p1 p2 p3 again (fun y=>ob (k0 y) k) s=ob (T53 B p0 p1 p2 p3 again' k0 s) k:=by
 rintro (_ | x)
 all_goals try cases x
 all_goals (unfold T53;repeat' first | exact rfl | exact h _ | apply qae | (apply qao;intro))
def R53 (p0:L61) (p1:L65) (p2:L71) (p3:LB):Nat→S53→Option (Int)
 | 0,_=>none
 | n+1,s=>T53 Ops.std p0 p1 p2 p3 (R53 p0 p1 p2 p3 n) some (some s)
theorem rr53 {R:Type} (p0:L61) (p1:L65) (p2:L71) (p3:LB) (k:AV→Objs→Option R):∀ (n:Nat) (s:S53),aloop tau Ops.std gl0 X53 gnil ow [] Tryz.f53 k (I53 s) (E53 p0 p1 p2 p3 s) n=ob (R53 p0 p1 p2 p3 n s) (K8 k)
 | 0,s=>by cases s<;>rfl
 | n+1,s=>by rw [el53];exact nt53 Ops.std p0 p1 p2 p3 _ _ some (K8 k) (rr53 p0 p1 p2 p3 k n) (some s)
def F53 (p0:L61) (p1:L65) (p2:L71) (p3:LB):Option (Int):=T53 Ops.std p0 p1 p2 p3 (R53 p0 p1 p2 p3 1000000) some none
def e53 {R:Type} (c:L61→L65→L71→LB→Option (Int)):Ent R:=fun args objs k=>
 oCons args fun a0 l0=>oAgg a0 fun x0=>cCons x0 fun z0_0 w0_0=>cList 61 ty61 z0_0 fun p0=>cCons w0_0 fun z0_1 w0_1=>cList 65 ty65 z0_1 fun p1=>cCons w0_1 fun z0_2 w0_2=>cList 71 ty71 z0_2 fun p2=>cNil w0_2 <| oS l0 fun p3 l1=>oE l1 objs <| ob (c p0 p1 p2 p3) (K8 k)
abbrev Sp53 (c:L61→L65→L71→LB→Option (Int)):Prop:=∀ (p0:L61) (p1:L65) (p2:L71) (p3:LB) (y:Int),c p0 p1 p2 p3=some y→Spec Tryz.prog gl0 53 [.agg [.list 61 ty61 p0,.list 65 ty65 p1,.list 71 ty71 p2],.c (.str p3)] [] (.c (.int .i64 y)) []
theorem ek53 {R:Type} {c:L61→L65→L71→LB→Option (Int)} (hs:Sp53 c):EOk 53 (e53 (R:=R) c):=fun args objs k r h=>by
 unfold e53 at h
 obtain ⟨a0,l0,rfl,q1⟩:=qak h
 obtain ⟨x0,rfl,q2⟩:=qav q1
 obtain ⟨z0_0,w0_0,rfl,q3⟩:=qaa q2
 obtain ⟨p0,rfl,q4⟩:=qac q3
 obtain ⟨z0_1,w0_1,rfl,q5⟩:=qaa q4
 obtain ⟨p1,rfl,q6⟩:=qac q5
 obtain ⟨z0_2,w0_2,rfl,q7⟩:=qaa q6
 obtain ⟨p2,rfl,q8⟩:=qac q7
 obtain ⟨rfl,q9⟩:=qaq q8
 obtain ⟨p3,l1,rfl,q12⟩:=qa9 q9
 obtain ⟨rfl,rfl,q14⟩:=qam q12
 exact qan (hs p0 p1 p2 p3) q14
theorem sf53:Sp53 (F53):=fun p0 p1 p2 p3 y hy=>by
 refine qai qah 1000000 (fn:=Tryz.f53) (by kernel_rfl) (by kernel_rfl) (X:=X53) (by kernel_rfl) ?_
 rw [eq53]
 exact (nt53 Ops.std p0 p1 p2 p3 _ _ some (K8 k0) (rr53 p0 p1 p2 p3 k0 1000000) none).trans (by show ob (F53 p0 p1 p2 p3) _=_;rw [hy];rfl)
noncomputable def M53:L61→L65→L71→LB→Option (Int):=F53
theorem sm53:Sp53 M53:=sf53
def X24:Aux:=⟨[(2,([0,3,4]++rg 6 49))],[(4,.lin (rg 0 31++[32,33,34,35,36,31,37,38,39,40]))]⟩
inductive S24 where
 | l0 (v1:Int)
abbrev C53:Type:=L61→L65→L71→LB→Option (Int)
abbrev C49:Type:=L61→L65→L71→LB→Option (Int)
abbrev C52:Type:=L61→L65→L71→Int→LB→Option (Int)
def T24 {R:Type} (B:Ops) (c53:C53) (c49:C49) (c52:C52) (c54:C54) (p0:L61) (p1:L65) (p2:L71) (p3:L118) (again:S24→Option R) (k:(Bool)→Option R):Option S24→Option R | none=>again (.l0 0) | some (.l0 v1)=>cond (B.lt v1 (↑p3.length)) (cond (B.inb v1 p3.length) (cond (B.eq ((p3.getD v1.toNat ty118.dflt).1) (2)) (cond (B.inb v1 p3.length) (ob (c53 p0 p1 p2 ((((p3.getD v1.toNat ty118.dflt).2).2).1)) fun y0=>cond (B.lt y0 (0)) (k false) (cond (B.inb v1 p3.length) (cond (B.eq ((p3.getD v1.toNat ty118.dflt).1) (3)) (cond (B.inb v1 p3.length) (cond (B.inb v1 p3.length) (ob (c49 p0 p1 p2 ((((p3.getD v1.toNat ty118.dflt).2).2).1)) fun y1=>ob (c52 p0 p1 p2 y1 ((((p3.getD v1.toNat ty118.dflt).2).2).2)) fun y2=>cond (B.lt y2 (0)) (k false) (again (.l0 (IntKind.wrap .i64 (v1+1))))) none) none) (again (.l0 (IntKind.wrap .i64 (v1+1))))) none)) none) (cond (B.inb v1 p3.length) (cond (B.eq ((p3.getD v1.toNat ty118.dflt).1) (3)) (cond (B.inb v1 p3.length) (cond (B.inb v1 p3.length) (ob (c49 p0 p1 p2 ((((p3.getD v1.toNat ty118.dflt).2).2).1)) fun y0=>ob (c52 p0 p1 p2 y0 ((((p3.getD v1.toNat ty118.dflt).2).2).2)) fun y1=>cond (B.lt y1 (0)) (k false) (again (.l0 (IntKind.wrap .i64 (v1+1))))) none) none) (again (.l0 (IntKind.wrap .i64 (v1+1))))) none)) none) (ob (c54 p3) fun y0=>k y0)
def E24 (p0:L61) (p1:L65) (p2:L71) (p3:L118):S24→List AV×Objs
 | .l0 v1=>(mk 55 [(1,.c (.list 118 ty118 p3)),(2,.c (.ptr 2 0)),(5,.c (.int .i64 v1))],[(2,.box 31 [.list 61 ty61 p0,.list 65 ty65 p1,.list 71 ty71 p2])])
def I24:S24→Nat
 | .l0 _=>0
theorem eq24 {R:Type} (B:Ops) (c53:C53) (c49:C49) (c52:C52) (c54:C54) (p0:L61) (p1:L65) (p2:L71) (p3:L118) (k:AV→Objs→Option R) (n:Nat):afun tau B gl0 X24 (ent 53 (e53 c53) (ent 49 (e49 c49) (ent 52 (e52 c52) (ent 54 (e54 c54) gnil)))) ow Tryz.f24 [.agg [.list 61 ty61 p0,.list 65 ty65 p1,.list 71 ty71 p2],.c (.list 118 ty118 p3)] [] k n=T24 B c53 c49 c52 c54 p0 p1 p2 p3 (fun s=>aloop tau B gl0 X24 (ent 53 (e53 c53) (ent 49 (e49 c49) (ent 52 (e52 c52) (ent 54 (e54 c54) gnil)))) ow [] Tryz.f24 k (I24 s) (E24 p0 p1 p2 p3 s) n) (K1 k) none:=by kernel_rfl
theorem el24 {R:Type} (B:Ops) (c53:C53) (c49:C49) (c52:C52) (c54:C54) (p0:L61) (p1:L65) (p2:L71) (p3:L118) (k:AV→Objs→Option R) (n:Nat):∀ s,aloop tau B gl0 X24 (ent 53 (e53 c53) (ent 49 (e49 c49) (ent 52 (e52 c52) (ent 54 (e54 c54) gnil)))) ow [] Tryz.f24 k (I24 s) (E24 p0 p1 p2 p3 s) (n+1)=T24 B c53 c49 c52 c54 p0 p1 p2 p3 (fun s=>aloop tau B gl0 X24 (ent 53 (e53 c53) (ent 49 (e49 c49) (ent 52 (e52 c52) (ent 54 (e54 c54) gnil)))) ow [] Tryz.f24 k (I24 s) (E24 p0 p1 p2 p3 s) n) (K1 k) (some s):=by
 intro s
 cases s<;>kernel_rfl
theorem nt24 {R R':Type} (B:Ops) (c53:C53) (c49:C49) (c52:C52) (c54:C54) (p0:L61) (p1:L65) (p2:L71) (p3:L118) (again:S24→Option R) (again':S24→Option R') (k0:(Bool)→Option R') (k:R'→Option R) (h:∀ s,again s=ob (again' s) k):∀ s,T24 B c53 c49 c52 c54 p0 p1 p2 p3 again (fun y=>ob (k0 y) k) s=ob (T24 B c53 c49 c52 c54 p0 p1 p2 p3 again' k0 s) k:=by
 rintro (_ | x)
 all_goals try cases x
 all_goals (unfold T24;repeat' first | exact rfl | exact h _ | apply qae | (apply qao;intro))
def R24 (c53:C53) (c49:C49) (c52:C52) (c54:C54) (p0:L61) (p1:L65) (p2:L71) (p3:L118):Nat→S24→Option (Bool)
 | 0,_=>none
 | n+1,s=>T24 Ops.std c53 c49 c52 c54 p0 p1 p2 p3 (R24 c53 c49 c52 c54 p0 p1 p2 p3 n) some (some s)
theorem rr24 {R:Type} (c53:C53) (c49:C49) (c52:C52) (c54:C54) (p0:L61) (p1:L65) (p2:L71) (p3:L118) (k:AV→Objs→Option R):∀ (n:Nat) (s:S24),aloop tau Ops.std gl0 X24 (ent 53 (e53 c53) (ent 49 (e49 c49) (ent 52 (e52 c52) (ent 54 (e54 c54) gnil)))) ow [] Tryz.f24 k (I24 s) (E24 p0 p1 p2 p3 s) n=ob (R24 c53 c49 c52 c54 p0 p1 p2 p3 n s) (K1 k)
 | 0,s=>by cases s<;>rfl
 | n+1,s=>by rw [el24];exact nt24 Ops.std c53 c49 c52 c54 p0 p1 p2 p3 _ _ some (K1 k) (rr24 c53 c49 c52 c54 p0 p1 p2 p3 k n) (some s)
def F24 (c53:C53) (c49:C49) (c52:C52) (c54:C54) (p0:L61) (p1:L65) (p2:L71) (p3:L118):Option (Bool):=T24 Ops.std c53 c49 c52 c54 p0 p1 p2 p3 (R24 c53 c49 c52 c54 p0 p1 p2 p3 1000000) some none
def e24 {R:Type} (c:L61→L65→L71→L118→Option (Bool)):Ent R:=fun args objs k=>
 oCons args fun a0 l0=>oAgg a0 fun x0=>cCons x0 fun z0_0 w0_0=>cList 61 ty61 z0_0 fun p0=>cCons w0_0 fun z0_1 w0_1=>cList 65 ty65 z0_1 fun p1=>cCons w0_1 fun z0_2 w0_2=>cList 71 ty71 z0_2 fun p2=>cNil w0_2 <| oL l0 118 ty118 fun p3 l1=>oE l1 objs <| ob (c p0 p1 p2 p3) (K1 k)
abbrev Sp24 (c:L61→L65→L71→L118→Option (Bool)):Prop:=∀ (p0:L61) (p1:L65) (p2:L71) (p3:L118) (y:Bool),c p0 p1 p2 p3=some y→Spec Tryz.prog gl0 24 [.agg [.list 61 ty61 p0,.list 65 ty65 p1,.list 71 ty71 p2],.c (.list 118 ty118 p3)] [] (.c (.bool y)) []
theorem ek24 {R:Type} {c:L61→L65→L71→L118→Option (Bool)} (hs:Sp24 c):EOk 24 (e24 (R:=R) c):=fun args objs k r h=>by
 unfold e24 at h
 obtain ⟨a0,l0,rfl,q1⟩:=qak h
 obtain ⟨x0,rfl,q2⟩:=qav q1
 obtain ⟨z0_0,w0_0,rfl,q3⟩:=qaa q2
 obtain ⟨p0,rfl,q4⟩:=qac q3
 obtain ⟨z0_1,w0_1,rfl,q5⟩:=qaa q4
 obtain ⟨p1,rfl,q6⟩:=qac q5
 obtain ⟨z0_2,w0_2,rfl,q7⟩:=qaa q6
 obtain ⟨p2,rfl,q8⟩:=qac q7
 obtain ⟨rfl,q9⟩:=qaq q8
 obtain ⟨p3,l1,rfl,q12⟩:=qa1 q9
 obtain ⟨rfl,rfl,q14⟩:=qam q12
 exact qan (hs p0 p1 p2 p3) q14
theorem sf24 {c53:C53} {c49:C49} {c52:C52} {c54:C54} (h53:Sp53 c53) (h49:Sp49 c49) (h52:Sp52 c52) (h54:Sp54 c54):Sp24 (F24 c53 c49 c52 c54):=fun p0 p1 p2 p3 y hy=>by
 refine qai (qad (ek53 h53) (qad (ek49 h49) (qad (ek52 h52) (qad (ek54 h54) qah)))) 1000000 (fn:=Tryz.f24) (by kernel_rfl) (by kernel_rfl) (X:=X24) (by kernel_rfl) ?_
 rw [eq24]
 exact (nt24 Ops.std c53 c49 c52 c54 p0 p1 p2 p3 _ _ some (K1 k0) (rr24 c53 c49 c52 c54 p0 p1 p2 p3 k0 1000000) none).trans (by show ob (F24 c53 c49 c52 c54 p0 p1 p2 p3) _=_;rw [hy];rfl)
noncomputable def M24:L61→L65→L71→L118→Option (Bool):=F24 M53 M49 M52 M54
theorem sm24:Sp24 M24:=sf24 sm53 sm49 sm52 sm54
end Go.Proofs.YtfdlgmbbflmbgaaGreatDoor.Av
