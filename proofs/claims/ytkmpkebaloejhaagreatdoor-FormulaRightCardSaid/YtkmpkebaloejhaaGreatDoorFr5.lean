/- Twins of functions,printed by gen.py. Conditions: none. -/
import Derived.Test.YtkmpkebaloejhaaGreatDoorFr4
import Derived.KernelRfl
set_option linter.unusedSimpArgs false
set_option linter.unusedVariables false
set_option maxRecDepth 100000
set_option maxHeartbeats 8000000
namespace Go.Proofs.YtkmpkebaloejhaaGreatDoor.Av
open Go
def X94:Aux:=⟨[(1000004,([2,3,4]++rg 6 111))],[(24,.lin ([0,5,1,2,3,4,6,7,8,9,10]))]⟩
inductive S94 where
 | l1004 (v1:Int) (v2:L3) (v3:Int)
def T94 {R:Type} (B:Ops) (c50:C50) (c94:C94) (p0:Int) (p1:L3) (p2:Int) (again:S94→Option R) (k:(LB×L3×Int)→Option R):Option S94→Option R | none=>ob (c50 20 p1 p2) fun y0=>cond (B.lt 3 p0) (cond (B.eq 6 0) none (again (.l1004 (IntKind.wrap .i64 (14+Int.tmod y0.1 6)) y0.2.1 y0.2.2))) (cond (B.lt 14 y0.2.2) (cond (B.eq 6 0) none (again (.l1004 (IntKind.wrap .i64 (14+Int.tmod y0.1 6)) y0.2.1 y0.2.2))) (again (.l1004 y0.1 y0.2.1 y0.2.2))) | some (.l1004 v1 v2 v3)=>cond (B.lt v1 10) (ob (c94 (IntKind.wrap .i64 (p0+1)) v2 v3) fun y0=>ob (c94 (IntKind.wrap .i64 (p0+1)) y0.2.1 y0.2.2) fun y1=>ob (c50 11 y1.2.1 y1.2.2) fun y2=>cond (B.inb y2.1 11) (ob (c50 2 y2.2.1 y2.2.2) fun y3=>cond (B.eq y3.1 0) (cond (B.lim (1+List.length y0.1) 1) (cond (B.lim (List.length (([40]:LB)++y0.1)+1) 1) (cond (B.lim (List.length (([40]:LB)++y0.1++([41]:LB))+List.length (List.getD (([43]:LB)::([45]:LB)::([42]:LB)::([60]:LB)::([60,61]:LB)::([61,61]:LB)::([33,61]:LB)::([38,38]:LB)::([124,124]:LB)::([62]:LB)::([62,61]:LB)::mt LB) (Int.toNat y2.1) (mt UInt8))) 1) (cond (B.lim (List.length (([40]:LB)++y0.1++([41]:LB)++List.getD (([43]:LB)::([45]:LB)::([42]:LB)::([60]:LB)::([60,61]:LB)::([61,61]:LB)::([33,61]:LB)::([38,38]:LB)::([124,124]:LB)::([62]:LB)::([62,61]:LB)::mt LB) (Int.toNat y2.1) (mt UInt8))+1) 1) (cond (B.lim (List.length (([40]:LB)++y0.1++([41]:LB)++List.getD (([43]:LB)::([45]:LB)::([42]:LB)::([60]:LB)::([60,61]:LB)::([61,61]:LB)::([33,61]:LB)::([38,38]:LB)::([124,124]:LB)::([62]:LB)::([62,61]:LB)::mt LB) (Int.toNat y2.1) (mt UInt8)++([40]:LB))+List.length y1.1) 1) (cond (B.lim (List.length (([40]:LB)++y0.1++([41]:LB)++List.getD (([43]:LB)::([45]:LB)::([42]:LB)::([60]:LB)::([60,61]:LB)::([61,61]:LB)::([33,61]:LB)::([38,38]:LB)::([124,124]:LB)::([62]:LB)::([62,61]:LB)::mt LB) (Int.toNat y2.1) (mt UInt8)++([40]:LB)++y1.1)+1) 1) (k ((([40]:LB)++y0.1++([41]:LB)++List.getD (([43]:LB)::([45]:LB)::([42]:LB)::([60]:LB)::([60,61]:LB)::([61,61]:LB)::([33,61]:LB)::([38,38]:LB)::([124,124]:LB)::([62]:LB)::([62,61]:LB)::mt LB) (Int.toNat y2.1) (mt UInt8)++([40]:LB)++y1.1++([41]:LB),y3.2.1,y3.2.2))) none) none) none) none) none) none) (cond (B.lim (1+List.length y0.1) 1) (cond (B.lim (List.length (([40]:LB)++y0.1)+1) 1) (cond (B.lim (List.length (([40]:LB)++y0.1++([32]:LB))+List.length (List.getD (([43]:LB)::([45]:LB)::([42]:LB)::([60]:LB)::([60,61]:LB)::([61,61]:LB)::([33,61]:LB)::([38,38]:LB)::([124,124]:LB)::([62]:LB)::([62,61]:LB)::mt LB) (Int.toNat y2.1) (mt UInt8))) 1) (cond (B.lim (List.length (([40]:LB)++y0.1++([32]:LB)++List.getD (([43]:LB)::([45]:LB)::([42]:LB)::([60]:LB)::([60,61]:LB)::([61,61]:LB)::([33,61]:LB)::([38,38]:LB)::([124,124]:LB)::([62]:LB)::([62,61]:LB)::mt LB) (Int.toNat y2.1) (mt UInt8))+1) 1) (cond (B.lim (List.length (([40]:LB)++y0.1++([32]:LB)++List.getD (([43]:LB)::([45]:LB)::([42]:LB)::([60]:LB)::([60,61]:LB)::([61,61]:LB)::([33,61]:LB)::([38,38]:LB)::([124,124]:LB)::([62]:LB)::([62,61]:LB)::mt LB) (Int.toNat y2.1) (mt UInt8)++([32]:LB))+List.length y1.1) 1) (cond (B.lim (List.length (([40]:LB)++y0.1++([32]:LB)++List.getD (([43]:LB)::([45]:LB)::([42]:LB)::([60]:LB)::([60,61]:LB)::([61,61]:LB)::([33,61]:LB)::([38,38]:LB)::([124,124]:LB)::([62]:LB)::([62,61]:LB)::mt LB) (Int.toNat y2.1) (mt UInt8)++([32]:LB)++y1.1)+1) 1) (k ((([40]:LB)++y0.1++([32]:LB)++List.getD (([43]:LB)::([45]:LB)::([42]:LB)::([60]:LB)::([60,61]:LB)::([61,61]:LB)::([33,61]:LB)::([38,38]:LB)::([124,124]:LB)::([62]:LB)::([62,61]:LB)::mt LB) (Int.toNat y2.1) (mt UInt8)++([32]:LB)++y1.1++([41]:LB),y3.2.1,y3.2.2))) none) none) none) none) none) none)) none) (cond (B.eq v1 10) (ob (c94 (IntKind.wrap .i64 (p0+1)) v2 v3) fun y0=>cond (B.lim (2+List.length y0.1) 1) (cond (B.lim (List.length (([33,40]:LB)++y0.1)+1) 1) (k ((([33,40]:LB)++y0.1++([41]:LB),y0.2.1,y0.2.2))) none) none) (cond (B.eq v1 11) (ob (c94 (IntKind.wrap .i64 (p0+1)) v2 v3) fun y0=>cond (B.lim (2+List.length y0.1) 1) (cond (B.lim (List.length (([45,40]:LB)++y0.1)+1) 1) (k ((([45,40]:LB)++y0.1++([41]:LB),y0.2.1,y0.2.2))) none) none) (cond (B.eq v1 12) (ob (c94 (IntKind.wrap .i64 (p0+1)) v2 v3) fun y0=>cond (B.lim (List.length y0.1+1) 1) (ob (c94 (IntKind.wrap .i64 (p0+1)) y0.2.1 y0.2.2) fun y1=>cond (B.lim (List.length (y0.1++([43]:LB))+List.length y1.1) 1) (k ((y0.1++([43]:LB)++y1.1,y1.2.1,y1.2.2))) none) none) (cond (B.eq v1 13) (ob (c94 (IntKind.wrap .i64 (p0+1)) v2 v3) fun y0=>cond (B.lim (2+List.length y0.1) 1) (k ((([33,33]:LB)++y0.1,y0.2.1,y0.2.2))) none) (cond (B.eq v1 14) (ob (c50 4 v2 v3) fun y0=>cond (B.inb y0.1 4) (k ((List.getD (([48]:LB)::([49]:LB)::([50]:LB)::([48,48,55]:LB)::mt LB) (Int.toNat y0.1) (mt UInt8),y0.2.1,y0.2.2))) none) (cond (B.eq v1 15) (ob (c50 4 v2 v3) fun y0=>cond (B.inb y0.1 4) (k ((List.getD (([48]:LB)::([49]:LB)::([50]:LB)::([48,48,55]:LB)::mt LB) (Int.toNat y0.1) (mt UInt8),y0.2.1,y0.2.2))) none) (cond (B.eq v1 16) (ob (c50 2 v2 v3) fun y0=>cond (B.inb y0.1 3) (cond (B.lim (List.length (List.getD ((112::mt UInt8)::(113::mt UInt8)::(114::mt UInt8)::mt LB) (Int.toNat y0.1) (mt UInt8))+1) 1) (ob (c50 3 y0.2.1 y0.2.2) fun y1=>cond (B.inb y1.1 4) (cond (B.lim (List.length (List.getD ((112::mt UInt8)::(113::mt UInt8)::(114::mt UInt8)::mt LB) (Int.toNat y0.1) (mt UInt8)++([64]:LB))+List.length (List.getD ((97::mt UInt8)::(98::mt UInt8)::(99::mt UInt8)::(100::mt UInt8)::mt LB) (Int.toNat y1.1) (mt UInt8))) 1) (k ((List.getD ((112::mt UInt8)::(113::mt UInt8)::(114::mt UInt8)::mt LB) (Int.toNat y0.1) (mt UInt8)++([64]:LB)++List.getD ((97::mt UInt8)::(98::mt UInt8)::(99::mt UInt8)::(100::mt UInt8)::mt LB) (Int.toNat y1.1) (mt UInt8),y1.2.1,y1.2.2))) none) none) none) none) (ob (c50 2 v2 v3) fun y0=>cond (B.inb y0.1 3) (k ((List.getD ((120::mt UInt8)::(121::mt UInt8)::(122::mt UInt8)::mt LB) (Int.toNat y0.1) (mt UInt8),y0.2.1,y0.2.2))) none))))))))
def E94 (p0:Int) (p1:L3) (p2:Int):S94→List AV×Objs
 | .l1004 v1 v2 v3=>(mk 117 [(0,.c (.ptr 0 0)),(1,.c (.int .i64 p0)),(5,.c (.int .i64 v1))],[(0,.box 56 [.list 3 ty3 v2,.int .i64 v3])])
def I94:S94→Nat
 | .l1004 _ _ _=>1004
noncomputable abbrev A94 {R:Type} (B:Ops) (c50:C50) (c94:C94) (p0:Int) (p1:L3) (p2:Int) (k:AV→Objs→Option R) (s:S94) (n:Nat):Option R:=aloop tau B gl0 X94 (ent 50 (e50 c50) (ent 94 (e94 c94) gnil)) ow [0] Tryz.f94 k (I94 s) (E94 p0 p1 p2 s) n
theorem eq94 {R:Type} (B:Ops) (c50:C50) (c94:C94) (p0:Int) (p1:L3) (p2:Int) (k:AV→Objs→Option R) (n:Nat):afun tau B gl0 X94 (ent 50 (e50 c50) (ent 94 (e94 c94) gnil)) ow Tryz.f94 [.c (.ptr 0 0),.c (.int .i64 p0)] [(0,.box 56 [.list 3 ty3 p1,.int .i64 p2])] k n=T94 B c50 c94 p0 p1 p2 (fun s=>A94 B c50 c94 p0 p1 p2 k s n) (K32 k) none:=by kernel_rfl
theorem el94 {R:Type} (B:Ops) (c50:C50) (c94:C94) (p0:Int) (p1:L3) (p2:Int) (k:AV→Objs→Option R) (n:Nat):∀ s,A94 B c50 c94 p0 p1 p2 k s (n+1)=T94 B c50 c94 p0 p1 p2 (fun s=>A94 B c50 c94 p0 p1 p2 k s n) (K32 k) (some s):=by
 intro s
 cases s<;>kernel_rfl
theorem nt94 {R R':Type} (B:Ops) (c50:C50) (c94:C94) (p0:Int) (p1:L3) (p2:Int) (again:S94→Option R) (again':S94→Option R') (k0:(LB×L3×Int)→Option R') (k:R'→Option R) (h:∀ s,again s=ob (again' s) k):∀ s,T94 B c50 c94 p0 p1 p2 again (fun y=>ob (k0 y) k) s=ob (T94 B c50 c94 p0 p1 p2 again' k0 s) k:=by
 rintro (_ | x)
 all_goals try cases x
 all_goals (unfold T94;repeat' first | exact rfl | exact h _ | apply qac | (apply qai;intro))
def R94 (c50:C50) (c94:C94) (p0:Int) (p1:L3) (p2:Int):Nat→S94→Option (LB×L3×Int)
 | 0,_=>none
 | n+1,s=>T94 Ops.std c50 c94 p0 p1 p2 (R94 c50 c94 p0 p1 p2 n) some (some s)
theorem rr94 {R:Type} (c50:C50) (c94:C94) (p0:Int) (p1:L3) (p2:Int) (k:AV→Objs→Option R):∀ (n:Nat) (s:S94),A94 Ops.std c50 c94 p0 p1 p2 k s n=ob (R94 c50 c94 p0 p1 p2 n s) (K32 k)
 | 0,s=>by cases s<;>rfl
 | n+1,s=>by rw [el94];exact nt94 Ops.std c50 c94 p0 p1 p2 _ _ some (K32 k) (rr94 c50 c94 p0 p1 p2 k n) (some s)
def F94 (c50:C50) (c94:C94) (p0:Int) (p1:L3) (p2:Int):Option (LB×L3×Int):=T94 Ops.std c50 c94 p0 p1 p2 (R94 c50 c94 p0 p1 p2 1000000) some none
theorem sf94 {c50:C50} {c94:C94} (h50:Sp50 c50) (h94:Sp94 c94):Sp94 (F94 c50 c94):=fun p0 p1 p2 y hy=>by
 refine qae (qab (ek50 h50) (qab (ek94 h94) qad)) 1000000 (fn:=Tryz.f94) (by kernel_rfl) (by kernel_rfl) (X:=X94) (by kernel_rfl) ?_
 rw [eq94]
 exact (nt94 Ops.std c50 c94 p0 p1 p2 _ _ some (K32 k0) (rr94 c50 c94 p0 p1 p2 k0 1000000) none).trans (by show ob (F94 c50 c94 p0 p1 p2) _=_;rw [hy];rfl)
noncomputable def Rec94:Nat→(Int→L3→Int→Option (LB×L3×Int))
 | 0=>fun _ _ _=>none
 | d+1=>F94 M50 (Rec94 d)
theorem rec94:∀ d,Sp94 (Rec94 d)
 | 0=>fun p0 p1 p2 y (h:(none:Option (LB×L3×Int))=some y)=>by cases h
 | d+1=>sf94 sm50 (rec94 d)
noncomputable def M94:C94:=(Rec94 1000000)
theorem sm94:Sp94 M94:=(rec94 1000000)
def X95:Aux:=⟨[],[(2,.lin (rg 0 10++[14,10,11,12,13,15,16,17]))]⟩
def T95 {R:Type} (B:Ops) (c50:C50) (p0:L3) (p1:Int) (k:(LB×L3×Int)→Option R):Option R:=ob (c50 2 p0 p1) fun y0=>cond (B.inb y0.1 3) (cond (B.lim (2+List.length (List.getD ((120::mt UInt8)::(121::mt UInt8)::(122::mt UInt8)::mt LB) (Int.toNat y0.1) (mt UInt8))) 1) (cond (B.lim (List.length (List.getD ((120::mt UInt8)::(121::mt UInt8)::(122::mt UInt8)::mt LB) (Int.toNat y0.1) (mt UInt8))+2) 1) (cond (B.lim (List.length (List.getD ((120::mt UInt8)::(121::mt UInt8)::(122::mt UInt8)::mt LB) (Int.toNat y0.1) (mt UInt8))+2) 1) (cond (B.lim (2+List.length (List.getD ((120::mt UInt8)::(121::mt UInt8)::(122::mt UInt8)::mt LB) (Int.toNat y0.1) (mt UInt8))) 1) (ob (c50 2 y0.2.1 y0.2.2) fun y1=>cond (B.inb y1.1 3) (ob (c50 8 y1.2.1 y1.2.2) fun y2=>cond (B.inb y2.1 8) (k ((List.getD (([48]:LB)::([49]:LB)::List.getD ((120::mt UInt8)::(121::mt UInt8)::(122::mt UInt8)::mt LB) (Int.toNat y0.1) (mt UInt8)::(([49,45]:LB)++List.getD ((120::mt UInt8)::(121::mt UInt8)::(122::mt UInt8)::mt LB) (Int.toNat y0.1) (mt UInt8))::(List.getD ((120::mt UInt8)::(121::mt UInt8)::(122::mt UInt8)::mt LB) (Int.toNat y0.1) (mt UInt8)++([43,49]:LB))::(List.getD ((120::mt UInt8)::(121::mt UInt8)::(122::mt UInt8)::mt LB) (Int.toNat y0.1) (mt UInt8)++([45,49]:LB))::(([50,45]:LB)++List.getD ((120::mt UInt8)::(121::mt UInt8)::(122::mt UInt8)::mt LB) (Int.toNat y0.1) (mt UInt8))::List.getD ((120::mt UInt8)::(121::mt UInt8)::(122::mt UInt8)::mt LB) (Int.toNat y1.1) (mt UInt8)::mt LB) (Int.toNat y2.1) (mt UInt8),y2.2.1,y2.2.2))) none) none) none) none) none) none) none
theorem eq95 {R:Type} (B:Ops) (c50:C50) (p0:L3) (p1:Int) (k:AV→Objs→Option R) (n:Nat):afun tau B gl0 X95 (ent 50 (e50 c50) gnil) ow Tryz.f95 [.c (.ptr 0 0)] [(0,.box 56 [.list 3 ty3 p0,.int .i64 p1])] k n=T95 B c50 p0 p1 (K32 k):=by kernel_rfl
theorem nt95 {R R':Type} (B:Ops) (c50:C50) (p0:L3) (p1:Int) (k0:(LB×L3×Int)→Option R') (k:R'→Option R):T95 B c50 p0 p1 (fun y=>ob (k0 y) k)=ob (T95 B c50 p0 p1 k0) k:=by
 unfold T95
 repeat' first | exact rfl | apply qac | (apply qai;intro)
def F95 (c50:C50) (p0:L3) (p1:Int):Option (LB×L3×Int):=T95 Ops.std c50 p0 p1 some
abbrev C95:Type:=L3→Int→Option (LB×L3×Int)
def e95 {R:Type} (c:C95):Ent R:=eG [.aC (.cP 0)] [.oB 0 56 [.cL 3 ty3,.cI .i64]] fun v k=>ob (c v.1 v.2.1) (K32 k)
abbrev Sp95 (c:C95):Prop:=∀ (p0:L3) (p1:Int) (y:LB×L3×Int),c p0 p1=some y→Spec Tryz.prog gl0 95 [.c (.ptr 0 0)] [(0,.box 56 [.list 3 ty3 p0,.int .i64 p1])] (.c (.str y.1)) [(0,.box 56 [.list 3 ty3 y.2.1,.int .i64 y.2.2])]
theorem ek95 {R:Type} {c:C95} (hs:Sp95 c):EOk 95 (e95 (R:=R) c):=qak fun v=>hs v.1 v.2.1
theorem sf95 {c50:C50} (h50:Sp50 c50):Sp95 (F95 c50):=fun p0 p1 y hy=>by
 refine qae (qab (ek50 h50) qad) 1000000 (fn:=Tryz.f95) (by kernel_rfl) (by kernel_rfl) (X:=X95) (by kernel_rfl) ?_
 rw [eq95]
 exact (nt95 Ops.std c50 p0 p1 some (K32 k0)).trans (by show ob (F95 c50 p0 p1) _=_;rw [hy];rfl)
noncomputable def M95:C95:=F95 M50
theorem sm95:Sp95 M95:=sf95 sm50
def X58:Aux:=⟨[(9,([0,1,2,3,4,7]++rg 10 84))],[(2,.lin ([0,1,6,12,18,19,2,3,4,5,7,8,9,10,11,13,14,15,16,17,20,21,22,23,24])),(14,.lin ([0,1,2,3,4,5,6,13,7,8,9,10,11,12,14,15,16]))]⟩
inductive S58 where
 | l0 (v0:LB) (v1 v2:Int) (v3:L3) (v4:Int)
def T58 {R:Type} (B:Ops) (c50:C50) (c93:C93) (c94:C94) (c95:C95) (p0:L3) (p1:Int) (again:S58→Option R) (k:(LB)→Option R):Option S58→Option R | none=>ob (c50 p1 p0 0) fun y0=>cond (B.inb y0.1 3) (cond (B.lim (List.length (List.getD ((112::mt UInt8)::(113::mt UInt8)::(114::mt UInt8)::mt LB) (Int.toNat y0.1) (mt UInt8))+1) 1) (ob (c50 3 y0.2.1 y0.2.2) fun y1=>cond (B.inb y1.1 4) (cond (B.lim (List.length (List.getD ((112::mt UInt8)::(113::mt UInt8)::(114::mt UInt8)::mt LB) (Int.toNat y0.1) (mt UInt8)++([32]:LB))+List.length (List.getD ((97::mt UInt8)::(98::mt UInt8)::(99::mt UInt8)::(100::mt UInt8)::mt LB) (Int.toNat y1.1) (mt UInt8))) 1) (cond (B.lim (List.length (List.getD ((112::mt UInt8)::(113::mt UInt8)::(114::mt UInt8)::mt LB) (Int.toNat y0.1) (mt UInt8)++([32]:LB)++List.getD ((97::mt UInt8)::(98::mt UInt8)::(99::mt UInt8)::(100::mt UInt8)::mt LB) (Int.toNat y1.1) (mt UInt8))+1) 1) (ob (c50 3 y1.2.1 y1.2.2) fun y2=>cond (B.inb y2.1 4) (cond (B.lim (List.length (List.getD ((112::mt UInt8)::(113::mt UInt8)::(114::mt UInt8)::mt LB) (Int.toNat y0.1) (mt UInt8)++([32]:LB)++List.getD ((97::mt UInt8)::(98::mt UInt8)::(99::mt UInt8)::(100::mt UInt8)::mt LB) (Int.toNat y1.1) (mt UInt8)++([32]:LB))+List.length (List.getD ((97::mt UInt8)::(98::mt UInt8)::(99::mt UInt8)::(100::mt UInt8)::mt LB) (Int.toNat y2.1) (mt UInt8))) 1) (cond (B.lim (List.length (List.getD ((112::mt UInt8)::(113::mt UInt8)::(114::mt UInt8)::mt LB) (Int.toNat y0.1) (mt UInt8)++([32]:LB)++List.getD ((97::mt UInt8)::(98::mt UInt8)::(99::mt UInt8)::(100::mt UInt8)::mt LB) (Int.toNat y1.1) (mt UInt8)++([32]:LB)++List.getD ((97::mt UInt8)::(98::mt UInt8)::(99::mt UInt8)::(100::mt UInt8)::mt LB) (Int.toNat y2.1) (mt UInt8))+1) 1) (ob (c50 8 y2.2.1 y2.2.2) fun y3=>cond (B.inb y3.1 8) (cond (B.lim (List.length (List.getD ((112::mt UInt8)::(113::mt UInt8)::(114::mt UInt8)::mt LB) (Int.toNat y0.1) (mt UInt8)++([32]:LB)++List.getD ((97::mt UInt8)::(98::mt UInt8)::(99::mt UInt8)::(100::mt UInt8)::mt LB) (Int.toNat y1.1) (mt UInt8)++([32]:LB)++List.getD ((97::mt UInt8)::(98::mt UInt8)::(99::mt UInt8)::(100::mt UInt8)::mt LB) (Int.toNat y2.1) (mt UInt8)++([32]:LB))+List.length (List.getD (([45]:LB)::([45]:LB)::([45]:LB)::([45]:LB)::([99,33]:LB)::([99,63]:LB)::([100,33]:LB)::([99,63]:LB)::mt LB) (Int.toNat y3.1) (mt UInt8))) 1) (cond (B.lim (List.length (List.getD ((112::mt UInt8)::(113::mt UInt8)::(114::mt UInt8)::mt LB) (Int.toNat y0.1) (mt UInt8)++([32]:LB)++List.getD ((97::mt UInt8)::(98::mt UInt8)::(99::mt UInt8)::(100::mt UInt8)::mt LB) (Int.toNat y1.1) (mt UInt8)++([32]:LB)++List.getD ((97::mt UInt8)::(98::mt UInt8)::(99::mt UInt8)::(100::mt UInt8)::mt LB) (Int.toNat y2.1) (mt UInt8)++([32]:LB)++List.getD (([45]:LB)::([45]:LB)::([45]:LB)::([45]:LB)::([99,33]:LB)::([99,63]:LB)::([100,33]:LB)::([99,63]:LB)::mt LB) (Int.toNat y3.1) (mt UInt8))+1) 1) (ob (c93 y3.2.1 y3.2.2) fun y4=>ob (c50 9 y4.2.1 y4.2.2) fun y5=>cond (B.eq y5.1 8) (ob (c94 2 y5.2.1 y5.2.2) fun y6=>cond (B.lim (List.length (List.getD ((112::mt UInt8)::(113::mt UInt8)::(114::mt UInt8)::mt LB) (Int.toNat y0.1) (mt UInt8)++([32]:LB)++List.getD ((97::mt UInt8)::(98::mt UInt8)::(99::mt UInt8)::(100::mt UInt8)::mt LB) (Int.toNat y1.1) (mt UInt8)++([32]:LB)++List.getD ((97::mt UInt8)::(98::mt UInt8)::(99::mt UInt8)::(100::mt UInt8)::mt LB) (Int.toNat y2.1) (mt UInt8)++([32]:LB)++List.getD (([45]:LB)::([45]:LB)::([45]:LB)::([45]:LB)::([99,33]:LB)::([99,63]:LB)::([100,33]:LB)::([99,63]:LB)::mt LB) (Int.toNat y3.1) (mt UInt8)++([32]:LB))+List.length y6.1) 1) (ob (c50 4 y6.2.1 y6.2.2) fun y7=>cond (B.inb y7.1 4) (again (.l0 (List.getD ((112::mt UInt8)::(113::mt UInt8)::(114::mt UInt8)::mt LB) (Int.toNat y0.1) (mt UInt8)++([32]:LB)++List.getD ((97::mt UInt8)::(98::mt UInt8)::(99::mt UInt8)::(100::mt UInt8)::mt LB) (Int.toNat y1.1) (mt UInt8)++([32]:LB)++List.getD ((97::mt UInt8)::(98::mt UInt8)::(99::mt UInt8)::(100::mt UInt8)::mt LB) (Int.toNat y2.1) (mt UInt8)++([32]:LB)++List.getD (([45]:LB)::([45]:LB)::([45]:LB)::([45]:LB)::([99,33]:LB)::([99,63]:LB)::([100,33]:LB)::([99,63]:LB)::mt LB) (Int.toNat y3.1) (mt UInt8)++([32]:LB)++y6.1) (List.getD (0::1::1::2::mt Int) (Int.toNat y7.1) 0) 0 y7.2.1 y7.2.2)) none) none) (cond (B.lim (List.length (List.getD ((112::mt UInt8)::(113::mt UInt8)::(114::mt UInt8)::mt LB) (Int.toNat y0.1) (mt UInt8)++([32]:LB)++List.getD ((97::mt UInt8)::(98::mt UInt8)::(99::mt UInt8)::(100::mt UInt8)::mt LB) (Int.toNat y1.1) (mt UInt8)++([32]:LB)++List.getD ((97::mt UInt8)::(98::mt UInt8)::(99::mt UInt8)::(100::mt UInt8)::mt LB) (Int.toNat y2.1) (mt UInt8)++([32]:LB)++List.getD (([45]:LB)::([45]:LB)::([45]:LB)::([45]:LB)::([99,33]:LB)::([99,63]:LB)::([100,33]:LB)::([99,63]:LB)::mt LB) (Int.toNat y3.1) (mt UInt8)++([32]:LB))+List.length y4.1) 1) (ob (c50 4 y5.2.1 y5.2.2) fun y6=>cond (B.inb y6.1 4) (again (.l0 (List.getD ((112::mt UInt8)::(113::mt UInt8)::(114::mt UInt8)::mt LB) (Int.toNat y0.1) (mt UInt8)++([32]:LB)++List.getD ((97::mt UInt8)::(98::mt UInt8)::(99::mt UInt8)::(100::mt UInt8)::mt LB) (Int.toNat y1.1) (mt UInt8)++([32]:LB)++List.getD ((97::mt UInt8)::(98::mt UInt8)::(99::mt UInt8)::(100::mt UInt8)::mt LB) (Int.toNat y2.1) (mt UInt8)++([32]:LB)++List.getD (([45]:LB)::([45]:LB)::([45]:LB)::([45]:LB)::([99,33]:LB)::([99,63]:LB)::([100,33]:LB)::([99,63]:LB)::mt LB) (Int.toNat y3.1) (mt UInt8)++([32]:LB)++y4.1) (List.getD (0::1::1::2::mt Int) (Int.toNat y6.1) 0) 0 y6.2.1 y6.2.2)) none) none)) none) none) none) none) none) none) none) none) none) none) none | some (.l0 v0 v1 v2 v3 v4)=>cond (B.lt v2 v1) (ob (c50 2 v3 v4) fun y0=>cond (B.inb y0.1 3) (ob (c95 y0.2.1 y0.2.2) fun y1=>ob (c50 6 y1.2.1 y1.2.2) fun y2=>cond (B.eq y2.1 0) (cond (B.lim (List.length v0+3) 1) (cond (B.lim (List.length (v0++([32,59,32]:LB))+List.length (List.getD ((120::mt UInt8)::(121::mt UInt8)::(122::mt UInt8)::mt LB) (Int.toNat y0.1) (mt UInt8))) 1) (cond (B.lim (List.length (v0++([32,59,32]:LB)++List.getD ((120::mt UInt8)::(121::mt UInt8)::(122::mt UInt8)::mt LB) (Int.toNat y0.1) (mt UInt8))+3) 1) (cond (B.lim (List.length (v0++([32,59,32]:LB)++List.getD ((120::mt UInt8)::(121::mt UInt8)::(122::mt UInt8)::mt LB) (Int.toNat y0.1) (mt UInt8)++([32,61,32]:LB))+List.length y1.1) 1) (again (.l0 (v0++([32,59,32]:LB)++List.getD ((120::mt UInt8)::(121::mt UInt8)::(122::mt UInt8)::mt LB) (Int.toNat y0.1) (mt UInt8)++([32,61,32]:LB)++y1.1) v1 (IntKind.wrap .i64 (v2+1)) y2.2.1 y2.2.2)) none) none) none) none) (cond (B.eq y2.1 1) (cond (B.lim (List.length v0+3) 1) (cond (B.lim (List.length (v0++([32,59,32]:LB))+List.length (List.getD ((120::mt UInt8)::(121::mt UInt8)::(122::mt UInt8)::mt LB) (Int.toNat y0.1) (mt UInt8))) 1) (cond (B.lim (List.length (v0++([32,59,32]:LB)++List.getD ((120::mt UInt8)::(121::mt UInt8)::(122::mt UInt8)::mt LB) (Int.toNat y0.1) (mt UInt8))+3) 1) (cond (B.lim (List.length (v0++([32,59,32]:LB)++List.getD ((120::mt UInt8)::(121::mt UInt8)::(122::mt UInt8)::mt LB) (Int.toNat y0.1) (mt UInt8)++([32,61,32]:LB))+1) 1) (again (.l0 (v0++([32,59,32]:LB)++List.getD ((120::mt UInt8)::(121::mt UInt8)::(122::mt UInt8)::mt LB) (Int.toNat y0.1) (mt UInt8)++([32,61,32]:LB)++([48]:LB)) v1 (IntKind.wrap .i64 (v2+1)) y2.2.1 y2.2.2)) none) none) none) none) (cond (B.lim (3+List.length (List.getD ((120::mt UInt8)::(121::mt UInt8)::(122::mt UInt8)::mt LB) (Int.toNat y0.1) (mt UInt8))) 1) (cond (B.lim (List.length (([49,45,40]:LB)++List.getD ((120::mt UInt8)::(121::mt UInt8)::(122::mt UInt8)::mt LB) (Int.toNat y0.1) (mt UInt8))+4) 1) (cond (B.lim (1+List.length (List.getD ((120::mt UInt8)::(121::mt UInt8)::(122::mt UInt8)::mt LB) (Int.toNat y0.1) (mt UInt8))) 1) (cond (B.lim (List.length (([40]:LB)++List.getD ((120::mt UInt8)::(121::mt UInt8)::(122::mt UInt8)::mt LB) (Int.toNat y0.1) (mt UInt8))+3) 1) (ob (c50 2 y2.2.1 y2.2.2) fun y3=>cond (B.inb y3.1 3) (cond (B.lim (1+List.length (List.getD ((120::mt UInt8)::(121::mt UInt8)::(122::mt UInt8)::mt LB) (Int.toNat y3.1) (mt UInt8))) 1) (cond (B.lim (List.length (([40]:LB)++List.getD ((120::mt UInt8)::(121::mt UInt8)::(122::mt UInt8)::mt LB) (Int.toNat y3.1) (mt UInt8))+4) 1) (ob (c50 3 y3.2.1 y3.2.2) fun y4=>cond (B.inb y4.1 3) (cond (B.lim (List.length v0+3) 1) (cond (B.lim (List.length (v0++([32,59,32]:LB))+List.length (List.getD ((120::mt UInt8)::(121::mt UInt8)::(122::mt UInt8)::mt LB) (Int.toNat y0.1) (mt UInt8))) 1) (cond (B.lim (List.length (v0++([32,59,32]:LB)++List.getD ((120::mt UInt8)::(121::mt UInt8)::(122::mt UInt8)::mt LB) (Int.toNat y0.1) (mt UInt8))+3) 1) (cond (B.lim (List.length (v0++([32,59,32]:LB)++List.getD ((120::mt UInt8)::(121::mt UInt8)::(122::mt UInt8)::mt LB) (Int.toNat y0.1) (mt UInt8)++([32,61,32]:LB))+List.length (List.getD ((([49,45,40]:LB)++List.getD ((120::mt UInt8)::(121::mt UInt8)::(122::mt UInt8)::mt LB) (Int.toNat y0.1) (mt UInt8)++([61,61,49,41]:LB))::(([40]:LB)++List.getD ((120::mt UInt8)::(121::mt UInt8)::(122::mt UInt8)::mt LB) (Int.toNat y0.1) (mt UInt8)++([60,49,41]:LB))::(([40]:LB)++List.getD ((120::mt UInt8)::(121::mt UInt8)::(122::mt UInt8)::mt LB) (Int.toNat y3.1) (mt UInt8)++([61,61,48,41]:LB))::mt LB) (Int.toNat y4.1) (mt UInt8))) 1) (again (.l0 (v0++([32,59,32]:LB)++List.getD ((120::mt UInt8)::(121::mt UInt8)::(122::mt UInt8)::mt LB) (Int.toNat y0.1) (mt UInt8)++([32,61,32]:LB)++List.getD ((([49,45,40]:LB)++List.getD ((120::mt UInt8)::(121::mt UInt8)::(122::mt UInt8)::mt LB) (Int.toNat y0.1) (mt UInt8)++([61,61,49,41]:LB))::(([40]:LB)++List.getD ((120::mt UInt8)::(121::mt UInt8)::(122::mt UInt8)::mt LB) (Int.toNat y0.1) (mt UInt8)++([60,49,41]:LB))::(([40]:LB)++List.getD ((120::mt UInt8)::(121::mt UInt8)::(122::mt UInt8)::mt LB) (Int.toNat y3.1) (mt UInt8)++([61,61,48,41]:LB))::mt LB) (Int.toNat y4.1) (mt UInt8)) v1 (IntKind.wrap .i64 (v2+1)) y4.2.1 y4.2.2)) none) none) none) none) none) none) none) none) none) none) none) none))) none) (k v0)
def E58 (p0:L3) (p1:Int):S58→List AV×Objs
 | .l0 v0 v1 v2 v3 v4=>(mk 94 [(5,.c (.ptr 5 0)),(6,.c (.str v0)),(8,.c (.int .i64 v1)),(9,.c (.int .i64 v2))],[(5,.box 56 [.list 3 ty3 v3,.int .i64 v4])])
def I58:S58→Nat
 | .l0 _ _ _ _ _=>0
noncomputable abbrev A58 {R:Type} (B:Ops) (c50:C50) (c93:C93) (c94:C94) (c95:C95) (p0:L3) (p1:Int) (k:AV→Objs→Option R) (s:S58) (n:Nat):Option R:=aloop tau B gl0 X58 (ent 50 (e50 c50) (ent 93 (e93 c93) (ent 94 (e94 c94) (ent 95 (e95 c95) gnil)))) ow [] Tryz.f58 k (I58 s) (E58 p0 p1 s) n
theorem eq58 {R:Type} (B:Ops) (c50:C50) (c93:C93) (c94:C94) (c95:C95) (p0:L3) (p1:Int) (k:AV→Objs→Option R) (n:Nat):afun tau B gl0 X58 (ent 50 (e50 c50) (ent 93 (e93 c93) (ent 94 (e94 c94) (ent 95 (e95 c95) gnil)))) ow Tryz.f58 [.c (.list 3 ty3 p0),.c (.int .i64 p1)] [] k n=T58 B c50 c93 c94 c95 p0 p1 (fun s=>A58 B c50 c93 c94 c95 p0 p1 k s n) (K3 k) none:=by kernel_rfl
theorem el58 {R:Type} (B:Ops) (c50:C50) (c93:C93) (c94:C94) (c95:C95) (p0:L3) (p1:Int) (k:AV→Objs→Option R) (n:Nat):∀ s,A58 B c50 c93 c94 c95 p0 p1 k s (n+1)=T58 B c50 c93 c94 c95 p0 p1 (fun s=>A58 B c50 c93 c94 c95 p0 p1 k s n) (K3 k) (some s):=by
 intro s
 cases s<;>kernel_rfl
theorem nt58 {R R':Type} (B:Ops) (c50:C50) (c93:C93) (c94:C94) (c95:C95) (p0:L3) (p1:Int) (again:S58→Option R) (again':S58→Option R') (k0:(LB)→Option R') (k:R'→Option R) (h:∀ s,again s=ob (again' s) k):∀ s,T58 B c50 c93 c94 c95 p0 p1 again (fun y=>ob (k0 y) k) s=ob (T58 B c50 c93 c94 c95 p0 p1 again' k0 s) k:=by
 rintro (_ | x)
 all_goals try cases x
 all_goals (unfold T58;repeat' first | exact rfl | exact h _ | apply qac | (apply qai;intro))
def R58 (c50:C50) (c93:C93) (c94:C94) (c95:C95) (p0:L3) (p1:Int):Nat→S58→Option (LB)
 | 0,_=>none
 | n+1,s=>T58 Ops.std c50 c93 c94 c95 p0 p1 (R58 c50 c93 c94 c95 p0 p1 n) some (some s)
theorem rr58 {R:Type} (c50:C50) (c93:C93) (c94:C94) (c95:C95) (p0:L3) (p1:Int) (k:AV→Objs→Option R):∀ (n:Nat) (s:S58),A58 Ops.std c50 c93 c94 c95 p0 p1 k s n=ob (R58 c50 c93 c94 c95 p0 p1 n s) (K3 k)
 | 0,s=>by cases s<;>rfl
 | n+1,s=>by rw [el58];exact nt58 Ops.std c50 c93 c94 c95 p0 p1 _ _ some (K3 k) (rr58 c50 c93 c94 c95 p0 p1 k n) (some s)
def F58 (c50:C50) (c93:C93) (c94:C94) (c95:C95) (p0:L3) (p1:Int):Option (LB):=T58 Ops.std c50 c93 c94 c95 p0 p1 (R58 c50 c93 c94 c95 p0 p1 1000000) some none
abbrev C58:Type:=L3→Int→Option (LB)
def e58 {R:Type} (c:C58):Ent R:=eG [.aC (.cL 3 ty3),.aC (.cI .i64)] [] fun v k=>ob (c v.1 v.2.1) (K3 k)
abbrev Sp58 (c:C58):Prop:=∀ (p0:L3) (p1:Int) (y:LB),c p0 p1=some y→Spec Tryz.prog gl0 58 [.c (.list 3 ty3 p0),.c (.int .i64 p1)] [] (.c (.str y)) []
theorem ek58 {R:Type} {c:C58} (hs:Sp58 c):EOk 58 (e58 (R:=R) c):=qak fun v=>hs v.1 v.2.1
theorem sf58 {c50:C50} {c93:C93} {c94:C94} {c95:C95} (h50:Sp50 c50) (h93:Sp93 c93) (h94:Sp94 c94) (h95:Sp95 c95):Sp58 (F58 c50 c93 c94 c95):=fun p0 p1 y hy=>by
 refine qae (qab (ek50 h50) (qab (ek93 h93) (qab (ek94 h94) (qab (ek95 h95) qad)))) 1000000 (fn:=Tryz.f58) (by kernel_rfl) (by kernel_rfl) (X:=X58) (by kernel_rfl) ?_
 rw [eq58]
 exact (nt58 Ops.std c50 c93 c94 c95 p0 p1 _ _ some (K3 k0) (rr58 c50 c93 c94 c95 p0 p1 k0 1000000) none).trans (by show ob (F58 c50 c93 c94 c95 p0 p1) _=_;rw [hy];rfl)
noncomputable def M58:C58:=F58 M50 M93 M94 M95
theorem sm58:Sp58 M58:=sf58 sm50 sm93 sm94 sm95
def X24:Aux:=⟨[(3,([0,2]++rg 5 103)),(8,([0,2,4]++rg 7 101)),(15,([0,2,4,6]++rg 8 100))],[(5,.lin (rg 0 11++[15,16,17,18,19,20,25,26,27,28,29,30,11,12,13,14,21,22,23,24,31,32,33,34,35])),(17,.lin ([0,1,2,3,4,8,9,10,11,12,13,5,6,7,14,15,16,17]))]⟩
inductive S24 where
 | l0 (v0:LB) (v1:Int)
 | l1 (v0:LB) (v1 v2:Int)
 | l2 (v0:LB) (v1 v2:Int)
def T24 {R:Type} (B:Ops) (c22:C22) (c57:C57) (c58:C58) (p0 p1:Int) (p2:L22) (again:S24→Option R) (k:(LB)→Option R):Option S24→Option R | none=>again (.l0 (mt UInt8) 0) | some (.l0 v0 v1)=>ob (c22 p1 2) fun y0=>cond (B.lt v1 (IntKind.wrap .i64 (2+y0))) (cond (B.lim (List.length v0+4) 1) (cond (B.inb v1 3) (cond (B.lim (List.length (v0++([118,97,114,32]:LB))+List.length (List.getD ((120::mt UInt8)::(121::mt UInt8)::(122::mt UInt8)::mt LB) v1.toNat (mt UInt8))) 1) (cond (B.lim (List.length (v0++([118,97,114,32]:LB)++List.getD ((120::mt UInt8)::(121::mt UInt8)::(122::mt UInt8)::mt LB) v1.toNat (mt UInt8))+1) 1) (cond (B.eq 7 0) none (cond (B.eq (IntKind.wrap .i64 (2+v1)) 0) none (cond (B.eq (IntKind.wrap .i64 (5+v1)) 0) none (ob (c22 (IntKind.wrap .i64 (Int.tdiv p1 7)) 2) fun y1=>cond (B.inb y1 2) (cond (B.lim (List.length (v0++([118,97,114,32]:LB)++List.getD ((120::mt UInt8)::(121::mt UInt8)::(122::mt UInt8)::mt LB) v1.toNat (mt UInt8)++([32]:LB))+List.length (List.getD (([48]:LB)::([45,49]:LB)::mt LB) y1.toNat (mt UInt8))) 1) (cond (B.lim (List.length (v0++([118,97,114,32]:LB)++List.getD ((120::mt UInt8)::(121::mt UInt8)::(122::mt UInt8)::mt LB) v1.toNat (mt UInt8)++([32]:LB)++List.getD (([48]:LB)::([45,49]:LB)::mt LB) y1.toNat (mt UInt8))+1) 1) (ob (c22 (IntKind.wrap .i64 (Int.tdiv p1 (IntKind.wrap .i64 (2+v1)))) 3) fun y2=>cond (B.inb y2 3) (cond (B.lim (List.length (v0++([118,97,114,32]:LB)++List.getD ((120::mt UInt8)::(121::mt UInt8)::(122::mt UInt8)::mt LB) v1.toNat (mt UInt8)++([32]:LB)++List.getD (([48]:LB)::([45,49]:LB)::mt LB) y1.toNat (mt UInt8)++([32]:LB))+List.length (List.getD (([49]:LB)::([50]:LB)::([51]:LB)::mt LB) y2.toNat (mt UInt8))) 1) (cond (B.lim (List.length (v0++([118,97,114,32]:LB)++List.getD ((120::mt UInt8)::(121::mt UInt8)::(122::mt UInt8)::mt LB) v1.toNat (mt UInt8)++([32]:LB)++List.getD (([48]:LB)::([45,49]:LB)::mt LB) y1.toNat (mt UInt8)++([32]:LB)++List.getD (([49]:LB)::([50]:LB)::([51]:LB)::mt LB) y2.toNat (mt UInt8))+1) 1) (ob (c22 (IntKind.wrap .i64 (Int.tdiv p1 (IntKind.wrap .i64 (5+v1)))) 2) fun y3=>cond (B.inb y3 2) (cond (B.lim (List.length (v0++([118,97,114,32]:LB)++List.getD ((120::mt UInt8)::(121::mt UInt8)::(122::mt UInt8)::mt LB) v1.toNat (mt UInt8)++([32]:LB)++List.getD (([48]:LB)::([45,49]:LB)::mt LB) y1.toNat (mt UInt8)++([32]:LB)++List.getD (([49]:LB)::([50]:LB)::([51]:LB)::mt LB) y2.toNat (mt UInt8)++([32]:LB))+List.length (List.getD (([48]:LB)::([49]:LB)::mt LB) y3.toNat (mt UInt8))) 1) (cond (B.lim (List.length (v0++([118,97,114,32]:LB)++List.getD ((120::mt UInt8)::(121::mt UInt8)::(122::mt UInt8)::mt LB) v1.toNat (mt UInt8)++([32]:LB)++List.getD (([48]:LB)::([45,49]:LB)::mt LB) y1.toNat (mt UInt8)++([32]:LB)++List.getD (([49]:LB)::([50]:LB)::([51]:LB)::mt LB) y2.toNat (mt UInt8)++([32]:LB)++List.getD (([48]:LB)::([49]:LB)::mt LB) y3.toNat (mt UInt8))+1) 1) (again (.l0 (v0++([118,97,114,32]:LB)++List.getD ((120::mt UInt8)::(121::mt UInt8)::(122::mt UInt8)::mt LB) v1.toNat (mt UInt8)++([32]:LB)++List.getD (([48]:LB)::([45,49]:LB)::mt LB) y1.toNat (mt UInt8)++([32]:LB)++List.getD (([49]:LB)::([50]:LB)::([51]:LB)::mt LB) y2.toNat (mt UInt8)++([32]:LB)++List.getD (([48]:LB)::([49]:LB)::mt LB) y3.toNat (mt UInt8)++([10]:LB)) (IntKind.wrap .i64 (v1+1)))) none) none) none) none) none) none) none) none) none)))) none) none) none) none) (ob (c22 p0 4) fun y1=>cond (B.eq 3 0) none (again (.l1 v0 (IntKind.wrap .i64 (2+IntKind.wrap .i64 (Int.tdiv y1 3))) 0))) | some (.l1 v0 v1 v2)=>cond (B.lt v2 v1) (cond (B.lim (List.length v0+5) 1) (cond (B.inb v2 3) (cond (B.lim (List.length (v0++([112,114,111,99,32]:LB))+List.length (List.getD ((112::mt UInt8)::(113::mt UInt8)::(114::mt UInt8)::mt LB) v2.toNat (mt UInt8))) 1) (cond (B.lim (List.length (v0++([112,114,111,99,32]:LB)++List.getD ((112::mt UInt8)::(113::mt UInt8)::(114::mt UInt8)::mt LB) v2.toNat (mt UInt8))+6) 1) (cond (B.eq (IntKind.wrap .i64 (2+v2)) 0) none (ob (c22 (IntKind.wrap .i64 (Int.tdiv p0 (IntKind.wrap .i64 (2+v2)))) 3) fun y0=>cond (B.eq y0 0) (cond (B.lim (List.length (v0++([112,114,111,99,32]:LB)++List.getD ((112::mt UInt8)::(113::mt UInt8)::(114::mt UInt8)::mt LB) v2.toNat (mt UInt8)++([32,97,32,98,32,99]:LB))+2) 1) (cond (B.lim (List.length (v0++([112,114,111,99,32]:LB)++List.getD ((112::mt UInt8)::(113::mt UInt8)::(114::mt UInt8)::mt LB) v2.toNat (mt UInt8)++([32,97,32,98,32,99]:LB)++([32,100]:LB))+1) 1) (again (.l1 (v0++([112,114,111,99,32]:LB)++List.getD ((112::mt UInt8)::(113::mt UInt8)::(114::mt UInt8)::mt LB) v2.toNat (mt UInt8)++([32,97,32,98,32,99]:LB)++([32,100]:LB)++([10]:LB)) v1 (IntKind.wrap .i64 (v2+1)))) none) none) (cond (B.lim (List.length (v0++([112,114,111,99,32]:LB)++List.getD ((112::mt UInt8)::(113::mt UInt8)::(114::mt UInt8)::mt LB) v2.toNat (mt UInt8)++([32,97,32,98,32,99]:LB))+1) 1) (again (.l1 (v0++([112,114,111,99,32]:LB)++List.getD ((112::mt UInt8)::(113::mt UInt8)::(114::mt UInt8)::mt LB) v2.toNat (mt UInt8)++([32,97,32,98,32,99]:LB)++([10]:LB)) v1 (IntKind.wrap .i64 (v2+1)))) none))) none) none) none) none) (again (.l2 v0 v1 0)) | some (.l2 v0 v1 v2)=>cond (B.lt v2 (↑p2.length)) (cond (B.lt v2 10) (cond (B.lim (List.length v0+6) 1) (cond (B.inb v2 p2.length) (ob (c57 (IntKind.wrap .i64 (IntKind.wrap .i64 (3*v2)+1))) fun y0=>cond (B.lim (List.length (v0++([116,114,97,110,115,32]:LB))+List.length y0) 1) (cond (B.lim (List.length (v0++([116,114,97,110,115,32]:LB)++y0)+1) 1) (ob (c58 (p2.getD v2.toNat ty22.dflt) v1) fun y1=>cond (B.lim (List.length (v0++([116,114,97,110,115,32]:LB)++y0++([32]:LB))+List.length y1) 1) (cond (B.lim (List.length (v0++([116,114,97,110,115,32]:LB)++y0++([32]:LB)++y1)+1) 1) (again (.l2 (v0++([116,114,97,110,115,32]:LB)++y0++([32]:LB)++y1++([10]:LB)) v1 (IntKind.wrap .i64 (v2+1)))) none) none) none) none) none) none) (k v0)) (k v0)
def E24 (p0 p1:Int) (p2:L22):S24→List AV×Objs
 | .l0 v0 v1=>(mk 108 [(1,.c (.ptr 1 0)),(3,.c (.str v0)),(4,.c (.int .i64 v1))],[(1,.box 25 [.int .i64 p0,.int .i64 p1,.list 22 ty22 p2])])
 | .l1 v0 v1 v2=>(mk 108 [(1,.c (.ptr 1 0)),(3,.c (.str v0)),(5,.c (.int .i64 v1)),(6,.c (.int .i64 v2))],[(1,.box 25 [.int .i64 p0,.int .i64 p1,.list 22 ty22 p2])])
 | .l2 v0 v1 v2=>(mk 108 [(1,.c (.ptr 1 0)),(3,.c (.str v0)),(5,.c (.int .i64 v1)),(7,.c (.int .i64 v2))],[(1,.box 25 [.int .i64 p0,.int .i64 p1,.list 22 ty22 p2])])
def I24:S24→Nat
 | .l0 _ _=>0
 | .l1 _ _ _=>1
 | .l2 _ _ _=>2
noncomputable abbrev A24 {R:Type} (B:Ops) (c22:C22) (c57:C57) (c58:C58) (p0 p1:Int) (p2:L22) (k:AV→Objs→Option R) (s:S24) (n:Nat):Option R:=aloop tau B gl0 X24 (ent 22 (e22 c22) (ent 57 (e57 c57) (ent 58 (e58 c58) gnil))) ow [] Tryz.f24 k (I24 s) (E24 p0 p1 p2 s) n
theorem eq24 {R:Type} (B:Ops) (c22:C22) (c57:C57) (c58:C58) (p0 p1:Int) (p2:L22) (k:AV→Objs→Option R) (n:Nat):afun tau B gl0 X24 (ent 22 (e22 c22) (ent 57 (e57 c57) (ent 58 (e58 c58) gnil))) ow Tryz.f24 [.agg [.int .i64 p0,.int .i64 p1,.list 22 ty22 p2]] [] k n=T24 B c22 c57 c58 p0 p1 p2 (fun s=>A24 B c22 c57 c58 p0 p1 p2 k s n) (K3 k) none:=by kernel_rfl
theorem el24 {R:Type} (B:Ops) (c22:C22) (c57:C57) (c58:C58) (p0 p1:Int) (p2:L22) (k:AV→Objs→Option R) (n:Nat):∀ s,A24 B c22 c57 c58 p0 p1 p2 k s (n+1)=T24 B c22 c57 c58 p0 p1 p2 (fun s=>A24 B c22 c57 c58 p0 p1 p2 k s n) (K3 k) (some s):=by
 intro s
 cases s<;>kernel_rfl
theorem nt24 {R R':Type} (B:Ops) (c22:C22) (c57:C57) (c58:C58) (p0 p1:Int) (p2:L22) (again:S24→Option R) (again':S24→Option R') (k0:(LB)→Option R') (k:R'→Option R) (h:∀ s,again s=ob (again' s) k):∀ s,T24 B c22 c57 c58 p0 p1 p2 again (fun y=>ob (k0 y) k) s=ob (T24 B c22 c57 c58 p0 p1 p2 again' k0 s) k:=by
 rintro (_ | x)
 all_goals try cases x
 all_goals (unfold T24;repeat' first | exact rfl | exact h _ | apply qac | (apply qai;intro))
def R24 (c22:C22) (c57:C57) (c58:C58) (p0 p1:Int) (p2:L22):Nat→S24→Option (LB)
 | 0,_=>none
 | n+1,s=>T24 Ops.std c22 c57 c58 p0 p1 p2 (R24 c22 c57 c58 p0 p1 p2 n) some (some s)
theorem rr24 {R:Type} (c22:C22) (c57:C57) (c58:C58) (p0 p1:Int) (p2:L22) (k:AV→Objs→Option R):∀ (n:Nat) (s:S24),A24 Ops.std c22 c57 c58 p0 p1 p2 k s n=ob (R24 c22 c57 c58 p0 p1 p2 n s) (K3 k)
 | 0,s=>by cases s<;>rfl
 | n+1,s=>by rw [el24];exact nt24 Ops.std c22 c57 c58 p0 p1 p2 _ _ some (K3 k) (rr24 c22 c57 c58 p0 p1 p2 k n) (some s)
def F24 (c22:C22) (c57:C57) (c58:C58) (p0 p1:Int) (p2:L22):Option (LB):=T24 Ops.std c22 c57 c58 p0 p1 p2 (R24 c22 c57 c58 p0 p1 p2 1000000) some none
abbrev C24:Type:=Int→Int→L22→Option (LB)
def e24 {R:Type} (c:C24):Ent R:=eG [.aG [.cI .i64,.cI .i64,.cL 22 ty22]] [] fun v k=>ob (c v.1 v.2.1 v.2.2.1) (K3 k)
abbrev Sp24 (c:C24):Prop:=∀ (p0 p1:Int) (p2:L22) (y:LB),c p0 p1 p2=some y→Spec Tryz.prog gl0 24 [.agg [.int .i64 p0,.int .i64 p1,.list 22 ty22 p2]] [] (.c (.str y)) []
theorem ek24 {R:Type} {c:C24} (hs:Sp24 c):EOk 24 (e24 (R:=R) c):=qak fun v=>hs v.1 v.2.1 v.2.2.1
theorem sf24 {c22:C22} {c57:C57} {c58:C58} (h22:Sp22 c22) (h57:Sp57 c57) (h58:Sp58 c58):Sp24 (F24 c22 c57 c58):=fun p0 p1 p2 y hy=>by
 refine qae (qab (ek22 h22) (qab (ek57 h57) (qab (ek58 h58) qad))) 1000000 (fn:=Tryz.f24) (by kernel_rfl) (by kernel_rfl) (X:=X24) (by kernel_rfl) ?_
 rw [eq24]
 exact (nt24 Ops.std c22 c57 c58 p0 p1 p2 _ _ some (K3 k0) (rr24 c22 c57 c58 p0 p1 p2 k0 1000000) none).trans (by show ob (F24 c22 c57 c58 p0 p1 p2) _=_;rw [hy];rfl)
noncomputable def M24:C24:=F24 M22 M57 M58
theorem sm24:Sp24 M24:=sf24 sm22 sm57 sm58
def X51:Aux:=⟨[(4,([2,3,4]++rg 8 26))],[]⟩
inductive S51 where
 | l0 (v2 v3:Int) (v4:L9)
def T51 {R:Type} (B:Ops) (p0:LB) (p1:Int) (again:S51→Option R) (k:(L9)→Option R):Option S51→Option R | none=>again (.l0 0 0 (mt (Ty.den Ty.str))) | some (.l0 v2 v3 v4)=>cond (B.lt v3 (↑p0.length)) (cond (B.inb v3 p0.length) (cond (B.eq (Nat.cast (UInt8.toNat (p0.getD v3.toNat 0))) p1) (cond (B.inb v3 (List.length p0+1)) (cond (bif B.le 0 v2 then B.le v2 v3 else false) (cond (B.lim (List.length v4+List.length (List.drop v2.toNat (List.take v3.toNat p0)::mt (Ty.den Ty.str))) 16) (again (.l0 (IntKind.wrap .i64 (v3+1)) (IntKind.wrap .i64 (v3+1)) (v4++List.drop v2.toNat (List.take v3.toNat p0)::mt (Ty.den Ty.str)))) none) none) none) (again (.l0 v2 (IntKind.wrap .i64 (v3+1)) v4))) none) (cond (B.inb v2 (List.length p0+1)) (cond (B.lim (List.length v4+List.length (List.drop v2.toNat (List.take p0.length p0)::mt (Ty.den Ty.str))) 16) (k (v4++List.drop v2.toNat (List.take p0.length p0)::mt (Ty.den Ty.str))) none) none)
def E51 (p0:LB) (p1:Int):S51→List AV×Objs
 | .l0 v2 v3 v4=>(mk 34 [(0,.c (.str p0)),(1,.c (.int .u8 p1)),(5,.c (.own 5)),(6,.c (.int .i64 v2)),(7,.c (.int .i64 v3))],[(5,.row 9 ty9 v4)])
def I51:S51→Nat
 | .l0 _ _ _=>0
noncomputable abbrev A51 {R:Type} (B:Ops) (p0:LB) (p1:Int) (k:AV→Objs→Option R) (s:S51) (n:Nat):Option R:=aloop tau B gl0 X51 gnil ow [] Tryz.f51 k (I51 s) (E51 p0 p1 s) n
theorem eq51 {R:Type} (B:Ops) (p0:LB) (p1:Int) (k:AV→Objs→Option R) (n:Nat):afun tau B gl0 X51 gnil ow Tryz.f51 [.c (.str p0),.c (.int .u8 p1)] [] k n=T51 B p0 p1 (fun s=>A51 B p0 p1 k s n) (K15 k) none:=by kernel_rfl
theorem el51 {R:Type} (B:Ops) (p0:LB) (p1:Int) (k:AV→Objs→Option R) (n:Nat):∀ s,A51 B p0 p1 k s (n+1)=T51 B p0 p1 (fun s=>A51 B p0 p1 k s n) (K15 k) (some s):=by
 intro s
 cases s<;>kernel_rfl
theorem nt51 {R R':Type} (B:Ops) (p0:LB) (p1:Int) (again:S51→Option R) (again':S51→Option R') (k0:(L9)→Option R') (k:R'→Option R) (h:∀ s,again s=ob (again' s) k):∀ s,T51 B p0 p1 again (fun y=>ob (k0 y) k) s=ob (T51 B p0 p1 again' k0 s) k:=by
 rintro (_ | x)
 all_goals try cases x
 all_goals (unfold T51;repeat' first | exact rfl | exact h _ | apply qac | (apply qai;intro))
def R51 (p0:LB) (p1:Int):Nat→S51→Option (L9)
 | 0,_=>none
 | n+1,s=>T51 Ops.std p0 p1 (R51 p0 p1 n) some (some s)
theorem rr51 {R:Type} (p0:LB) (p1:Int) (k:AV→Objs→Option R):∀ (n:Nat) (s:S51),A51 Ops.std p0 p1 k s n=ob (R51 p0 p1 n s) (K15 k)
 | 0,s=>by cases s<;>rfl
 | n+1,s=>by rw [el51];exact nt51 Ops.std p0 p1 _ _ some (K15 k) (rr51 p0 p1 k n) (some s)
def F51 (p0:LB) (p1:Int):Option (L9):=T51 Ops.std p0 p1 (R51 p0 p1 1000000) some none
abbrev C51:Type:=LB→Int→Option (L9)
def e51 {R:Type} (c:C51):Ent R:=eG [.aC .cS,.aC (.cI .u8)] [] fun v k=>ob (c v.1 v.2.1) (K15 k)
abbrev Sp51 (c:C51):Prop:=∀ (p0:LB) (p1:Int) (y:L9),c p0 p1=some y→Spec Tryz.prog gl0 51 [.c (.str p0),.c (.int .u8 p1)] [] (.c (.own 500)) [(500,.row 9 ty9 y)]
theorem ek51 {R:Type} {c:C51} (hs:Sp51 c):EOk 51 (e51 (R:=R) c):=qak fun v=>hs v.1 v.2.1
theorem sf51:Sp51 (F51):=fun p0 p1 y hy=>by
 refine qae qad 1000000 (fn:=Tryz.f51) (by kernel_rfl) (by kernel_rfl) (X:=X51) (by kernel_rfl) ?_
 rw [eq51]
 exact (nt51 Ops.std p0 p1 _ _ some (K15 k0) (rr51 p0 p1 k0 1000000) none).trans (by show ob (F51 p0 p1) _=_;rw [hy];rfl)
noncomputable def M51:C51:=F51
theorem sm51:Sp51 M51:=sf51
def X52:Aux:=⟨[(4,([0,1,2]++rg 6 21))],[]⟩
inductive S52 where
 | l0 (v0:Int) (v1 v2:L9)
def T52 {R:Type} (B:Ops) (c51:C51) (p0:LB) (again:S52→Option R) (k:(L9)→Option R):Option S52→Option R | none=>ob (c51 p0 32) fun y0=>again (.l0 0 (mt (Ty.den Ty.str)) y0) | some (.l0 v0 v1 v2)=>cond (B.lt v0 (↑v2.length)) (cond (B.inb v0 v2.length) (cond (!v2.getD v0.toNat ty9.dflt == mt UInt8) (cond (B.inb v0 v2.length) (cond (B.lim (List.length v1+List.length (v2.getD v0.toNat ty9.dflt::mt (Ty.den Ty.str))) 16) (again (.l0 (IntKind.wrap .i64 (v0+1)) (v1++v2.getD v0.toNat ty9.dflt::mt (Ty.den Ty.str)) v2)) none) none) (again (.l0 (IntKind.wrap .i64 (v0+1)) v1 v2))) none) (k v1)
def E52 (p0:LB):S52→List AV×Objs
 | .l0 v0 v1 v2=>(mk 27 [(3,.c (.own 3)),(4,.c (.own 4)),(5,.c (.int .i64 v0))],[(3,.row 9 ty9 v1),(4,.row 9 ty9 v2)])
def I52:S52→Nat
 | .l0 _ _ _=>0
noncomputable abbrev A52 {R:Type} (B:Ops) (c51:C51) (p0:LB) (k:AV→Objs→Option R) (s:S52) (n:Nat):Option R:=aloop tau B gl0 X52 (ent 51 (e51 c51) gnil) ow [] Tryz.f52 k (I52 s) (E52 p0 s) n
theorem eq52 {R:Type} (B:Ops) (c51:C51) (p0:LB) (k:AV→Objs→Option R) (n:Nat):afun tau B gl0 X52 (ent 51 (e51 c51) gnil) ow Tryz.f52 [.c (.str p0)] [] k n=T52 B c51 p0 (fun s=>A52 B c51 p0 k s n) (K15 k) none:=by kernel_rfl
theorem el52 {R:Type} (B:Ops) (c51:C51) (p0:LB) (k:AV→Objs→Option R) (n:Nat):∀ s,A52 B c51 p0 k s (n+1)=T52 B c51 p0 (fun s=>A52 B c51 p0 k s n) (K15 k) (some s):=by
 intro s
 cases s<;>kernel_rfl
theorem nt52 {R R':Type} (B:Ops) (c51:C51) (p0:LB) (again:S52→Option R) (again':S52→Option R') (k0:(L9)→Option R') (k:R'→Option R) (h:∀ s,again s=ob (again' s) k):∀ s,T52 B c51 p0 again (fun y=>ob (k0 y) k) s=ob (T52 B c51 p0 again' k0 s) k:=by
 rintro (_ | x)
 all_goals try cases x
 all_goals (unfold T52;repeat' first | exact rfl | exact h _ | apply qac | (apply qai;intro))
def R52 (c51:C51) (p0:LB):Nat→S52→Option (L9)
 | 0,_=>none
 | n+1,s=>T52 Ops.std c51 p0 (R52 c51 p0 n) some (some s)
theorem rr52 {R:Type} (c51:C51) (p0:LB) (k:AV→Objs→Option R):∀ (n:Nat) (s:S52),A52 Ops.std c51 p0 k s n=ob (R52 c51 p0 n s) (K15 k)
 | 0,s=>by cases s<;>rfl
 | n+1,s=>by rw [el52];exact nt52 Ops.std c51 p0 _ _ some (K15 k) (rr52 c51 p0 k n) (some s)
def F52 (c51:C51) (p0:LB):Option (L9):=T52 Ops.std c51 p0 (R52 c51 p0 1000000) some none
abbrev C52:Type:=LB→Option (L9)
def e52 {R:Type} (c:C52):Ent R:=eG [.aC .cS] [] fun v k=>ob (c v.1) (K15 k)
abbrev Sp52 (c:C52):Prop:=∀ (p0:LB) (y:L9),c p0=some y→Spec Tryz.prog gl0 52 [.c (.str p0)] [] (.c (.own 500)) [(500,.row 9 ty9 y)]
theorem ek52 {R:Type} {c:C52} (hs:Sp52 c):EOk 52 (e52 (R:=R) c):=qak fun v=>hs v.1
theorem sf52 {c51:C51} (h51:Sp51 c51):Sp52 (F52 c51):=fun p0 y hy=>by
 refine qae (qab (ek51 h51) qad) 1000000 (fn:=Tryz.f52) (by kernel_rfl) (by kernel_rfl) (X:=X52) (by kernel_rfl) ?_
 rw [eq52]
 exact (nt52 Ops.std c51 p0 _ _ some (K15 k0) (rr52 c51 p0 k0 1000000) none).trans (by show ob (F52 c51 p0) _=_;rw [hy];rfl)
noncomputable def M52:C52:=F52 M51
theorem sm52:Sp52 M52:=sf52 sm51
abbrev K33 {R:Type} (k:AV→Objs→Option R) (y:(Int×Bool)):Option R:=k (.tup [(false,[.int .i64 y.1]),(false,[.bool y.2])]) []
abbrev C85:Type:=LB→Bool→Option (Int×Bool)
def e85 {R:Type} (c:C85):Ent R:=eG [.aC .cS,.aC .cB] [] fun v k=>ob (c v.1 v.2.1) (K33 k)
abbrev Sp85 (c:C85):Prop:=∀ (p0:LB) (p1:Bool) (y:Int×Bool),c p0 p1=some y→Spec Tryz.prog gl0 85 [.c (.str p0),.c (.bool p1)] [] (.tup [(false,[.int .i64 y.1]),(false,[.bool y.2])]) []
theorem ek85 {R:Type} {c:C85} (hs:Sp85 c):EOk 85 (e85 (R:=R) c):=qak fun v=>hs v.1 v.2.1
def X85:Aux:=⟨[(6,([1,2,3,4,5,6,7]++rg 10 45))],[]⟩
inductive S85 where
 | l0 (v1 v2:Int)
def T85 {R:Type} (B:Ops) (c85:C85) (c45:C45) (p0:LB) (p1:Bool) (again:S85→Option R) (k:(Int×Bool)→Option R):Option S85→Option R | none=>cond (p1) (cond (B.lt 1 (↑p0.length)) (cond (B.inb 0 p0.length) (cond (B.eq (Nat.cast (UInt8.toNat (p0.getD (Int.toNat 0) 0))) 45) (cond (B.inb 1 (List.length p0+1)) (ob (c85 (List.drop (Int.toNat 1) (List.take p0.length p0)) false) fun y0=>k ((IntKind.wrap .i64 (0-y0.1),y0.2))) none) (again (.l0 0 0))) none) (again (.l0 0 0))) (again (.l0 0 0)) | some (.l0 v1 v2)=>cond (B.lt v2 (↑p0.length)) (cond (B.inb v2 p0.length) (ob (c45 (Nat.cast (UInt8.toNat (p0.getD v2.toNat 0)))) fun y0=>cond (!y0) (k (0,false)) (cond (B.inb v2 p0.length) (cond (B.lt 2 v2) (k (0,false)) (again (.l0 (IntKind.wrap .i64 (IntKind.wrap .i64 (10*v1)+IntKind.wrap .i64 (IntKind.wrap IntKind.u8 (Nat.cast (UInt8.toNat (p0.getD v2.toNat 0))-48)))) (IntKind.wrap .i64 (v2+1))))) none)) none) (k ((v1,B.lt 0 (↑p0.length))))
def E85 (p0:LB) (p1:Bool):S85→List AV×Objs
 | .l0 v1 v2=>(mk 55 [(0,.c (.str p0)),(8,.c (.int .i64 v1)),(9,.c (.int .i64 v2))],[])
def I85:S85→Nat
 | .l0 _ _=>0
noncomputable abbrev A85 {R:Type} (B:Ops) (c85:C85) (c45:C45) (p0:LB) (p1:Bool) (k:AV→Objs→Option R) (s:S85) (n:Nat):Option R:=aloop tau B gl0 X85 (ent 85 (e85 c85) (ent 45 (e45 c45) gnil)) ow [] Tryz.f85 k (I85 s) (E85 p0 p1 s) n
theorem eq85 {R:Type} (B:Ops) (c85:C85) (c45:C45) (p0:LB) (p1:Bool) (k:AV→Objs→Option R) (n:Nat):afun tau B gl0 X85 (ent 85 (e85 c85) (ent 45 (e45 c45) gnil)) ow Tryz.f85 [.c (.str p0),.c (.bool p1)] [] k n=T85 B c85 c45 p0 p1 (fun s=>A85 B c85 c45 p0 p1 k s n) (K33 k) none:=by kernel_rfl
theorem el85 {R:Type} (B:Ops) (c85:C85) (c45:C45) (p0:LB) (p1:Bool) (k:AV→Objs→Option R) (n:Nat):∀ s,A85 B c85 c45 p0 p1 k s (n+1)=T85 B c85 c45 p0 p1 (fun s=>A85 B c85 c45 p0 p1 k s n) (K33 k) (some s):=by
 intro s
 cases s<;>kernel_rfl
theorem nt85 {R R':Type} (B:Ops) (c85:C85) (c45:C45) (p0:LB) (p1:Bool) (again:S85→Option R) (again':S85→Option R') (k0:(Int×Bool)→Option R') (k:R'→Option R) (h:∀ s,again s=ob (again' s) k):∀ s,T85 B c85 c45 p0 p1 again (fun y=>ob (k0 y) k) s=ob (T85 B c85 c45 p0 p1 again' k0 s) k:=by
 rintro (_ | x)
 all_goals try cases x
 all_goals (unfold T85;repeat' first | exact rfl | exact h _ | apply qac | (apply qai;intro))
def R85 (c85:C85) (c45:C45) (p0:LB) (p1:Bool):Nat→S85→Option (Int×Bool)
 | 0,_=>none
 | n+1,s=>T85 Ops.std c85 c45 p0 p1 (R85 c85 c45 p0 p1 n) some (some s)
theorem rr85 {R:Type} (c85:C85) (c45:C45) (p0:LB) (p1:Bool) (k:AV→Objs→Option R):∀ (n:Nat) (s:S85),A85 Ops.std c85 c45 p0 p1 k s n=ob (R85 c85 c45 p0 p1 n s) (K33 k)
 | 0,s=>by cases s<;>rfl
 | n+1,s=>by rw [el85];exact nt85 Ops.std c85 c45 p0 p1 _ _ some (K33 k) (rr85 c85 c45 p0 p1 k n) (some s)
def F85 (c85:C85) (c45:C45) (p0:LB) (p1:Bool):Option (Int×Bool):=T85 Ops.std c85 c45 p0 p1 (R85 c85 c45 p0 p1 1000000) some none
theorem sf85 {c85:C85} {c45:C45} (h85:Sp85 c85) (h45:Sp45 c45):Sp85 (F85 c85 c45):=fun p0 p1 y hy=>by
 refine qae (qab (ek85 h85) (qab (ek45 h45) qad)) 1000000 (fn:=Tryz.f85) (by kernel_rfl) (by kernel_rfl) (X:=X85) (by kernel_rfl) ?_
 rw [eq85]
 exact (nt85 Ops.std c85 c45 p0 p1 _ _ some (K33 k0) (rr85 c85 c45 p0 p1 k0 1000000) none).trans (by show ob (F85 c85 c45 p0 p1) _=_;rw [hy];rfl)
noncomputable def Rec85:Nat→(LB→Bool→Option (Int×Bool))
 | 0=>fun _ _=>none
 | d+1=>F85 (Rec85 d) M45
theorem rec85:∀ d,Sp85 (Rec85 d)
 | 0=>fun p0 p1 y (h:(none:Option (Int×Bool))=some y)=>by cases h
 | d+1=>sf85 (rec85 d) sm45
noncomputable def M85:C85:=(Rec85 1000000)
theorem sm85:Sp85 M85:=(rec85 1000000)
def X53:Aux:=⟨[],[]⟩
def T53 {R:Type} (B:Ops) (c85:C85) (p0:L9) (k:(LB×Int×Int×Int×Bool)→Option R):Option R:=cond (!B.eq (↑p0.length) 4) (k (mt UInt8,0,0,0,false)) (cond (B.inb 1 p0.length) (ob (c85 (p0.getD (Int.toNat 1) ty9.dflt) true) fun y0=>cond (B.inb 2 p0.length) (ob (c85 (p0.getD (Int.toNat 2) ty9.dflt) true) fun y1=>cond (B.inb 3 p0.length) (ob (c85 (p0.getD (Int.toNat 3) ty9.dflt) true) fun y2=>cond (B.inb 0 p0.length) (cond y0.2 (cond y1.2 (k ((p0.getD (Int.toNat 0) ty9.dflt,y0.1,y1.1,y2.1,y2.2))) (k ((p0.getD (Int.toNat 0) ty9.dflt,y0.1,y1.1,y2.1,false)))) (k ((p0.getD (Int.toNat 0) ty9.dflt,y0.1,y1.1,y2.1,false)))) none) none) none) none)
abbrev K34 {R:Type} (k:AV→Objs→Option R) (y:(LB×Int×Int×Int×Bool)):Option R:=k (.tup [(true,[.str y.1,.int .i64 y.2.1,.int .i64 y.2.2.1,.int .i64 y.2.2.2.1]),(false,[.bool y.2.2.2.2])]) []
theorem eq53 {R:Type} (B:Ops) (c85:C85) (p0:L9) (k:AV→Objs→Option R) (n:Nat):afun tau B gl0 X53 (ent 85 (e85 c85) gnil) ow Tryz.f53 [.c (.list 9 ty9 p0)] [] k n=T53 B c85 p0 (K34 k):=by kernel_rfl
theorem nt53 {R R':Type} (B:Ops) (c85:C85) (p0:L9) (k0:(LB×Int×Int×Int×Bool)→Option R') (k:R'→Option R):T53 B c85 p0 (fun y=>ob (k0 y) k)=ob (T53 B c85 p0 k0) k:=by
 unfold T53
 repeat' first | exact rfl | apply qac | (apply qai;intro)
def F53 (c85:C85) (p0:L9):Option (LB×Int×Int×Int×Bool):=T53 Ops.std c85 p0 some
abbrev C53:Type:=L9→Option (LB×Int×Int×Int×Bool)
def e53 {R:Type} (c:C53):Ent R:=eG [.aC (.cL 9 ty9)] [] fun v k=>ob (c v.1) (K34 k)
abbrev Sp53 (c:C53):Prop:=∀ (p0:L9) (y:LB×Int×Int×Int×Bool),c p0=some y→Spec Tryz.prog gl0 53 [.c (.list 9 ty9 p0)] [] (.tup [(true,[.str y.1,.int .i64 y.2.1,.int .i64 y.2.2.1,.int .i64 y.2.2.2.1]),(false,[.bool y.2.2.2.2])]) []
theorem ek53 {R:Type} {c:C53} (hs:Sp53 c):EOk 53 (e53 (R:=R) c):=qak fun v=>hs v.1
theorem sf53 {c85:C85} (h85:Sp85 c85):Sp53 (F53 c85):=fun p0 y hy=>by
 refine qae (qab (ek85 h85) qad) 1000000 (fn:=Tryz.f53) (by kernel_rfl) (by kernel_rfl) (X:=X53) (by kernel_rfl) ?_
 rw [eq53]
 exact (nt53 Ops.std c85 p0 some (K34 k0)).trans (by show ob (F53 c85 p0) _=_;rw [hy];rfl)
noncomputable def M53:C53:=F53 M85
theorem sm53:Sp53 M53:=sf53 sm85
def X55:Aux:=⟨[(1,(rg 2 28)),(3,(rg 2 28)),(5,(rg 2 28))],[]⟩
inductive S55 where
 | l0 (v0:LB) (v1:Int)
 | l1 (v0:LB) (v1:Int)
 | l2 (v0:LB) (v1:Int)
def T55 {R:Type} (B:Ops) (p0:LB) (p1:Int) (again:S55→Option R) (k:(LB)→Option R):Option S55→Option R | none=>again (.l0 p0 p1) | some (.l0 v0 v1)=>cond (B.lt 0 v1) (again (.l1 v0 v1)) (k v0) | some (.l1 v0 v1)=>cond (B.lt 0 (↑v0.length)) (cond (B.inb 0 v0.length) (cond (B.eq (Nat.cast (UInt8.toNat (v0.getD (Int.toNat 0) 0))) 32) (cond (B.inb 1 (List.length v0+1)) (again (.l1 (List.drop (Int.toNat 1) (List.take v0.length v0)) v1)) none) (again (.l2 v0 v1))) none) (again (.l2 v0 v1)) | some (.l2 v0 v1)=>cond (B.lt 0 (↑v0.length)) (cond (B.inb 0 v0.length) (cond (!B.eq (Nat.cast (UInt8.toNat (v0.getD (Int.toNat 0) 0))) 32) (cond (B.inb 1 (List.length v0+1)) (again (.l2 (List.drop (Int.toNat 1) (List.take v0.length v0)) v1)) none) (again (.l0 v0 (IntKind.wrap .i64 (v1-1))))) none) (again (.l0 v0 (IntKind.wrap .i64 (v1-1))))
def E55 (p0:LB) (p1:Int):S55→List AV×Objs
 | .l0 v0 v1=>(mk 30 [(0,.c (.str v0)),(1,.c (.int .i64 v1))],[])
 | .l1 v0 v1=>(mk 30 [(0,.c (.str v0)),(1,.c (.int .i64 v1))],[])
 | .l2 v0 v1=>(mk 30 [(0,.c (.str v0)),(1,.c (.int .i64 v1))],[])
def I55:S55→Nat
 | .l0 _ _=>0
 | .l1 _ _=>1
 | .l2 _ _=>2
noncomputable abbrev A55 {R:Type} (B:Ops) (p0:LB) (p1:Int) (k:AV→Objs→Option R) (s:S55) (n:Nat):Option R:=aloop tau B gl0 X55 gnil ow [] Tryz.f55 k (I55 s) (E55 p0 p1 s) n
theorem eq55 {R:Type} (B:Ops) (p0:LB) (p1:Int) (k:AV→Objs→Option R) (n:Nat):afun tau B gl0 X55 gnil ow Tryz.f55 [.c (.str p0),.c (.int .i64 p1)] [] k n=T55 B p0 p1 (fun s=>A55 B p0 p1 k s n) (K3 k) none:=by kernel_rfl
theorem el55 {R:Type} (B:Ops) (p0:LB) (p1:Int) (k:AV→Objs→Option R) (n:Nat):∀ s,A55 B p0 p1 k s (n+1)=T55 B p0 p1 (fun s=>A55 B p0 p1 k s n) (K3 k) (some s):=by
 intro s
 cases s<;>kernel_rfl
theorem nt55 {R R':Type} (B:Ops) (p0:LB) (p1:Int) (again:S55→Option R) (again':S55→Option R') (k0:(LB)→Option R') (k:R'→Option R) (h:∀ s,again s=ob (again' s) k):∀ s,T55 B p0 p1 again (fun y=>ob (k0 y) k) s=ob (T55 B p0 p1 again' k0 s) k:=by
 rintro (_ | x)
 all_goals try cases x
 all_goals (unfold T55;repeat' first | exact rfl | exact h _ | apply qac | (apply qai;intro))
def R55 (p0:LB) (p1:Int):Nat→S55→Option (LB)
 | 0,_=>none
 | n+1,s=>T55 Ops.std p0 p1 (R55 p0 p1 n) some (some s)
theorem rr55 {R:Type} (p0:LB) (p1:Int) (k:AV→Objs→Option R):∀ (n:Nat) (s:S55),A55 Ops.std p0 p1 k s n=ob (R55 p0 p1 n s) (K3 k)
 | 0,s=>by cases s<;>rfl
 | n+1,s=>by rw [el55];exact nt55 Ops.std p0 p1 _ _ some (K3 k) (rr55 p0 p1 k n) (some s)
def F55 (p0:LB) (p1:Int):Option (LB):=T55 Ops.std p0 p1 (R55 p0 p1 1000000) some none
abbrev C55:Type:=LB→Int→Option (LB)
def e55 {R:Type} (c:C55):Ent R:=eG [.aC .cS,.aC (.cI .i64)] [] fun v k=>ob (c v.1 v.2.1) (K3 k)
abbrev Sp55 (c:C55):Prop:=∀ (p0:LB) (p1:Int) (y:LB),c p0 p1=some y→Spec Tryz.prog gl0 55 [.c (.str p0),.c (.int .i64 p1)] [] (.c (.str y)) []
theorem ek55 {R:Type} {c:C55} (hs:Sp55 c):EOk 55 (e55 (R:=R) c):=qak fun v=>hs v.1 v.2.1
theorem sf55:Sp55 (F55):=fun p0 p1 y hy=>by
 refine qae qad 1000000 (fn:=Tryz.f55) (by kernel_rfl) (by kernel_rfl) (X:=X55) (by kernel_rfl) ?_
 rw [eq55]
 exact (nt55 Ops.std p0 p1 _ _ some (K3 k0) (rr55 p0 p1 k0 1000000) none).trans (by show ob (F55 p0 p1) _=_;rw [hy];rfl)
noncomputable def M55:C55:=F55
theorem sm55:Sp55 M55:=sf55
def X86:Aux:=⟨[],[]⟩
def T86 {R:Type} (B:Ops) (c62:C62) (p0:LB) (k:(LB×Bool)→Option R):Option R:=cond (p0 == mt UInt8) (k (mt UInt8,true)) (cond (B.inb (IntKind.wrap .i64 (Nat.cast p0.length-1)) (List.length p0+1)) (cond (B.inb (IntKind.wrap .i64 (Nat.cast p0.length-1)) (List.length p0+1)) (ob (c62 (List.drop 0 (List.take (Int.toNat (IntKind.wrap .i64 (Nat.cast p0.length-1))) p0))) fun y0=>cond (y0) (cond (List.drop (Int.toNat (IntKind.wrap .i64 (Nat.cast p0.length-1))) (List.take p0.length p0) == ([33]:LB)) (k ((List.drop 0 (List.take (Int.toNat (IntKind.wrap .i64 (Nat.cast p0.length-1))) p0),true))) (k ((List.drop 0 (List.take (Int.toNat (IntKind.wrap .i64 (Nat.cast p0.length-1))) p0),List.drop (Int.toNat (IntKind.wrap .i64 (Nat.cast p0.length-1))) (List.take p0.length p0) == ([63]:LB))))) (k ((List.drop 0 (List.take (Int.toNat (IntKind.wrap .i64 (Nat.cast p0.length-1))) p0),false)))) none) none)
abbrev K35 {R:Type} (k:AV→Objs→Option R) (y:(LB×Bool)):Option R:=k (.tup [(false,[.str y.1]),(false,[.bool y.2])]) []
theorem eq86 {R:Type} (B:Ops) (c62:C62) (p0:LB) (k:AV→Objs→Option R) (n:Nat):afun tau B gl0 X86 (ent 62 (e62 c62) gnil) ow Tryz.f86 [.c (.str p0)] [] k n=T86 B c62 p0 (K35 k):=by kernel_rfl
theorem nt86 {R R':Type} (B:Ops) (c62:C62) (p0:LB) (k0:(LB×Bool)→Option R') (k:R'→Option R):T86 B c62 p0 (fun y=>ob (k0 y) k)=ob (T86 B c62 p0 k0) k:=by
 unfold T86
 repeat' first | exact rfl | apply qac | (apply qai;intro)
def F86 (c62:C62) (p0:LB):Option (LB×Bool):=T86 Ops.std c62 p0 some
abbrev C86:Type:=LB→Option (LB×Bool)
def e86 {R:Type} (c:C86):Ent R:=eG [.aC .cS] [] fun v k=>ob (c v.1) (K35 k)
abbrev Sp86 (c:C86):Prop:=∀ (p0:LB) (y:LB×Bool),c p0=some y→Spec Tryz.prog gl0 86 [.c (.str p0)] [] (.tup [(false,[.str y.1]),(false,[.bool y.2])]) []
theorem ek86 {R:Type} {c:C86} (hs:Sp86 c):EOk 86 (e86 (R:=R) c):=qak fun v=>hs v.1
theorem sf86 {c62:C62} (h62:Sp62 c62):Sp86 (F86 c62):=fun p0 y hy=>by
 refine qae (qab (ek62 h62) qad) 1000000 (fn:=Tryz.f86) (by kernel_rfl) (by kernel_rfl) (X:=X86) (by kernel_rfl) ?_
 rw [eq86]
 exact (nt86 Ops.std c62 p0 some (K35 k0)).trans (by show ob (F86 c62 p0) _=_;rw [hy];rfl)
noncomputable def M86:C86:=F86 M62
theorem sm86:Sp86 M86:=sf86 sm62
def X87:Aux:=⟨[],[(6,.lin [0,1,2,3,4,5,6,7,8]),(8,.lin [0,1,2,3,4,5,6,7])]⟩
def T87 {R:Type} (B:Ops) (c18:C18) (c84:C84) (p0:LB) (k:(Int×Int×L63)→Option R):Option R:=ob (c18 p0) fun y0=>cond (!B.eq y0.1 0) (k ((y0.1,y0.2.1,mt (Ty.den ty63)))) (ob (c84 y0.2.2 0) fun y1=>cond (!B.eq y1.2.1 0) (cond (B.inb y1.1 (List.length y0.2.2)) (k ((y1.2.1,(((List.getD y0.2.2 (Int.toNat y1.1) ty52.dflt).2).2).2,mt (Ty.den ty63)))) none) (cond (B.inb y1.1 (List.length y0.2.2)) (cond (!B.eq (List.getD y0.2.2 (Int.toNat y1.1) ty52.dflt).1 5) (cond (B.inb y1.1 (List.length y0.2.2)) (k ((2,(((List.getD y0.2.2 (Int.toNat y1.1) ty52.dflt).2).2).2,mt (Ty.den ty63)))) none) (k (0,0,y1.2.2))) none))
theorem eq87 {R:Type} (B:Ops) (c18:C18) (c84:C84) (p0:LB) (k:AV→Objs→Option R) (n:Nat):afun tau B gl0 X87 (ent 18 (e18 c18) (ent 84 (e84 c84) gnil)) ow Tryz.f87 [.c (.str p0)] [] k n=T87 B c18 c84 p0 (K23 k):=by kernel_rfl
theorem nt87 {R R':Type} (B:Ops) (c18:C18) (c84:C84) (p0:LB) (k0:(Int×Int×L63)→Option R') (k:R'→Option R):T87 B c18 c84 p0 (fun y=>ob (k0 y) k)=ob (T87 B c18 c84 p0 k0) k:=by
 unfold T87
 repeat' first | exact rfl | apply qac | (apply qai;intro)
def F87 (c18:C18) (c84:C84) (p0:LB):Option (Int×Int×L63):=T87 Ops.std c18 c84 p0 some
abbrev C87:Type:=LB→Option (Int×Int×L63)
def e87 {R:Type} (c:C87):Ent R:=eG [.aC .cS] [] fun v k=>ob (c v.1) (K23 k)
abbrev Sp87 (c:C87):Prop:=∀ (p0:LB) (y:Int×Int×L63),c p0=some y→Spec Tryz.prog gl0 87 [.c (.str p0)] [] (.tup [(false,[.own 501000]),(false,[.int .i64 y.1]),(false,[.int .i64 y.2.1])]) [(501000,.row 63 ty63 y.2.2)]
theorem ek87 {R:Type} {c:C87} (hs:Sp87 c):EOk 87 (e87 (R:=R) c):=qak fun v=>hs v.1
theorem sf87 {c18:C18} {c84:C84} (h18:Sp18 c18) (h84:Sp84 c84):Sp87 (F87 c18 c84):=fun p0 y hy=>by
 refine qae (qab (ek18 h18) (qab (ek84 h84) qad)) 1000000 (fn:=Tryz.f87) (by kernel_rfl) (by kernel_rfl) (X:=X87) (by kernel_rfl) ?_
 rw [eq87]
 exact (nt87 Ops.std c18 c84 p0 some (K23 k0)).trans (by show ob (F87 c18 c84 p0) _=_;rw [hy];rfl)
noncomputable def M87:C87:=F87 M18 M84
theorem sm87:Sp87 M87:=sf87 sm18 sm84
def X88:Aux:=⟨[(3,([1,2,3]++rg 6 74))],[]⟩
inductive S88 where
 | l0 (v1:Int) (v2:L172)
def T88 {R:Type} (B:Ops) (c18:C18) (c84:C84) (p0:L9) (again:S88→Option R) (k:(Bool×L172)→Option R):Option S88→Option R | none=>again (.l0 0 (mt (Ty.den ty172))) | some (.l0 v1 v2)=>cond (B.lt v1 (↑p0.length)) (cond (B.inb v1 p0.length) (ob (c18 (p0.getD v1.toNat ty9.dflt)) fun y0=>cond (!B.eq y0.1 0) (k ((false,mt (Ty.den ty172)))) (cond (B.lt (Nat.cast (List.length y0.2.2)) 3) (k ((false,mt (Ty.den ty172)))) (cond (B.inb 0 (List.length y0.2.2)) (cond (!B.eq (List.getD y0.2.2 (Int.toNat 0) ty52.dflt).1 2) (k ((false,mt (Ty.den ty172)))) (cond (B.inb 1 (List.length y0.2.2)) (cond (!B.eq (List.getD y0.2.2 (Int.toNat 1) ty52.dflt).1 4) (k ((false,mt (Ty.den ty172)))) (cond (B.inb 1 (List.length y0.2.2)) (cond (!((List.getD y0.2.2 (Int.toNat 1) ty52.dflt).2).1 == ([61]:LB)) (k ((false,mt (Ty.den ty172)))) (ob (c84 y0.2.2 2) fun y1=>cond (!B.eq y1.2.1 0) (k ((false,mt (Ty.den ty172)))) (cond (B.inb y1.1 (List.length y0.2.2)) (cond (!B.eq (List.getD y0.2.2 (Int.toNat y1.1) ty52.dflt).1 5) (k ((false,mt (Ty.den ty172)))) (cond (B.inb 0 (List.length y0.2.2)) (cond (B.lim (List.length v2+List.length ((((List.getD y0.2.2 (Int.toNat 0) ty52.dflt).2).1,y1.2.2)::mt (Ty.den ty172))) 40) (again (.l0 (IntKind.wrap .i64 (v1+1)) (v2++(((List.getD y0.2.2 (Int.toNat 0) ty52.dflt).2).1,y1.2.2)::mt (Ty.den ty172)))) none) none)) none))) none)) none)) none))) none) (k (true,v2))
def E88 (p0:L9):S88→List AV×Objs
 | .l0 v1 v2=>(mk 80 [(0,.c (.list 9 ty9 p0)),(4,.c (.own 4)),(5,.c (.int .i64 v1))],[(4,.row 172 ty172 v2)])
def I88:S88→Nat
 | .l0 _ _=>0
abbrev K36 {R:Type} (k:AV→Objs→Option R) (y:(Bool×L172)):Option R:=k (.tup [(false,[.own 501000]),(false,[.bool y.1])]) [(501000,.row 172 ty172 y.2)]
noncomputable abbrev A88 {R:Type} (B:Ops) (c18:C18) (c84:C84) (p0:L9) (k:AV→Objs→Option R) (s:S88) (n:Nat):Option R:=aloop tau B gl0 X88 (ent 18 (e18 c18) (ent 84 (e84 c84) gnil)) ow [] Tryz.f88 k (I88 s) (E88 p0 s) n
theorem eq88 {R:Type} (B:Ops) (c18:C18) (c84:C84) (p0:L9) (k:AV→Objs→Option R) (n:Nat):afun tau B gl0 X88 (ent 18 (e18 c18) (ent 84 (e84 c84) gnil)) ow Tryz.f88 [.c (.list 9 ty9 p0)] [] k n=T88 B c18 c84 p0 (fun s=>A88 B c18 c84 p0 k s n) (K36 k) none:=by kernel_rfl
theorem el88 {R:Type} (B:Ops) (c18:C18) (c84:C84) (p0:L9) (k:AV→Objs→Option R) (n:Nat):∀ s,A88 B c18 c84 p0 k s (n+1)=T88 B c18 c84 p0 (fun s=>A88 B c18 c84 p0 k s n) (K36 k) (some s):=by
 intro s
 cases s<;>kernel_rfl
theorem nt88 {R R':Type} (B:Ops) (c18:C18) (c84:C84) (p0:L9) (again:S88→Option R) (again':S88→Option R') (k0:(Bool×L172)→Option R') (k:R'→Option R) (h:∀ s,again s=ob (again' s) k):∀ s,T88 B c18 c84 p0 again (fun y=>ob (k0 y) k) s=ob (T88 B c18 c84 p0 again' k0 s) k:=by
 rintro (_ | x)
 all_goals try cases x
 all_goals (unfold T88;repeat' first | exact rfl | exact h _ | apply qac | (apply qai;intro))
def R88 (c18:C18) (c84:C84) (p0:L9):Nat→S88→Option (Bool×L172)
 | 0,_=>none
 | n+1,s=>T88 Ops.std c18 c84 p0 (R88 c18 c84 p0 n) some (some s)
theorem rr88 {R:Type} (c18:C18) (c84:C84) (p0:L9) (k:AV→Objs→Option R):∀ (n:Nat) (s:S88),A88 Ops.std c18 c84 p0 k s n=ob (R88 c18 c84 p0 n s) (K36 k)
 | 0,s=>by cases s<;>rfl
 | n+1,s=>by rw [el88];exact nt88 Ops.std c18 c84 p0 _ _ some (K36 k) (rr88 c18 c84 p0 k n) (some s)
def F88 (c18:C18) (c84:C84) (p0:L9):Option (Bool×L172):=T88 Ops.std c18 c84 p0 (R88 c18 c84 p0 1000000) some none
abbrev C88:Type:=L9→Option (Bool×L172)
def e88 {R:Type} (c:C88):Ent R:=eG [.aC (.cL 9 ty9)] [] fun v k=>ob (c v.1) (K36 k)
abbrev Sp88 (c:C88):Prop:=∀ (p0:L9) (y:Bool×L172),c p0=some y→Spec Tryz.prog gl0 88 [.c (.list 9 ty9 p0)] [] (.tup [(false,[.own 501000]),(false,[.bool y.1])]) [(501000,.row 172 ty172 y.2)]
theorem ek88 {R:Type} {c:C88} (hs:Sp88 c):EOk 88 (e88 (R:=R) c):=qak fun v=>hs v.1
theorem sf88 {c18:C18} {c84:C84} (h18:Sp18 c18) (h84:Sp84 c84):Sp88 (F88 c18 c84):=fun p0 y hy=>by
 refine qae (qab (ek18 h18) (qab (ek84 h84) qad)) 1000000 (fn:=Tryz.f88) (by kernel_rfl) (by kernel_rfl) (X:=X88) (by kernel_rfl) ?_
 rw [eq88]
 exact (nt88 Ops.std c18 c84 p0 _ _ some (K36 k0) (rr88 c18 c84 p0 k0 1000000) none).trans (by show ob (F88 c18 c84 p0) _=_;rw [hy];rfl)
noncomputable def M88:C88:=F88 M18 M84
theorem sm88:Sp88 M88:=sf88 sm18 sm84
def X120:Aux:=⟨[],[]⟩
def T120 {R:Type} (B:Ops) (p0:Int) (k:(Bool)→Option R):Option R:=cond (B.le 1 p0) (k (B.le p0 999)) (k false)
theorem eq120 {R:Type} (B:Ops) (p0:Int) (k:AV→Objs→Option R) (n:Nat):afun tau B gl0 X120 gnil ow Tryz.f120 [.c (.int .i64 p0)] [] k n=T120 B p0 (K2 k):=by kernel_rfl
theorem nt120 {R R':Type} (B:Ops) (p0:Int) (k0:(Bool)→Option R') (k:R'→Option R):T120 B p0 (fun y=>ob (k0 y) k)=ob (T120 B p0 k0) k:=by
 unfold T120
 repeat' first | exact rfl | apply qac | (apply qai;intro)
def F120 (p0:Int):Option (Bool):=T120 Ops.std p0 some
abbrev C120:Type:=Int→Option (Bool)
def e120 {R:Type} (c:C120):Ent R:=eG [.aC (.cI .i64)] [] fun v k=>ob (c v.1) (K2 k)
abbrev Sp120 (c:C120):Prop:=∀ (p0:Int) (y:Bool),c p0=some y→Spec Tryz.prog gl0 120 [.c (.int .i64 p0)] [] (.c (.bool y)) []
theorem ek120 {R:Type} {c:C120} (hs:Sp120 c):EOk 120 (e120 (R:=R) c):=qak fun v=>hs v.1
theorem sf120:Sp120 (F120):=fun p0 y hy=>by
 refine qae qad 1000000 (fn:=Tryz.f120) (by kernel_rfl) (by kernel_rfl) (X:=X120) (by kernel_rfl) ?_
 rw [eq120]
 exact (nt120 Ops.std p0 some (K2 k0)).trans (by show ob (F120 p0) _=_;rw [hy];rfl)
noncomputable def M120:C120:=F120
theorem sm120:Sp120 M120:=sf120
def X121:Aux:=⟨[(2,([1,2]++rg 4 25))],[]⟩
inductive S121 where
 | l0 (v1:Int)
def T121 {R:Type} (B:Ops) (c62:C62) (c28:C28) (p0:L172) (again:S121→Option R) (k:(Bool)→Option R):Option S121→Option R | none=>again (.l0 0) | some (.l0 v1)=>cond (B.lt v1 (↑p0.length)) (cond (B.inb v1 p0.length) (ob (c62 (p0.getD v1.toNat ty172.dflt).1) fun y0=>cond (!y0) (k false) (cond (B.inb v1 p0.length) (ob (c28 (p0.getD v1.toNat ty172.dflt).2) fun y1=>cond (!y1) (k false) (again (.l0 (IntKind.wrap .i64 (v1+1))))) none)) none) (k (B.le (↑p0.length) 3))
def E121 (p0:L172):S121→List AV×Objs
 | .l0 v1=>(mk 29 [(0,.c (.list 172 ty172 p0)),(3,.c (.int .i64 v1))],[])
def I121:S121→Nat
 | .l0 _=>0
noncomputable abbrev A121 {R:Type} (B:Ops) (c62:C62) (c28:C28) (p0:L172) (k:AV→Objs→Option R) (s:S121) (n:Nat):Option R:=aloop tau B gl0 X121 (ent 62 (e62 c62) (ent 28 (e28 c28) gnil)) ow [] Tryz.f121 k (I121 s) (E121 p0 s) n
theorem eq121 {R:Type} (B:Ops) (c62:C62) (c28:C28) (p0:L172) (k:AV→Objs→Option R) (n:Nat):afun tau B gl0 X121 (ent 62 (e62 c62) (ent 28 (e28 c28) gnil)) ow Tryz.f121 [.c (.list 172 ty172 p0)] [] k n=T121 B c62 c28 p0 (fun s=>A121 B c62 c28 p0 k s n) (K2 k) none:=by kernel_rfl
theorem el121 {R:Type} (B:Ops) (c62:C62) (c28:C28) (p0:L172) (k:AV→Objs→Option R) (n:Nat):∀ s,A121 B c62 c28 p0 k s (n+1)=T121 B c62 c28 p0 (fun s=>A121 B c62 c28 p0 k s n) (K2 k) (some s):=by
 intro s
 cases s<;>kernel_rfl
theorem nt121 {R R':Type} (B:Ops) (c62:C62) (c28:C28) (p0:L172) (again:S121→Option R) (again':S121→Option R') (k0:(Bool)→Option R') (k:R'→Option R) (h:∀ s,again s=ob (again' s) k):∀ s,T121 B c62 c28 p0 again (fun y=>ob (k0 y) k) s=ob (T121 B c62 c28 p0 again' k0 s) k:=by
 rintro (_ | x)
 all_goals try cases x
 all_goals (unfold T121;repeat' first | exact rfl | exact h _ | apply qac | (apply qai;intro))
def R121 (c62:C62) (c28:C28) (p0:L172):Nat→S121→Option (Bool)
 | 0,_=>none
 | n+1,s=>T121 Ops.std c62 c28 p0 (R121 c62 c28 p0 n) some (some s)
theorem rr121 {R:Type} (c62:C62) (c28:C28) (p0:L172) (k:AV→Objs→Option R):∀ (n:Nat) (s:S121),A121 Ops.std c62 c28 p0 k s n=ob (R121 c62 c28 p0 n s) (K2 k)
 | 0,s=>by cases s<;>rfl
 | n+1,s=>by rw [el121];exact nt121 Ops.std c62 c28 p0 _ _ some (K2 k) (rr121 c62 c28 p0 k n) (some s)
def F121 (c62:C62) (c28:C28) (p0:L172):Option (Bool):=T121 Ops.std c62 c28 p0 (R121 c62 c28 p0 1000000) some none
abbrev C121:Type:=L172→Option (Bool)
def e121 {R:Type} (c:C121):Ent R:=eG [.aC (.cL 172 ty172)] [] fun v k=>ob (c v.1) (K2 k)
abbrev Sp121 (c:C121):Prop:=∀ (p0:L172) (y:Bool),c p0=some y→Spec Tryz.prog gl0 121 [.c (.list 172 ty172 p0)] [] (.c (.bool y)) []
theorem ek121 {R:Type} {c:C121} (hs:Sp121 c):EOk 121 (e121 (R:=R) c):=qak fun v=>hs v.1
theorem sf121 {c62:C62} {c28:C28} (h62:Sp62 c62) (h28:Sp28 c28):Sp121 (F121 c62 c28):=fun p0 y hy=>by
 refine qae (qab (ek62 h62) (qab (ek28 h28) qad)) 1000000 (fn:=Tryz.f121) (by kernel_rfl) (by kernel_rfl) (X:=X121) (by kernel_rfl) ?_
 rw [eq121]
 exact (nt121 Ops.std c62 c28 p0 _ _ some (K2 k0) (rr121 c62 c28 p0 k0 1000000) none).trans (by show ob (F121 c62 c28 p0) _=_;rw [hy];rfl)
noncomputable def M121:C121:=F121 M62 M28
theorem sm121:Sp121 M121:=sf121 sm62 sm28
def X122:Aux:=⟨[(3,([1,2]++rg 5 23))],[(5,.lin (rg 0 17))]⟩
inductive S122 where
 | l0 (v1:LB) (v2:Int)
def T122 {R:Type} (B:Ops) (c41:C41) (p0:L172) (again:S122→Option R) (k:(LB)→Option R):Option S122→Option R | none=>again (.l0 (mt UInt8) 0) | some (.l0 v1 v2)=>cond (B.lt v2 (↑p0.length)) (cond (B.lim (List.length v1+3) 1) (cond (B.inb v2 p0.length) (cond (B.lim (List.length (v1++([32,59,32]:LB))+List.length (p0.getD v2.toNat ty172.dflt).1) 1) (cond (B.lim (List.length (v1++([32,59,32]:LB)++(p0.getD v2.toNat ty172.dflt).1)+3) 1) (cond (B.inb v2 p0.length) (ob (c41 (p0.getD v2.toNat ty172.dflt).2) fun y0=>cond (B.lim (List.length (v1++([32,59,32]:LB)++(p0.getD v2.toNat ty172.dflt).1++([32,61,32]:LB))+List.length y0) 1) (again (.l0 (v1++([32,59,32]:LB)++(p0.getD v2.toNat ty172.dflt).1++([32,61,32]:LB)++y0) (IntKind.wrap .i64 (v2+1)))) none) none) none) none) none) none) (k v1)
def E122 (p0:L172):S122→List AV×Objs
 | .l0 v1 v2=>(mk 28 [(0,.c (.list 172 ty172 p0)),(3,.c (.str v1)),(4,.c (.int .i64 v2))],[])
def I122:S122→Nat
 | .l0 _ _=>0
noncomputable abbrev A122 {R:Type} (B:Ops) (c41:C41) (p0:L172) (k:AV→Objs→Option R) (s:S122) (n:Nat):Option R:=aloop tau B gl0 X122 (ent 41 (e41 c41) gnil) ow [] Tryz.f122 k (I122 s) (E122 p0 s) n
theorem eq122 {R:Type} (B:Ops) (c41:C41) (p0:L172) (k:AV→Objs→Option R) (n:Nat):afun tau B gl0 X122 (ent 41 (e41 c41) gnil) ow Tryz.f122 [.c (.list 172 ty172 p0)] [] k n=T122 B c41 p0 (fun s=>A122 B c41 p0 k s n) (K3 k) none:=by kernel_rfl
theorem el122 {R:Type} (B:Ops) (c41:C41) (p0:L172) (k:AV→Objs→Option R) (n:Nat):∀ s,A122 B c41 p0 k s (n+1)=T122 B c41 p0 (fun s=>A122 B c41 p0 k s n) (K3 k) (some s):=by
 intro s
 cases s<;>kernel_rfl
theorem nt122 {R R':Type} (B:Ops) (c41:C41) (p0:L172) (again:S122→Option R) (again':S122→Option R') (k0:(LB)→Option R') (k:R'→Option R) (h:∀ s,again s=ob (again' s) k):∀ s,T122 B c41 p0 again (fun y=>ob (k0 y) k) s=ob (T122 B c41 p0 again' k0 s) k:=by
 rintro (_ | x)
 all_goals try cases x
 all_goals (unfold T122;repeat' first | exact rfl | exact h _ | apply qac | (apply qai;intro))
def R122 (c41:C41) (p0:L172):Nat→S122→Option (LB)
 | 0,_=>none
 | n+1,s=>T122 Ops.std c41 p0 (R122 c41 p0 n) some (some s)
theorem rr122 {R:Type} (c41:C41) (p0:L172) (k:AV→Objs→Option R):∀ (n:Nat) (s:S122),A122 Ops.std c41 p0 k s n=ob (R122 c41 p0 n s) (K3 k)
 | 0,s=>by cases s<;>rfl
 | n+1,s=>by rw [el122];exact nt122 Ops.std c41 p0 _ _ some (K3 k) (rr122 c41 p0 k n) (some s)
def F122 (c41:C41) (p0:L172):Option (LB):=T122 Ops.std c41 p0 (R122 c41 p0 1000000) some none
abbrev C122:Type:=L172→Option (LB)
def e122 {R:Type} (c:C122):Ent R:=eG [.aC (.cL 172 ty172)] [] fun v k=>ob (c v.1) (K3 k)
abbrev Sp122 (c:C122):Prop:=∀ (p0:L172) (y:LB),c p0=some y→Spec Tryz.prog gl0 122 [.c (.list 172 ty172 p0)] [] (.c (.str y)) []
theorem ek122 {R:Type} {c:C122} (hs:Sp122 c):EOk 122 (e122 (R:=R) c):=qak fun v=>hs v.1
theorem sf122 {c41:C41} (h41:Sp41 c41):Sp122 (F122 c41):=fun p0 y hy=>by
 refine qae (qab (ek41 h41) qad) 1000000 (fn:=Tryz.f122) (by kernel_rfl) (by kernel_rfl) (X:=X122) (by kernel_rfl) ?_
 rw [eq122]
 exact (nt122 Ops.std c41 p0 _ _ some (K3 k0) (rr122 c41 p0 k0 1000000) none).trans (by show ob (F122 c41 p0) _=_;rw [hy];rfl)
noncomputable def M122:C122:=F122 M41
theorem sm122:Sp122 M122:=sf122 sm41
def X89:Aux:=⟨[],[(7,.lin ([0,1,4,5,8,9,12,13,16,19,20,23,24,2,3,6,7,10,11,14,15,17,18,21,22,25,26,27]))]⟩
def T89 {R:Type} (B:Ops) (c86:C86) (c120:C120) (c62:C62) (c28:C28) (c121:C121) (c75:C75) (c41:C41) (c122:C122) (p0:Int) (p1 p2 p3 p4:LB) (p5:L63) (p6:L172) (k:(LB)→Option R):Option R:=ob (c86 p4) fun y0=>ob (c120 p0) fun y1=>cond (!y1) (k (mt UInt8)) (cond (!y0.2) (k (mt UInt8)) (ob (c62 p1) fun y2=>cond (!y2) (k (mt UInt8)) (ob (c62 p2) fun y3=>cond (!y3) (k (mt UInt8)) (ob (c62 p3) fun y4=>cond (!y4) (k (mt UInt8)) (ob (c28 p5) fun y5=>cond (!y5) (k (mt UInt8)) (ob (c121 p6) fun y6=>cond (!y6) (k (mt UInt8)) (cond (p4 == mt UInt8) (ob (c75 p0) fun y7=>cond (B.lim (List.length y7+1) 1) (cond (B.lim (List.length (y7++([32]:LB))+List.length p1) 1) (cond (B.lim (List.length (y7++([32]:LB)++p1)+1) 1) (cond (B.lim (List.length (y7++([32]:LB)++p1++([32]:LB))+List.length p2) 1) (cond (B.lim (List.length (y7++([32]:LB)++p1++([32]:LB)++p2)+1) 1) (cond (B.lim (List.length (y7++([32]:LB)++p1++([32]:LB)++p2++([32]:LB))+List.length p3) 1) (cond (B.lim (List.length (y7++([32]:LB)++p1++([32]:LB)++p2++([32]:LB)++p3)+1) 1) (cond (B.lim (List.length (y7++([32]:LB)++p1++([32]:LB)++p2++([32]:LB)++p3++([32]:LB))+1) 1) (cond (B.lim (List.length (y7++([32]:LB)++p1++([32]:LB)++p2++([32]:LB)++p3++([32]:LB)++([45]:LB))+1) 1) (ob (c41 p5) fun y8=>cond (B.lim (List.length (y7++([32]:LB)++p1++([32]:LB)++p2++([32]:LB)++p3++([32]:LB)++([45]:LB)++([32]:LB))+List.length y8) 1) (ob (c122 p6) fun y9=>cond (B.lim (List.length (y7++([32]:LB)++p1++([32]:LB)++p2++([32]:LB)++p3++([32]:LB)++([45]:LB)++([32]:LB)++y8)+List.length y9) 1) (k (y7++([32]:LB)++p1++([32]:LB)++p2++([32]:LB)++p3++([32]:LB)++([45]:LB)++([32]:LB)++y8++y9)) none) none) none) none) none) none) none) none) none) none) none) (ob (c75 p0) fun y7=>cond (B.lim (List.length y7+1) 1) (cond (B.lim (List.length (y7++([32]:LB))+List.length p1) 1) (cond (B.lim (List.length (y7++([32]:LB)++p1)+1) 1) (cond (B.lim (List.length (y7++([32]:LB)++p1++([32]:LB))+List.length p2) 1) (cond (B.lim (List.length (y7++([32]:LB)++p1++([32]:LB)++p2)+1) 1) (cond (B.lim (List.length (y7++([32]:LB)++p1++([32]:LB)++p2++([32]:LB))+List.length p3) 1) (cond (B.lim (List.length (y7++([32]:LB)++p1++([32]:LB)++p2++([32]:LB)++p3)+1) 1) (cond (B.lim (List.length (y7++([32]:LB)++p1++([32]:LB)++p2++([32]:LB)++p3++([32]:LB))+List.length p4) 1) (cond (B.lim (List.length (y7++([32]:LB)++p1++([32]:LB)++p2++([32]:LB)++p3++([32]:LB)++p4)+1) 1) (ob (c41 p5) fun y8=>cond (B.lim (List.length (y7++([32]:LB)++p1++([32]:LB)++p2++([32]:LB)++p3++([32]:LB)++p4++([32]:LB))+List.length y8) 1) (ob (c122 p6) fun y9=>cond (B.lim (List.length (y7++([32]:LB)++p1++([32]:LB)++p2++([32]:LB)++p3++([32]:LB)++p4++([32]:LB)++y8)+List.length y9) 1) (k (y7++([32]:LB)++p1++([32]:LB)++p2++([32]:LB)++p3++([32]:LB)++p4++([32]:LB)++y8++y9)) none) none) none) none) none) none) none) none) none) none) none))))))))
theorem eq89 {R:Type} (B:Ops) (c86:C86) (c120:C120) (c62:C62) (c28:C28) (c121:C121) (c75:C75) (c41:C41) (c122:C122) (p0:Int) (p1 p2 p3 p4:LB) (p5:L63) (p6:L172) (k:AV→Objs→Option R) (n:Nat):afun tau B gl0 X89 (ent 86 (e86 c86) (ent 120 (e120 c120) (ent 62 (e62 c62) (ent 28 (e28 c28) (ent 121 (e121 c121) (ent 75 (e75 c75) (ent 41 (e41 c41) (ent 122 (e122 c122) gnil)))))))) ow Tryz.f89 [.agg [.int .i64 p0,.str p1,.str p2,.str p3,.str p4,.list 63 ty63 p5,.list 172 ty172 p6]] [] k n=T89 B c86 c120 c62 c28 c121 c75 c41 c122 p0 p1 p2 p3 p4 p5 p6 (K3 k):=by kernel_rfl
theorem nt89 {R R':Type} (B:Ops) (c86:C86) (c120:C120) (c62:C62) (c28:C28) (c121:C121) (c75:C75) (c41:C41) (c122:C122) (p0:Int) (p1 p2 p3 p4:LB) (p5:L63) (p6:L172) (k0:(LB)→Option R') (k:R'→Option R):T89 B c86 c120 c62 c28 c121 c75 c41 c122 p0 p1 p2 p3 p4 p5 p6 (fun y=>ob (k0 y) k)=ob (T89 B c86 c120 c62 c28 c121 c75 c41 c122 p0 p1 p2 p3 p4 p5 p6 k0) k:=by
 unfold T89
 repeat' first | exact rfl | apply qac | (apply qai;intro)
def F89 (c86:C86) (c120:C120) (c62:C62) (c28:C28) (c121:C121) (c75:C75) (c41:C41) (c122:C122) (p0:Int) (p1 p2 p3 p4:LB) (p5:L63) (p6:L172):Option (LB):=T89 Ops.std c86 c120 c62 c28 c121 c75 c41 c122 p0 p1 p2 p3 p4 p5 p6 some
abbrev C89:Type:=Int→LB→LB→LB→LB→L63→L172→Option (LB)
def e89 {R:Type} (c:C89):Ent R:=eG [.aG [.cI .i64,.cS,.cS,.cS,.cS,.cL 63 ty63,.cL 172 ty172]] [] fun v k=>ob (c v.1 v.2.1 v.2.2.1 v.2.2.2.1 v.2.2.2.2.1 v.2.2.2.2.2.1 v.2.2.2.2.2.2.1) (K3 k)
abbrev Sp89 (c:C89):Prop:=∀ (p0:Int) (p1 p2 p3 p4:LB) (p5:L63) (p6:L172) (y:LB),c p0 p1 p2 p3 p4 p5 p6=some y→Spec Tryz.prog gl0 89 [.agg [.int .i64 p0,.str p1,.str p2,.str p3,.str p4,.list 63 ty63 p5,.list 172 ty172 p6]] [] (.c (.str y)) []
theorem ek89 {R:Type} {c:C89} (hs:Sp89 c):EOk 89 (e89 (R:=R) c):=qak fun v=>hs v.1 v.2.1 v.2.2.1 v.2.2.2.1 v.2.2.2.2.1 v.2.2.2.2.2.1 v.2.2.2.2.2.2.1
theorem sf89 {c86:C86} {c120:C120} {c62:C62} {c28:C28} {c121:C121} {c75:C75} {c41:C41} {c122:C122} (h86:Sp86 c86) (h120:Sp120 c120) (h62:Sp62 c62) (h28:Sp28 c28) (h121:Sp121 c121) (h75:Sp75 c75) (h41:Sp41 c41) (h122:Sp122 c122):Sp89 (F89 c86 c120 c62 c28 c121 c75 c41 c122):=fun p0 p1 p2 p3 p4 p5 p6 y hy=>by
 refine qae (qab (ek86 h86) (qab (ek120 h120) (qab (ek62 h62) (qab (ek28 h28) (qab (ek121 h121) (qab (ek75 h75) (qab (ek41 h41) (qab (ek122 h122) qad)))))))) 1000000 (fn:=Tryz.f89) (by kernel_rfl) (by kernel_rfl) (X:=X89) (by kernel_rfl) ?_
 rw [eq89]
 exact (nt89 Ops.std c86 c120 c62 c28 c121 c75 c41 c122 p0 p1 p2 p3 p4 p5 p6 some (K3 k0)).trans (by show ob (F89 c86 c120 c62 c28 c121 c75 c41 c122 p0 p1 p2 p3 p4 p5 p6) _=_;rw [hy];rfl)
noncomputable def M89:C89:=F89 M86 M120 M62 M28 M121 M75 M41 M122
theorem sm89:Sp89 M89:=sf89 sm86 sm120 sm62 sm28 sm121 sm75 sm41 sm122
def X54:Aux:=⟨[(2000000,[])],[(5,.lin (rg 0 16))]⟩
def T54 {R:Type} (B:Ops) (c52:C52) (c85:C85) (c86:C86) (c55:C55) (c51:C51) (c87:C87) (c88:C88) (c89:C89) (p0:LB) (k:(Int×LB×LB×LB×LB×L63×L172×Bool)→Option R):Option R:=ob (c52 p0) fun y0=>cond (B.lt (↑y0.length) 6) (k ((0,mt UInt8,mt UInt8,mt UInt8,mt UInt8,mt (Ty.den ty63),mt (Ty.den ty172),false))) (cond (B.inb 0 y0.length) (ob (c85 (y0.getD (Int.toNat 0) ty9.dflt) false) fun y1=>cond (B.inb 1 y0.length) (cond (B.inb 2 y0.length) (cond (B.inb 3 y0.length) (cond (B.inb 4 y0.length) (cond (y0.getD (Int.toNat 4) ty9.dflt == ([45]:LB)) (ob (c55 p0 5) fun y2=>ob (c51 y2 59) fun y3=>cond (B.inb 0 y3.length) (ob (c87 (y3.getD (Int.toNat 0) ty9.dflt)) fun y4=>cond (B.inb 1 (List.length y3+1)) (ob (c88 (List.drop (Int.toNat 1) (List.take y3.length y3))) fun y5=>cond (!y1.2) (k ((0,mt UInt8,mt UInt8,mt UInt8,mt UInt8,mt (Ty.den ty63),mt (Ty.den ty172),false))) (cond (!B.eq y4.1 0) (k ((0,mt UInt8,mt UInt8,mt UInt8,mt UInt8,mt (Ty.den ty63),mt (Ty.den ty172),false))) (cond (!y5.1) (k ((0,mt UInt8,mt UInt8,mt UInt8,mt UInt8,mt (Ty.den ty63),mt (Ty.den ty172),false))) (ob (c89 y1.1 (y0.getD (Int.toNat 1) ty9.dflt) (y0.getD (Int.toNat 2) ty9.dflt) (y0.getD (Int.toNat 3) ty9.dflt) (mt UInt8) y4.2.2 y5.2) fun y6=>cond (y6 == mt UInt8) (k ((0,mt UInt8,mt UInt8,mt UInt8,mt UInt8,mt (Ty.den ty63),mt (Ty.den ty172),false))) (k ((y1.1,y0.getD (Int.toNat 1) ty9.dflt,y0.getD (Int.toNat 2) ty9.dflt,y0.getD (Int.toNat 3) ty9.dflt,mt UInt8,y4.2.2,y5.2,true))))))) none) none) (ob (c86 (y0.getD (Int.toNat 4) ty9.dflt)) fun y2=>cond (!y2.2) (k ((0,mt UInt8,mt UInt8,mt UInt8,mt UInt8,mt (Ty.den ty63),mt (Ty.den ty172),false))) (ob (c55 p0 5) fun y3=>ob (c51 y3 59) fun y4=>cond (B.inb 0 y4.length) (ob (c87 (y4.getD (Int.toNat 0) ty9.dflt)) fun y5=>cond (B.inb 1 (List.length y4+1)) (ob (c88 (List.drop (Int.toNat 1) (List.take y4.length y4))) fun y6=>cond (!y1.2) (k ((0,mt UInt8,mt UInt8,mt UInt8,mt UInt8,mt (Ty.den ty63),mt (Ty.den ty172),false))) (cond (!B.eq y5.1 0) (k ((0,mt UInt8,mt UInt8,mt UInt8,mt UInt8,mt (Ty.den ty63),mt (Ty.den ty172),false))) (cond (!y6.1) (k ((0,mt UInt8,mt UInt8,mt UInt8,mt UInt8,mt (Ty.den ty63),mt (Ty.den ty172),false))) (ob (c89 y1.1 (y0.getD (Int.toNat 1) ty9.dflt) (y0.getD (Int.toNat 2) ty9.dflt) (y0.getD (Int.toNat 3) ty9.dflt) (y0.getD (Int.toNat 4) ty9.dflt) y5.2.2 y6.2) fun y7=>cond (y7 == mt UInt8) (k ((0,mt UInt8,mt UInt8,mt UInt8,mt UInt8,mt (Ty.den ty63),mt (Ty.den ty172),false))) (k ((y1.1,y0.getD (Int.toNat 1) ty9.dflt,y0.getD (Int.toNat 2) ty9.dflt,y0.getD (Int.toNat 3) ty9.dflt,y0.getD (Int.toNat 4) ty9.dflt,y5.2.2,y6.2,true))))))) none) none))) none) none) none) none) none)
abbrev K37 {R:Type} (k:AV→Objs→Option R) (y:(Int×LB×LB×LB×LB×L63×L172×Bool)):Option R:=k (.tup [(true,[.int .i64 y.1,.str y.2.1,.str y.2.2.1,.str y.2.2.2.1,.str y.2.2.2.2.1,.list 63 ty63 y.2.2.2.2.2.1,.list 172 ty172 y.2.2.2.2.2.2.1]),(false,[.bool y.2.2.2.2.2.2.2])]) []
theorem eq54 {R:Type} (B:Ops) (c52:C52) (c85:C85) (c86:C86) (c55:C55) (c51:C51) (c87:C87) (c88:C88) (c89:C89) (p0:LB) (k:AV→Objs→Option R) (n:Nat):afun tau B gl0 X54 (ent 52 (e52 c52) (ent 85 (e85 c85) (ent 86 (e86 c86) (ent 55 (e55 c55) (ent 51 (e51 c51) (ent 87 (e87 c87) (ent 88 (e88 c88) (ent 89 (e89 c89) gnil)))))))) ow Tryz.f54 [.c (.str p0)] [] k n=T54 B c52 c85 c86 c55 c51 c87 c88 c89 p0 (K37 k):=by kernel_rfl
theorem nt54 {R R':Type} (B:Ops) (c52:C52) (c85:C85) (c86:C86) (c55:C55) (c51:C51) (c87:C87) (c88:C88) (c89:C89) (p0:LB) (k0:(Int×LB×LB×LB×LB×L63×L172×Bool)→Option R') (k:R'→Option R):T54 B c52 c85 c86 c55 c51 c87 c88 c89 p0 (fun y=>ob (k0 y) k)=ob (T54 B c52 c85 c86 c55 c51 c87 c88 c89 p0 k0) k:=by
 unfold T54
 repeat' first | exact rfl | apply qac | (apply qai;intro)
def F54 (c52:C52) (c85:C85) (c86:C86) (c55:C55) (c51:C51) (c87:C87) (c88:C88) (c89:C89) (p0:LB):Option (Int×LB×LB×LB×LB×L63×L172×Bool):=T54 Ops.std c52 c85 c86 c55 c51 c87 c88 c89 p0 some
abbrev C54:Type:=LB→Option (Int×LB×LB×LB×LB×L63×L172×Bool)
def e54 {R:Type} (c:C54):Ent R:=eG [.aC .cS] [] fun v k=>ob (c v.1) (K37 k)
abbrev Sp54 (c:C54):Prop:=∀ (p0:LB) (y:Int×LB×LB×LB×LB×L63×L172×Bool),c p0=some y→Spec Tryz.prog gl0 54 [.c (.str p0)] [] (.tup [(true,[.int .i64 y.1,.str y.2.1,.str y.2.2.1,.str y.2.2.2.1,.str y.2.2.2.2.1,.list 63 ty63 y.2.2.2.2.2.1,.list 172 ty172 y.2.2.2.2.2.2.1]),(false,[.bool y.2.2.2.2.2.2.2])]) []
theorem ek54 {R:Type} {c:C54} (hs:Sp54 c):EOk 54 (e54 (R:=R) c):=qak fun v=>hs v.1
theorem sf54 {c52:C52} {c85:C85} {c86:C86} {c55:C55} {c51:C51} {c87:C87} {c88:C88} {c89:C89} (h52:Sp52 c52) (h85:Sp85 c85) (h86:Sp86 c86) (h55:Sp55 c55) (h51:Sp51 c51) (h87:Sp87 c87) (h88:Sp88 c88) (h89:Sp89 c89):Sp54 (F54 c52 c85 c86 c55 c51 c87 c88 c89):=fun p0 y hy=>by
 refine qae (qab (ek52 h52) (qab (ek85 h85) (qab (ek86 h86) (qab (ek55 h55) (qab (ek51 h51) (qab (ek87 h87) (qab (ek88 h88) (qab (ek89 h89) qad)))))))) 1000000 (fn:=Tryz.f54) (by kernel_rfl) (by kernel_rfl) (X:=X54) (by kernel_rfl) ?_
 rw [eq54]
 exact (nt54 Ops.std c52 c85 c86 c55 c51 c87 c88 c89 p0 some (K37 k0)).trans (by show ob (F54 c52 c85 c86 c55 c51 c87 c88 c89 p0) _=_;rw [hy];rfl)
noncomputable def M54:C54:=F54 M52 M85 M86 M55 M51 M87 M88 M89
theorem sm54:Sp54 M54:=sf54 sm52 sm85 sm86 sm55 sm51 sm87 sm88 sm89
def X90:Aux:=⟨[],[]⟩
def T90 {R:Type} (B:Ops) (p0:Int) (k:(Bool)→Option R):Option R:=cond (B.le (-999) p0) (k (B.le p0 999)) (k false)
theorem eq90 {R:Type} (B:Ops) (p0:Int) (k:AV→Objs→Option R) (n:Nat):afun tau B gl0 X90 gnil ow Tryz.f90 [.c (.int .i64 p0)] [] k n=T90 B p0 (K2 k):=by kernel_rfl
theorem nt90 {R R':Type} (B:Ops) (p0:Int) (k0:(Bool)→Option R') (k:R'→Option R):T90 B p0 (fun y=>ob (k0 y) k)=ob (T90 B p0 k0) k:=by
 unfold T90
 repeat' first | exact rfl | apply qac | (apply qai;intro)
def F90 (p0:Int):Option (Bool):=T90 Ops.std p0 some
abbrev C90:Type:=Int→Option (Bool)
def e90 {R:Type} (c:C90):Ent R:=eG [.aC (.cI .i64)] [] fun v k=>ob (c v.1) (K2 k)
abbrev Sp90 (c:C90):Prop:=∀ (p0:Int) (y:Bool),c p0=some y→Spec Tryz.prog gl0 90 [.c (.int .i64 p0)] [] (.c (.bool y)) []
theorem ek90 {R:Type} {c:C90} (hs:Sp90 c):EOk 90 (e90 (R:=R) c):=qak fun v=>hs v.1
theorem sf90:Sp90 (F90):=fun p0 y hy=>by
 refine qae qad 1000000 (fn:=Tryz.f90) (by kernel_rfl) (by kernel_rfl) (X:=X90) (by kernel_rfl) ?_
 rw [eq90]
 exact (nt90 Ops.std p0 some (K2 k0)).trans (by show ob (F90 p0) _=_;rw [hy];rfl)
noncomputable def M90:C90:=F90
theorem sm90:Sp90 M90:=sf90
def X91:Aux:=⟨[(2,([1,2]++rg 4 21)),(5,([1,2]++rg 5 20))],[(7,.lin [0,1,2,3,4,5,6,7,8])]⟩
inductive S91 where
 | l0 (v1:Int)
 | l1 (v1 v2:Int)
def T91 {R:Type} (B:Ops) (p0:L9) (again:S91→Option R) (k:(Bool)→Option R):Option S91→Option R | none=>again (.l0 0) | some (.l0 v1)=>cond (B.lt v1 (↑p0.length)) (again (.l1 v1 0)) (k false) | some (.l1 v1 v2)=>cond (B.lt v2 v1) (cond (B.inb v1 p0.length) (cond (B.inb v2 p0.length) (cond (p0.getD v1.toNat ty9.dflt == p0.getD v2.toNat ty9.dflt) (k true) (again (.l1 v1 (IntKind.wrap .i64 (v2+1))))) none) none) (again (.l0 (IntKind.wrap .i64 (v1+1))))
def E91 (p0:L9):S91→List AV×Objs
 | .l0 v1=>(mk 25 [(0,.c (.list 9 ty9 p0)),(3,.c (.int .i64 v1))],[])
 | .l1 v1 v2=>(mk 25 [(0,.c (.list 9 ty9 p0)),(3,.c (.int .i64 v1)),(4,.c (.int .i64 v2))],[])
def I91:S91→Nat
 | .l0 _=>0
 | .l1 _ _=>1
noncomputable abbrev A91 {R:Type} (B:Ops) (p0:L9) (k:AV→Objs→Option R) (s:S91) (n:Nat):Option R:=aloop tau B gl0 X91 gnil ow [] Tryz.f91 k (I91 s) (E91 p0 s) n
theorem eq91 {R:Type} (B:Ops) (p0:L9) (k:AV→Objs→Option R) (n:Nat):afun tau B gl0 X91 gnil ow Tryz.f91 [.c (.list 9 ty9 p0)] [] k n=T91 B p0 (fun s=>A91 B p0 k s n) (K2 k) none:=by kernel_rfl
theorem el91 {R:Type} (B:Ops) (p0:L9) (k:AV→Objs→Option R) (n:Nat):∀ s,A91 B p0 k s (n+1)=T91 B p0 (fun s=>A91 B p0 k s n) (K2 k) (some s):=by
 intro s
 cases s<;>kernel_rfl
theorem nt91 {R R':Type} (B:Ops) (p0:L9) (again:S91→Option R) (again':S91→Option R') (k0:(Bool)→Option R') (k:R'→Option R) (h:∀ s,again s=ob (again' s) k):∀ s,T91 B p0 again (fun y=>ob (k0 y) k) s=ob (T91 B p0 again' k0 s) k:=by
 rintro (_ | x)
 all_goals try cases x
 all_goals (unfold T91;repeat' first | exact rfl | exact h _ | apply qac | (apply qai;intro))
def R91 (p0:L9):Nat→S91→Option (Bool)
 | 0,_=>none
 | n+1,s=>T91 Ops.std p0 (R91 p0 n) some (some s)
theorem rr91 {R:Type} (p0:L9) (k:AV→Objs→Option R):∀ (n:Nat) (s:S91),A91 Ops.std p0 k s n=ob (R91 p0 n s) (K2 k)
 | 0,s=>by cases s<;>rfl
 | n+1,s=>by rw [el91];exact nt91 Ops.std p0 _ _ some (K2 k) (rr91 p0 k n) (some s)
def F91 (p0:L9):Option (Bool):=T91 Ops.std p0 (R91 p0 1000000) some none
abbrev C91:Type:=L9→Option (Bool)
def e91 {R:Type} (c:C91):Ent R:=eG [.aC (.cL 9 ty9)] [] fun v k=>ob (c v.1) (K2 k)
abbrev Sp91 (c:C91):Prop:=∀ (p0:L9) (y:Bool),c p0=some y→Spec Tryz.prog gl0 91 [.c (.list 9 ty9 p0)] [] (.c (.bool y)) []
theorem ek91 {R:Type} {c:C91} (hs:Sp91 c):EOk 91 (e91 (R:=R) c):=qak fun v=>hs v.1
theorem sf91:Sp91 (F91):=fun p0 y hy=>by
 refine qae qad 1000000 (fn:=Tryz.f91) (by kernel_rfl) (by kernel_rfl) (X:=X91) (by kernel_rfl) ?_
 rw [eq91]
 exact (nt91 Ops.std p0 _ _ some (K2 k0) (rr91 p0 k0 1000000) none).trans (by show ob (F91 p0) _=_;rw [hy];rfl)
noncomputable def M91:C91:=F91
theorem sm91:Sp91 M91:=sf91
def X92:Aux:=⟨[(6,([0,1,4,5,6,7]++rg 9 74))],[(8,.lin (rg 0 20))]⟩
inductive S92 where
 | l0 (v0:Int)
def T92 {R:Type} (B:Ops) (c68:C68) (c86:C86) (c120:C120) (c67:C67) (c32:C32) (c66:C66) (p0:L97) (p1:L101) (p2:L104) (p3:Int) (p4 p5 p6 p7:LB) (p8:L63) (p9:L172) (again:S92→Option R) (k:(Bool)→Option R):Option S92→Option R | none=>ob (c68 p0 p1 p2 p4) fun y0=>ob (c86 p7) fun y1=>ob (c120 p3) fun y2=>cond (!y2) (k false) (cond (!y1.2) (k false) (ob (c67 p0 p1 p2 y0 p5) fun y3=>cond (B.lt y3 0) (k false) (ob (c67 p0 p1 p2 y0 p6) fun y4=>cond (B.lt y4 0) (k false) (ob (c32 p0 p1 p2 p8) fun y5=>cond (!y5) (k false) (cond (B.lt 3 (↑p9.length)) (k false) (again (.l0 0))))))) | some (.l0 v0)=>cond (B.lt v0 (↑p9.length)) (cond (B.inb v0 p9.length) (ob (c66 p0 p1 p2 (p9.getD v0.toNat ty172.dflt).1) fun y0=>cond (B.lt y0 0) (k false) (cond (B.inb v0 p9.length) (ob (c32 p0 p1 p2 (p9.getD v0.toNat ty172.dflt).2) fun y1=>cond (!y1) (k false) (again (.l0 (IntKind.wrap .i64 (v0+1))))) none)) none) (k true)
def E92 (p0:L97) (p1:L101) (p2:L104) (p3:Int) (p4 p5 p6 p7:LB) (p8:L63) (p9:L172):S92→List AV×Objs
 | .l0 v0=>(mk 83 [(2,.c (.ptr 2 0)),(3,.c (.ptr 3 0)),(8,.c (.int .i64 v0))],[(2,.box 37 [.list 97 ty97 p0,.list 101 ty101 p1,.list 104 ty104 p2]),(3,.box 104 [.int .i64 p3,.str p4,.str p5,.str p6,.str p7,.list 63 ty63 p8,.list 172 ty172 p9])])
def I92:S92→Nat
 | .l0 _=>0
noncomputable abbrev A92 {R:Type} (B:Ops) (c68:C68) (c86:C86) (c120:C120) (c67:C67) (c32:C32) (c66:C66) (p0:L97) (p1:L101) (p2:L104) (p3:Int) (p4 p5 p6 p7:LB) (p8:L63) (p9:L172) (k:AV→Objs→Option R) (s:S92) (n:Nat):Option R:=aloop tau B gl0 X92 (ent 68 (e68 c68) (ent 86 (e86 c86) (ent 120 (e120 c120) (ent 67 (e67 c67) (ent 32 (e32 c32) (ent 66 (e66 c66) gnil)))))) ow [] Tryz.f92 k (I92 s) (E92 p0 p1 p2 p3 p4 p5 p6 p7 p8 p9 s) n
theorem eq92 {R:Type} (B:Ops) (c68:C68) (c86:C86) (c120:C120) (c67:C67) (c32:C32) (c66:C66) (p0:L97) (p1:L101) (p2:L104) (p3:Int) (p4 p5 p6 p7:LB) (p8:L63) (p9:L172) (k:AV→Objs→Option R) (n:Nat):afun tau B gl0 X92 (ent 68 (e68 c68) (ent 86 (e86 c86) (ent 120 (e120 c120) (ent 67 (e67 c67) (ent 32 (e32 c32) (ent 66 (e66 c66) gnil)))))) ow Tryz.f92 [.agg [.list 97 ty97 p0,.list 101 ty101 p1,.list 104 ty104 p2],.agg [.int .i64 p3,.str p4,.str p5,.str p6,.str p7,.list 63 ty63 p8,.list 172 ty172 p9]] [] k n=T92 B c68 c86 c120 c67 c32 c66 p0 p1 p2 p3 p4 p5 p6 p7 p8 p9 (fun s=>A92 B c68 c86 c120 c67 c32 c66 p0 p1 p2 p3 p4 p5 p6 p7 p8 p9 k s n) (K2 k) none:=by kernel_rfl
theorem el92 {R:Type} (B:Ops) (c68:C68) (c86:C86) (c120:C120) (c67:C67) (c32:C32) (c66:C66) (p0:L97) (p1:L101) (p2:L104) (p3:Int) (p4 p5 p6 p7:LB) (p8:L63) (p9:L172) (k:AV→Objs→Option R) (n:Nat):∀ s,A92 B c68 c86 c120 c67 c32 c66 p0 p1 p2 p3 p4 p5 p6 p7 p8 p9 k s (n+1)=T92 B c68 c86 c120 c67 c32 c66 p0 p1 p2 p3 p4 p5 p6 p7 p8 p9 (fun s=>A92 B c68 c86 c120 c67 c32 c66 p0 p1 p2 p3 p4 p5 p6 p7 p8 p9 k s n) (K2 k) (some s):=by
 intro s
 cases s<;>kernel_rfl
theorem nt92 {R R':Type} (B:Ops) (c68:C68) (c86:C86) (c120:C120) (c67:C67) (c32:C32) (c66:C66) (p0:L97) (p1:L101) (p2:L104) (p3:Int) (p4 p5 p6 p7:LB) (p8:L63) (p9:L172) (again:S92→Option R) (again':S92→Option R') (k0:(Bool)→Option R') (k:R'→Option R) (h:∀ s,again s=ob (again' s) k):∀ s,T92 B c68 c86 c120 c67 c32 c66 p0 p1 p2 p3 p4 p5 p6 p7 p8 p9 again (fun y=>ob (k0 y) k) s=ob (T92 B c68 c86 c120 c67 c32 c66 p0 p1 p2 p3 p4 p5 p6 p7 p8 p9 again' k0 s) k:=by
 rintro (_ | x)
 all_goals try cases x
 all_goals (unfold T92;repeat' first | exact rfl | exact h _ | apply qac | (apply qai;intro))
def R92 (c68:C68) (c86:C86) (c120:C120) (c67:C67) (c32:C32) (c66:C66) (p0:L97) (p1:L101) (p2:L104) (p3:Int) (p4 p5 p6 p7:LB) (p8:L63) (p9:L172):Nat→S92→Option (Bool)
 | 0,_=>none
 | n+1,s=>T92 Ops.std c68 c86 c120 c67 c32 c66 p0 p1 p2 p3 p4 p5 p6 p7 p8 p9 (R92 c68 c86 c120 c67 c32 c66 p0 p1 p2 p3 p4 p5 p6 p7 p8 p9 n) some (some s)
theorem rr92 {R:Type} (c68:C68) (c86:C86) (c120:C120) (c67:C67) (c32:C32) (c66:C66) (p0:L97) (p1:L101) (p2:L104) (p3:Int) (p4 p5 p6 p7:LB) (p8:L63) (p9:L172) (k:AV→Objs→Option R):∀ (n:Nat) (s:S92),A92 Ops.std c68 c86 c120 c67 c32 c66 p0 p1 p2 p3 p4 p5 p6 p7 p8 p9 k s n=ob (R92 c68 c86 c120 c67 c32 c66 p0 p1 p2 p3 p4 p5 p6 p7 p8 p9 n s) (K2 k)
 | 0,s=>by cases s<;>rfl
 | n+1,s=>by rw [el92];exact nt92 Ops.std c68 c86 c120 c67 c32 c66 p0 p1 p2 p3 p4 p5 p6 p7 p8 p9 _ _ some (K2 k) (rr92 c68 c86 c120 c67 c32 c66 p0 p1 p2 p3 p4 p5 p6 p7 p8 p9 k n) (some s)
def F92 (c68:C68) (c86:C86) (c120:C120) (c67:C67) (c32:C32) (c66:C66) (p0:L97) (p1:L101) (p2:L104) (p3:Int) (p4 p5 p6 p7:LB) (p8:L63) (p9:L172):Option (Bool):=T92 Ops.std c68 c86 c120 c67 c32 c66 p0 p1 p2 p3 p4 p5 p6 p7 p8 p9 (R92 c68 c86 c120 c67 c32 c66 p0 p1 p2 p3 p4 p5 p6 p7 p8 p9 1000000) some none
abbrev C92:Type:=L97→L101→L104→Int→LB→LB→LB→LB→L63→L172→Option (Bool)
def e92 {R:Type} (c:C92):Ent R:=eG [.aG [.cL 97 ty97,.cL 101 ty101,.cL 104 ty104],.aG [.cI .i64,.cS,.cS,.cS,.cS,.cL 63 ty63,.cL 172 ty172]] [] fun v k=>ob (c v.1 v.2.1 v.2.2.1 v.2.2.2.1 v.2.2.2.2.1 v.2.2.2.2.2.1 v.2.2.2.2.2.2.1 v.2.2.2.2.2.2.2.1 v.2.2.2.2.2.2.2.2.1 v.2.2.2.2.2.2.2.2.2.1) (K2 k)
abbrev Sp92 (c:C92):Prop:=∀ (p0:L97) (p1:L101) (p2:L104) (p3:Int) (p4 p5 p6 p7:LB) (p8:L63) (p9:L172) (y:Bool),c p0 p1 p2 p3 p4 p5 p6 p7 p8 p9=some y→Spec Tryz.prog gl0 92 [.agg [.list 97 ty97 p0,.list 101 ty101 p1,.list 104 ty104 p2],.agg [.int .i64 p3,.str p4,.str p5,.str p6,.str p7,.list 63 ty63 p8,.list 172 ty172 p9]] [] (.c (.bool y)) []
theorem ek92 {R:Type} {c:C92} (hs:Sp92 c):EOk 92 (e92 (R:=R) c):=qak fun v=>hs v.1 v.2.1 v.2.2.1 v.2.2.2.1 v.2.2.2.2.1 v.2.2.2.2.2.1 v.2.2.2.2.2.2.1 v.2.2.2.2.2.2.2.1 v.2.2.2.2.2.2.2.2.1 v.2.2.2.2.2.2.2.2.2.1
theorem sf92 {c68:C68} {c86:C86} {c120:C120} {c67:C67} {c32:C32} {c66:C66} (h68:Sp68 c68) (h86:Sp86 c86) (h120:Sp120 c120) (h67:Sp67 c67) (h32:Sp32 c32) (h66:Sp66 c66):Sp92 (F92 c68 c86 c120 c67 c32 c66):=fun p0 p1 p2 p3 p4 p5 p6 p7 p8 p9 y hy=>by
 refine qae (qab (ek68 h68) (qab (ek86 h86) (qab (ek120 h120) (qab (ek67 h67) (qab (ek32 h32) (qab (ek66 h66) qad)))))) 1000000 (fn:=Tryz.f92) (by kernel_rfl) (by kernel_rfl) (X:=X92) (by kernel_rfl) ?_
 rw [eq92]
 exact (nt92 Ops.std c68 c86 c120 c67 c32 c66 p0 p1 p2 p3 p4 p5 p6 p7 p8 p9 _ _ some (K2 k0) (rr92 c68 c86 c120 c67 c32 c66 p0 p1 p2 p3 p4 p5 p6 p7 p8 p9 k0 1000000) none).trans (by show ob (F92 c68 c86 c120 c67 c32 c66 p0 p1 p2 p3 p4 p5 p6 p7 p8 p9) _=_;rw [hy];rfl)
noncomputable def M92:C92:=F92 M68 M86 M120 M67 M32 M66
theorem sm92:Sp92 M92:=sf92 sm68 sm86 sm120 sm67 sm32 sm66
def X56:Aux:=⟨[(3,([0,2]++rg 6 166)),(10,([0,2,5,6]++rg 8 164)),(17,([0,2,5,6]++rg 10 162)),(24,([0,2,3,4,5,6,7,8,9]++rg 11 161)),(1000004,([0,2]++rg 6 166)),(1000016,([0,2,5,6]++rg 9 163)),(1000023,([0]++rg 2 170)),(1000025,([0,2,3,4,5,6,7,8,9]++rg 11 161))],[(26,.lin (rg 0 28))]⟩
inductive S56 where
 | l0 (v0:Int) (v4:L9)
 | l1 (v0:Int) (v4 v5:L9)
 | l2 (v0 v1:Int) (v5 v6:L9) (v7:LB) (v8:L9)
 | l3 (v0:Int)
 | l1004 (v0:Int) (v4:L9)
 | l1016 (v0:Int) (v4 v5:L9) (v6:LB) (v7:L9)
 | l1023
 | l1025 (v0:Int)
def T56 {R:Type} (B:Ops) (c62:C62) (c90:C90) (c91:C91) (c92:C92) (p0:L97) (p1:L101) (p2:L104) (again:S56→Option R) (k:(Bool)→Option R):Option S56→Option R | none=>again (.l0 0 (mt (Ty.den Ty.str))) | some (.l0 v0 v4)=>cond (B.lt v0 (↑p0.length)) (cond (B.inb v0 p0.length) (cond (B.lim (List.length v4+List.length ((p0.getD v0.toNat ty97.dflt).1::mt (Ty.den Ty.str))) 16) (ob (c62 (p0.getD v0.toNat ty97.dflt).1) fun y0=>cond (!y0) (k false) (cond (B.lt (((p0.getD v0.toNat ty97.dflt).2).2).2 ((p0.getD v0.toNat ty97.dflt).2).1) (k false) (cond (B.lt (((p0.getD v0.toNat ty97.dflt).2).2).1 (((p0.getD v0.toNat ty97.dflt).2).2).2) (k false) (ob (c90 ((p0.getD v0.toNat ty97.dflt).2).1) fun y1=>cond (!y1) (k false) (ob (c90 (((p0.getD v0.toNat ty97.dflt).2).2).1) fun y2=>cond (!y2) (k false) (again (.l1004 v0 (v4++(p0.getD v0.toNat ty97.dflt).1::mt (Ty.den Ty.str))))))))) none) none) (again (.l1 0 v4 ((mt (Ty.den Ty.str))))) | some (.l1 v0 v4 v5)=>cond (B.lt v0 (↑p1.length)) (cond (B.inb v0 p1.length) (cond (B.lim (List.length v5+List.length ((p1.getD v0.toNat ty101.dflt).1::mt (Ty.den Ty.str))) 16) (ob (c62 (p1.getD v0.toNat ty101.dflt).1) fun y0=>cond (!y0) (k false) (cond (B.lt (Nat.cast (List.length (p1.getD v0.toNat ty101.dflt).2)) 1) (k false) (cond (B.lt 6 (Nat.cast (List.length (p1.getD v0.toNat ty101.dflt).2))) (k false) (ob (c91 (p1.getD v0.toNat ty101.dflt).2) fun y1=>cond (y1) (k false) (again (.l1016 v0 v4 (v5++(p1.getD v0.toNat ty101.dflt).1::mt (Ty.den Ty.str)) (p1.getD v0.toNat ty101.dflt).1 (p1.getD v0.toNat ty101.dflt).2)))))) none) none) (cond (B.lt 4 (↑v4.length)) (k false) (cond (B.lt (↑v5.length) 1) (k false) (cond (B.lt 3 (↑v5.length)) (k false) (cond (B.lt 16 (↑p2.length)) (k false) (ob (c91 v4) fun y0=>cond (y0) (k false) (ob (c91 v5) fun y1=>cond (y1) (k false) (again (.l1023)))))))) | some (.l2 v0 v1 v5 v6 v7 v8)=>cond (B.lt v1 (↑v8.length)) (cond (B.inb v1 v8.length) (ob (c62 (v8.getD v1.toNat ty9.dflt)) fun y0=>cond (!y0) (k false) (again (.l2 v0 (IntKind.wrap .i64 (v1+1)) v5 v6 v7 v8))) none) (again (.l1 (IntKind.wrap .i64 (v0+1)) v5 v6)) | some (.l3 v0)=>cond (B.lt v0 (↑p2.length)) (cond (B.inb v0 p2.length) (ob (c92 p0 p1 p2 (p2.getD v0.toNat ty104.dflt).1 ((p2.getD v0.toNat ty104.dflt).2).1 (((p2.getD v0.toNat ty104.dflt).2).2).1 ((((p2.getD v0.toNat ty104.dflt).2).2).2).1 ((((((p2.getD v0.toNat ty104.dflt).2).2).2).2).1) (Prod.fst ((((((p2.getD v0.toNat ty104.dflt).2).2).2).2).2)) (Prod.snd ((((((p2.getD v0.toNat ty104.dflt).2).2).2).2).2))) fun y0=>cond (!y0) (k false) (cond (B.lt 0 v0) (cond (B.inb v0 p2.length) (cond (B.inb (IntKind.wrap .i64 (v0-1)) p2.length) (cond (B.le (p2.getD v0.toNat ty104.dflt).1 (p2.getD (Int.toNat (IntKind.wrap .i64 (v0-1))) ty104.dflt).1) (k false) (again (.l1025 v0))) none) none) (again (.l1025 v0)))) none) (k true) | some (.l1004 v0 v4)=>again (.l0 (IntKind.wrap .i64 (v0+1)) v4) | some (.l1016 v0 v4 v5 v6 v7)=>again (.l2 v0 0 v4 v5 v6 v7) | some (.l1023)=>again (.l3 0) | some (.l1025 v0)=>again (.l3 (IntKind.wrap .i64 (v0+1)))
def E56 (p0:L97) (p1:L101) (p2:L104):S56→List AV×Objs
 | .l0 v0 v4=>(mk 172 [(1,.c (.ptr 1 0)),(3,.c (.own 3)),(4,.c (.own 4)),(5,.c (.int .i64 v0))],[(1,.box 37 [.list 97 ty97 p0,.list 101 ty101 p1,.list 104 ty104 p2]),(3,.row 9 ty9 v4),(4,.row 9 ty9 (mt (Ty.den Ty.str)))])
 | .l1 v0 v4 v5=>(mk 172 [(1,.c (.ptr 1 0)),(3,.c (.own 3)),(4,.c (.own 4)),(7,.c (.int .i64 v0))],[(1,.box 37 [.list 97 ty97 p0,.list 101 ty101 p1,.list 104 ty104 p2]),(3,.row 9 ty9 v4),(4,.row 9 ty9 v5)])
 | .l2 v0 v1 v5 v6 v7 v8=>(mk 172 [(1,.c (.ptr 1 0)),(3,.c (.own 3)),(4,.c (.own 4)),(7,.c (.int .i64 v0)),(8,.c (.ptr 8 0)),(9,.c (.int .i64 v1))],[(1,.box 37 [.list 97 ty97 p0,.list 101 ty101 p1,.list 104 ty104 p2]),(3,.row 9 ty9 v5),(4,.row 9 ty9 v6),(8,.box 101 [.str v7,.list 9 ty9 v8])])
 | .l3 v0=>(mk 172 [(1,.c (.ptr 1 0)),(10,.c (.int .i64 v0))],[(1,.box 37 [.list 97 ty97 p0,.list 101 ty101 p1,.list 104 ty104 p2])])
 | .l1004 v0 v4=>(mk 172 [(1,.c (.ptr 1 0)),(3,.c (.own 3)),(4,.c (.own 4)),(5,.c (.int .i64 v0))],[(1,.box 37 [.list 97 ty97 p0,.list 101 ty101 p1,.list 104 ty104 p2]),(3,.row 9 ty9 v4),(4,.row 9 ty9 (mt (Ty.den Ty.str)))])
 | .l1016 v0 v4 v5 v6 v7=>(mk 172 [(1,.c (.ptr 1 0)),(3,.c (.own 3)),(4,.c (.own 4)),(7,.c (.int .i64 v0)),(8,.c (.ptr 8 0))],[(1,.box 37 [.list 97 ty97 p0,.list 101 ty101 p1,.list 104 ty104 p2]),(3,.row 9 ty9 v4),(4,.row 9 ty9 v5),(8,.box 101 [.str v6,.list 9 ty9 v7])])
 | .l1023=>(mk 172 [(1,.c (.ptr 1 0))],[(1,.box 37 [.list 97 ty97 p0,.list 101 ty101 p1,.list 104 ty104 p2])])
 | .l1025 v0=>(mk 172 [(1,.c (.ptr 1 0)),(10,.c (.int .i64 v0))],[(1,.box 37 [.list 97 ty97 p0,.list 101 ty101 p1,.list 104 ty104 p2])])
def I56:S56→Nat
 | .l0 _ _=>0
 | .l1 _ _ _=>1
 | .l2 _ _ _ _ _ _=>2
 | .l3 _=>3
 | .l1004 _ _=>1004
 | .l1016 _ _ _ _ _=>1016
 | .l1023=>1023
 | .l1025 _=>1025
noncomputable abbrev A56 {R:Type} (B:Ops) (c62:C62) (c90:C90) (c91:C91) (c92:C92) (p0:L97) (p1:L101) (p2:L104) (k:AV→Objs→Option R) (s:S56) (n:Nat):Option R:=aloop tau B gl0 X56 (ent 62 (e62 c62) (ent 90 (e90 c90) (ent 91 (e91 c91) (ent 92 (e92 c92) gnil)))) ow [] Tryz.f56 k (I56 s) (E56 p0 p1 p2 s) n
theorem eq56 {R:Type} (B:Ops) (c62:C62) (c90:C90) (c91:C91) (c92:C92) (p0:L97) (p1:L101) (p2:L104) (k:AV→Objs→Option R) (n:Nat):afun tau B gl0 X56 (ent 62 (e62 c62) (ent 90 (e90 c90) (ent 91 (e91 c91) (ent 92 (e92 c92) gnil)))) ow Tryz.f56 [.agg [.list 97 ty97 p0,.list 101 ty101 p1,.list 104 ty104 p2]] [] k n=T56 B c62 c90 c91 c92 p0 p1 p2 (fun s=>A56 B c62 c90 c91 c92 p0 p1 p2 k s n) (K2 k) none:=by kernel_rfl
theorem el56 {R:Type} (B:Ops) (c62:C62) (c90:C90) (c91:C91) (c92:C92) (p0:L97) (p1:L101) (p2:L104) (k:AV→Objs→Option R) (n:Nat):∀ s,A56 B c62 c90 c91 c92 p0 p1 p2 k s (n+1)=T56 B c62 c90 c91 c92 p0 p1 p2 (fun s=>A56 B c62 c90 c91 c92 p0 p1 p2 k s n) (K2 k) (some s):=by
 intro s
 cases s<;>kernel_rfl
theorem nt56 {R R':Type} (B:Ops) (c62:C62) (c90:C90) (c91:C91) (c92:C92) (p0:L97) (p1:L101) (p2:L104) (again:S56→Option R) (again':S56→Option R') (k0:(Bool)→Option R') (k:R'→Option R) (h:∀ s,again s=ob (again' s) k):∀ s,T56 B c62 c90 c91 c92 p0 p1 p2 again (fun y=>ob (k0 y) k) s=ob (T56 B c62 c90 c91 c92 p0 p1 p2 again' k0 s) k:=by
 rintro (_ | x)
 all_goals try cases x
 all_goals (unfold T56;repeat' first | exact rfl | exact h _ | apply qac | (apply qai;intro))
def R56 (c62:C62) (c90:C90) (c91:C91) (c92:C92) (p0:L97) (p1:L101) (p2:L104):Nat→S56→Option (Bool)
 | 0,_=>none
 | n+1,s=>T56 Ops.std c62 c90 c91 c92 p0 p1 p2 (R56 c62 c90 c91 c92 p0 p1 p2 n) some (some s)
theorem rr56 {R:Type} (c62:C62) (c90:C90) (c91:C91) (c92:C92) (p0:L97) (p1:L101) (p2:L104) (k:AV→Objs→Option R):∀ (n:Nat) (s:S56),A56 Ops.std c62 c90 c91 c92 p0 p1 p2 k s n=ob (R56 c62 c90 c91 c92 p0 p1 p2 n s) (K2 k)
 | 0,s=>by cases s<;>rfl
 | n+1,s=>by rw [el56];exact nt56 Ops.std c62 c90 c91 c92 p0 p1 p2 _ _ some (K2 k) (rr56 c62 c90 c91 c92 p0 p1 p2 k n) (some s)
def F56 (c62:C62) (c90:C90) (c91:C91) (c92:C92) (p0:L97) (p1:L101) (p2:L104):Option (Bool):=T56 Ops.std c62 c90 c91 c92 p0 p1 p2 (R56 c62 c90 c91 c92 p0 p1 p2 1000000) some none
abbrev C56:Type:=L97→L101→L104→Option (Bool)
def e56 {R:Type} (c:C56):Ent R:=eG [.aG [.cL 97 ty97,.cL 101 ty101,.cL 104 ty104]] [] fun v k=>ob (c v.1 v.2.1 v.2.2.1) (K2 k)
abbrev Sp56 (c:C56):Prop:=∀ (p0:L97) (p1:L101) (p2:L104) (y:Bool),c p0 p1 p2=some y→Spec Tryz.prog gl0 56 [.agg [.list 97 ty97 p0,.list 101 ty101 p1,.list 104 ty104 p2]] [] (.c (.bool y)) []
theorem ek56 {R:Type} {c:C56} (hs:Sp56 c):EOk 56 (e56 (R:=R) c):=qak fun v=>hs v.1 v.2.1 v.2.2.1
theorem sf56 {c62:C62} {c90:C90} {c91:C91} {c92:C92} (h62:Sp62 c62) (h90:Sp90 c90) (h91:Sp91 c91) (h92:Sp92 c92):Sp56 (F56 c62 c90 c91 c92):=fun p0 p1 p2 y hy=>by
 refine qae (qab (ek62 h62) (qab (ek90 h90) (qab (ek91 h91) (qab (ek92 h92) qad)))) 1000000 (fn:=Tryz.f56) (by kernel_rfl) (by kernel_rfl) (X:=X56) (by kernel_rfl) ?_
 rw [eq56]
 exact (nt56 Ops.std c62 c90 c91 c92 p0 p1 p2 _ _ some (K2 k0) (rr56 c62 c90 c91 c92 p0 p1 p2 k0 1000000) none).trans (by show ob (F56 c62 c90 c91 c92 p0 p1 p2) _=_;rw [hy];rfl)
noncomputable def M56:C56:=F56 M62 M90 M91 M92
theorem sm56:Sp56 M56:=sf56 sm62 sm90 sm91 sm92
end Go.Proofs.YtkmpkebaloejhaaGreatDoor.Av
