/- Twins of functions,printed by gen.py. Conditions: none. -/
import Derived.Test.YtccnmhdgghjgoaaGreatDoorTt1
import Derived.KernelRfl
set_option linter.unusedSimpArgs false
set_option linter.unusedVariables false
set_option maxRecDepth 100000
set_option maxHeartbeats 8000000
namespace Go.Proofs.YtccnmhdgghjgoaaGreatDoor.Av
open Go
def X182:Aux:=⟨[],[]⟩
def T182 {R:Type} (B:Ops) (c182:C182) (p0:Int) (k:(LB)→Option R):Option R:=cond (B.eq 10 0) none (cond (B.eq 10 0) none (cond (B.inb (IntKind.wrap IntKind.u64 (Int.tmod p0 (10)+1)) (10+1)) (cond (bif B.le 0 (Int.tmod p0 10) then B.le (Int.tmod p0 10) (IntKind.wrap IntKind.u64 (Int.tmod p0 (10)+1)) else false) (cond (B.lt p0 10) (k (List.drop (Int.toNat (Int.tmod p0 10)) (List.take (Int.toNat (IntKind.wrap IntKind.u64 (Int.tmod p0 (10)+1))) ([48,49,50,51,52,53,54,55,56,57]:LB)))) (cond (B.eq 10 0) none (ob (c182 (IntKind.wrap IntKind.u64 (Int.tdiv p0 10))) fun y0=>cond (B.lim (List.length y0+List.length (List.drop (Int.toNat (Int.tmod p0 10)) (List.take (Int.toNat (IntKind.wrap IntKind.u64 (Int.tmod p0 (10)+1))) ([48,49,50,51,52,53,54,55,56,57]:LB)))) 1) (k (y0++List.drop (Int.toNat (Int.tmod p0 10)) (List.take (Int.toNat (IntKind.wrap IntKind.u64 (Int.tmod p0 (10)+1))) ([48,49,50,51,52,53,54,55,56,57]:LB)))) none))) none) none))
theorem eq182 {R:Type} (B:Ops) (c182:C182) (p0:Int) (k:AV→Objs→Option R) (n:Nat):afun tau B gl0 X182 (ent 182 (e182 c182) gnil) ow Tryz.f182 [.c (.int .u64 p0)] [] k n=T182 B c182 p0 (K3 k):=by kernel_rfl
theorem nt182 {R R':Type} (B:Ops) (c182:C182) (p0:Int) (k0:(LB)→Option R') (k:R'→Option R):T182 B c182 p0 (fun y=>ob (k0 y) k)=ob (T182 B c182 p0 k0) k:=by
 unfold T182
 repeat' first | exact rfl | apply qae | (apply qaj;intro)
def F182 (c182:C182) (p0:Int):Option (LB):=T182 Ops.std c182 p0 some
theorem sf182 {c182:C182} (h182:Sp182 c182):Sp182 (F182 c182):=fun p0 y hy=>by
 refine qai (qac (ek182 h182) qah) 1000000 (fn:=Tryz.f182) (by kernel_rfl) (by kernel_rfl) (X:=X182) (by kernel_rfl) ?_
 rw [eq182]
 exact (nt182 Ops.std c182 p0 some (K3 k0)).trans (by show ob (F182 c182 p0) _=_;rw [hy];rfl)
noncomputable def Rec182:Nat→(Int→Option (LB))
 | 0=>fun _=>none
 | d+1=>F182 (Rec182 d)
theorem rec182:∀ d,Sp182 (Rec182 d)
 | 0=>fun p0 y (h:(none:Option (LB))=some y)=>by cases h
 | d+1=>sf182 (rec182 d)
noncomputable def M182:C182:=(Rec182 1000000)
theorem sm182:Sp182 M182:=(rec182 1000000)
def X151:Aux:=⟨[],[]⟩
def T151 {R:Type} (B:Ops) (c182:C182) (p0:Int) (k:(LB)→Option R):Option R:=cond (B.lt p0 0) (ob (c182 (IntKind.wrap IntKind.u64 (IntKind.wrap IntKind.u64 (IntKind.wrap .i64 (0-IntKind.wrap .i64 (p0+1)))+1))) fun y0=>cond (B.lim (1+List.length y0) 1) (k (([45]:LB)++y0)) none) (ob (c182 (IntKind.wrap IntKind.u64 p0)) fun y0=>k y0)
theorem eq151 {R:Type} (B:Ops) (c182:C182) (p0:Int) (k:AV→Objs→Option R) (n:Nat):afun tau B gl0 X151 (ent 182 (e182 c182) gnil) ow Tryz.f151 [.c (.int .i64 p0)] [] k n=T151 B c182 p0 (K3 k):=by kernel_rfl
theorem nt151 {R R':Type} (B:Ops) (c182:C182) (p0:Int) (k0:(LB)→Option R') (k:R'→Option R):T151 B c182 p0 (fun y=>ob (k0 y) k)=ob (T151 B c182 p0 k0) k:=by
 unfold T151
 repeat' first | exact rfl | apply qae | (apply qaj;intro)
def F151 (c182:C182) (p0:Int):Option (LB):=T151 Ops.std c182 p0 some
abbrev C151:Type:=Int→Option (LB)
def e151 {R:Type} (c:C151):Ent R:=eG [.aC (.cI .i64)] [] fun v k=>ob (c v.1) (K3 k)
abbrev Sp151 (c:C151):Prop:=∀ (p0:Int) (y:LB),c p0=some y→Spec Tryz.prog gl0 151 [.c (.int .i64 p0)] [] (.c (.str y)) []
theorem ek151 {R:Type} {c:C151} (hs:Sp151 c):EOk 151 (e151 (R:=R) c):=qam fun v=>hs v.1
theorem sf151 {c182:C182} (h182:Sp182 c182):Sp151 (F151 c182):=fun p0 y hy=>by
 refine qai (qac (ek182 h182) qah) 1000000 (fn:=Tryz.f151) (by kernel_rfl) (by kernel_rfl) (X:=X151) (by kernel_rfl) ?_
 rw [eq151]
 exact (nt151 Ops.std c182 p0 some (K3 k0)).trans (by show ob (F151 c182 p0) _=_;rw [hy];rfl)
noncomputable def M151:C151:=F151 M182
theorem sm151:Sp151 M151:=sf151 sm182
def X91:Aux:=⟨[],[]⟩
def T91 {R:Type} (B:Ops) (c151:C151) (p0:Int) (k:(LB)→Option R):Option R:=ob (c151 p0) fun y0=>k y0
theorem eq91 {R:Type} (B:Ops) (c151:C151) (p0:Int) (k:AV→Objs→Option R) (n:Nat):afun tau B gl0 X91 (ent 151 (e151 c151) gnil) ow Tryz.f91 [.c (.int .i64 p0)] [] k n=T91 B c151 p0 (K3 k):=by kernel_rfl
theorem nt91 {R R':Type} (B:Ops) (c151:C151) (p0:Int) (k0:(LB)→Option R') (k:R'→Option R):T91 B c151 p0 (fun y=>ob (k0 y) k)=ob (T91 B c151 p0 k0) k:=by
 unfold T91
 repeat' first | exact rfl | apply qae | (apply qaj;intro)
def F91 (c151:C151) (p0:Int):Option (LB):=T91 Ops.std c151 p0 some
abbrev C91:Type:=Int→Option (LB)
def e91 {R:Type} (c:C91):Ent R:=eG [.aC (.cI .i64)] [] fun v k=>ob (c v.1) (K3 k)
abbrev Sp91 (c:C91):Prop:=∀ (p0:Int) (y:LB),c p0=some y→Spec Tryz.prog gl0 91 [.c (.int .i64 p0)] [] (.c (.str y)) []
theorem ek91 {R:Type} {c:C91} (hs:Sp91 c):EOk 91 (e91 (R:=R) c):=qam fun v=>hs v.1
theorem sf91 {c151:C151} (h151:Sp151 c151):Sp91 (F91 c151):=fun p0 y hy=>by
 refine qai (qac (ek151 h151) qah) 1000000 (fn:=Tryz.f91) (by kernel_rfl) (by kernel_rfl) (X:=X91) (by kernel_rfl) ?_
 rw [eq91]
 exact (nt91 Ops.std c151 p0 some (K3 k0)).trans (by show ob (F91 c151 p0) _=_;rw [hy];rfl)
noncomputable def M91:C91:=F91 M151
theorem sm91:Sp91 M91:=sf91 sm151
def X94:Aux:=⟨[],[(4,.lin (rg 0 31))]⟩
def T94 {R:Type} (B:Ops) (c29:C29) (p0:Int) (p1:L3) (p2:Int) (k:(Int×L3×Int)→Option R):Option R:=cond (B.eq (↑p1.length) 0) (k (0,p1,p2)) (cond (B.eq (↑p1.length) 0) none (cond (B.inb (Int.tmod (IntKind.wrap .i64 (p2+1)) (↑p1.length)) p1.length) (cond (B.eq (↑p1.length) 0) none (cond (B.eq (IntKind.wrap .i64 (1+IntKind.wrap .i64 (Int.tdiv (IntKind.wrap .i64 (p2+1)) (↑p1.length)))) 0) none (ob (c29 (IntKind.wrap .i64 (Int.tdiv (p1.getD (Int.toNat (Int.tmod (IntKind.wrap .i64 (p2+1)) (↑p1.length))) ty3.dflt) (IntKind.wrap .i64 (1+IntKind.wrap .i64 (Int.tdiv (IntKind.wrap .i64 (p2+1)) (↑p1.length)))))) p0) fun y0=>k ((y0,p1,IntKind.wrap .i64 (p2+1)))))) none))
abbrev K12 {R:Type} (k:AV→Objs→Option R) (y:(Int×L3×Int)):Option R:=k (.c (.int .i64 y.1)) [(0,.box 86 [.list 3 ty3 y.2.1,.int .i64 y.2.2])]
theorem eq94 {R:Type} (B:Ops) (c29:C29) (p0:Int) (p1:L3) (p2:Int) (k:AV→Objs→Option R) (n:Nat):afun tau B gl0 X94 (ent 29 (e29 c29) gnil) ow Tryz.f94 [.c (.ptr 0 0),.c (.int .i64 p0)] [(0,.box 86 [.list 3 ty3 p1,.int .i64 p2])] k n=T94 B c29 p0 p1 p2 (K12 k):=by kernel_rfl
theorem nt94 {R R':Type} (B:Ops) (c29:C29) (p0:Int) (p1:L3) (p2:Int) (k0:(Int×L3×Int)→Option R') (k:R'→Option R):T94 B c29 p0 p1 p2 (fun y=>ob (k0 y) k)=ob (T94 B c29 p0 p1 p2 k0) k:=by
 unfold T94
 repeat' first | exact rfl | apply qae | (apply qaj;intro)
def F94 (c29:C29) (p0:Int) (p1:L3) (p2:Int):Option (Int×L3×Int):=T94 Ops.std c29 p0 p1 p2 some
abbrev C94:Type:=Int→L3→Int→Option (Int×L3×Int)
def e94 {R:Type} (c:C94):Ent R:=eG [.aC (.cP 0),.aC (.cI .i64)] [.oB 0 86 [.cL 3 ty3,.cI .i64]] fun v k=>ob (c v.1 v.2.1 v.2.2.1) (K12 k)
abbrev Sp94 (c:C94):Prop:=∀ (p0:Int) (p1:L3) (p2:Int) (y:Int×L3×Int),c p0 p1 p2=some y→Spec Tryz.prog gl0 94 [.c (.ptr 0 0),.c (.int .i64 p0)] [(0,.box 86 [.list 3 ty3 p1,.int .i64 p2])] (.c (.int .i64 y.1)) [(0,.box 86 [.list 3 ty3 y.2.1,.int .i64 y.2.2])]
theorem ek94 {R:Type} {c:C94} (hs:Sp94 c):EOk 94 (e94 (R:=R) c):=qam fun v=>hs v.1 v.2.1 v.2.2.1
theorem sf94 {c29:C29} (h29:Sp29 c29):Sp94 (F94 c29):=fun p0 p1 p2 y hy=>by
 refine qai (qac (ek29 h29) qah) 1000000 (fn:=Tryz.f94) (by kernel_rfl) (by kernel_rfl) (X:=X94) (by kernel_rfl) ?_
 rw [eq94]
 exact (nt94 Ops.std c29 p0 p1 p2 some (K12 k0)).trans (by show ob (F94 c29 p0 p1 p2) _=_;rw [hy];rfl)
noncomputable def M94:C94:=F94 M29
theorem sm94:Sp94 M94:=sf94 sm29
def X152:Aux:=⟨[],[]⟩
def T152 {R:Type} (B:Ops) (c94:C94) (p0:L3) (p1:Int) (k:(LB×L3×Int)→Option R):Option R:=ob (c94 2 p0 p1) fun y0=>cond (B.inb y0.1 3) (cond (B.lim (List.length (List.getD ((120::mt UInt8)::(121::mt UInt8)::(122::mt UInt8)::mt LB) (Int.toNat y0.1) (mt UInt8))+2) 1) (cond (B.lim (List.length (List.getD ((120::mt UInt8)::(121::mt UInt8)::(122::mt UInt8)::mt LB) (Int.toNat y0.1) (mt UInt8))+2) 1) (cond (B.lim (List.length (List.getD ((120::mt UInt8)::(121::mt UInt8)::(122::mt UInt8)::mt LB) (Int.toNat y0.1) (mt UInt8))+3) 1) (cond (B.lim (List.length (List.getD ((120::mt UInt8)::(121::mt UInt8)::(122::mt UInt8)::mt LB) (Int.toNat y0.1) (mt UInt8))+2) 1) (ob (c94 9 y0.2.1 y0.2.2) fun y1=>cond (B.inb y1.1 9) (k ((List.getD (([49]:LB)::([49]:LB)::(List.getD ((120::mt UInt8)::(121::mt UInt8)::(122::mt UInt8)::mt LB) (Int.toNat y0.1) (mt UInt8)++([60,49]:LB))::(List.getD ((120::mt UInt8)::(121::mt UInt8)::(122::mt UInt8)::mt LB) (Int.toNat y0.1) (mt UInt8)++([62,48]:LB))::(List.getD ((120::mt UInt8)::(121::mt UInt8)::(122::mt UInt8)::mt LB) (Int.toNat y0.1) (mt UInt8)++([61,61,49]:LB))::([120,33,61,121]:LB)::([112,64,97,124,124,120,60,50]:LB)::([33,40,113,64,98,41]:LB)::(List.getD ((120::mt UInt8)::(121::mt UInt8)::(122::mt UInt8)::mt LB) (Int.toNat y0.1) (mt UInt8)++([60,50]:LB))::mt LB) (Int.toNat y1.1) (mt UInt8),y1.2.1,y1.2.2))) none) none) none) none) none) none
abbrev K13 {R:Type} (k:AV→Objs→Option R) (y:(LB×L3×Int)):Option R:=k (.c (.str y.1)) [(0,.box 86 [.list 3 ty3 y.2.1,.int .i64 y.2.2])]
theorem eq152 {R:Type} (B:Ops) (c94:C94) (p0:L3) (p1:Int) (k:AV→Objs→Option R) (n:Nat):afun tau B gl0 X152 (ent 94 (e94 c94) gnil) ow Tryz.f152 [.c (.ptr 0 0)] [(0,.box 86 [.list 3 ty3 p0,.int .i64 p1])] k n=T152 B c94 p0 p1 (K13 k):=by kernel_rfl
theorem nt152 {R R':Type} (B:Ops) (c94:C94) (p0:L3) (p1:Int) (k0:(LB×L3×Int)→Option R') (k:R'→Option R):T152 B c94 p0 p1 (fun y=>ob (k0 y) k)=ob (T152 B c94 p0 p1 k0) k:=by
 unfold T152
 repeat' first | exact rfl | apply qae | (apply qaj;intro)
def F152 (c94:C94) (p0:L3) (p1:Int):Option (LB×L3×Int):=T152 Ops.std c94 p0 p1 some
abbrev C152:Type:=L3→Int→Option (LB×L3×Int)
def e152 {R:Type} (c:C152):Ent R:=eG [.aC (.cP 0)] [.oB 0 86 [.cL 3 ty3,.cI .i64]] fun v k=>ob (c v.1 v.2.1) (K13 k)
abbrev Sp152 (c:C152):Prop:=∀ (p0:L3) (p1:Int) (y:LB×L3×Int),c p0 p1=some y→Spec Tryz.prog gl0 152 [.c (.ptr 0 0)] [(0,.box 86 [.list 3 ty3 p0,.int .i64 p1])] (.c (.str y.1)) [(0,.box 86 [.list 3 ty3 y.2.1,.int .i64 y.2.2])]
theorem ek152 {R:Type} {c:C152} (hs:Sp152 c):EOk 152 (e152 (R:=R) c):=qam fun v=>hs v.1 v.2.1
theorem sf152 {c94:C94} (h94:Sp94 c94):Sp152 (F152 c94):=fun p0 p1 y hy=>by
 refine qai (qac (ek94 h94) qah) 1000000 (fn:=Tryz.f152) (by kernel_rfl) (by kernel_rfl) (X:=X152) (by kernel_rfl) ?_
 rw [eq152]
 exact (nt152 Ops.std c94 p0 p1 some (K13 k0)).trans (by show ob (F152 c94 p0 p1) _=_;rw [hy];rfl)
noncomputable def M152:C152:=F152 M94
theorem sm152:Sp152 M152:=sf152 sm94
abbrev C153:Type:=Int→L3→Int→Option (LB×L3×Int)
def e153 {R:Type} (c:C153):Ent R:=eG [.aC (.cP 0),.aC (.cI .i64)] [.oB 0 86 [.cL 3 ty3,.cI .i64]] fun v k=>ob (c v.1 v.2.1 v.2.2.1) (K13 k)
abbrev Sp153 (c:C153):Prop:=∀ (p0:Int) (p1:L3) (p2:Int) (y:LB×L3×Int),c p0 p1 p2=some y→Spec Tryz.prog gl0 153 [.c (.ptr 0 0),.c (.int .i64 p0)] [(0,.box 86 [.list 3 ty3 p1,.int .i64 p2])] (.c (.str y.1)) [(0,.box 86 [.list 3 ty3 y.2.1,.int .i64 y.2.2])]
theorem ek153 {R:Type} {c:C153} (hs:Sp153 c):EOk 153 (e153 (R:=R) c):=qam fun v=>hs v.1 v.2.1 v.2.2.1
def X153:Aux:=⟨[(1000004,([2,3,4]++rg 6 111))],[(24,.lin ([0,5,1,2,3,4,6,7,8,9,10]))]⟩
inductive S153 where
 | l1004 (v1:Int) (v2:L3) (v3:Int)
def T153 {R:Type} (B:Ops) (c94:C94) (c153:C153) (p0:Int) (p1:L3) (p2:Int) (again:S153→Option R) (k:(LB×L3×Int)→Option R):Option S153→Option R | none=>ob (c94 20 p1 p2) fun y0=>cond (B.lt 3 p0) (cond (B.eq 6 0) none (again (.l1004 (IntKind.wrap .i64 (14+Int.tmod y0.1 6)) y0.2.1 y0.2.2))) (cond (B.lt 14 y0.2.2) (cond (B.eq 6 0) none (again (.l1004 (IntKind.wrap .i64 (14+Int.tmod y0.1 6)) y0.2.1 y0.2.2))) (again (.l1004 y0.1 y0.2.1 y0.2.2))) | some (.l1004 v1 v2 v3)=>cond (B.lt v1 10) (ob (c153 (IntKind.wrap .i64 (p0+1)) v2 v3) fun y0=>ob (c153 (IntKind.wrap .i64 (p0+1)) y0.2.1 y0.2.2) fun y1=>ob (c94 11 y1.2.1 y1.2.2) fun y2=>cond (B.inb y2.1 11) (ob (c94 2 y2.2.1 y2.2.2) fun y3=>cond (B.eq y3.1 0) (cond (B.lim (1+List.length y0.1) 1) (cond (B.lim (List.length (([40]:LB)++y0.1)+1) 1) (cond (B.lim (List.length (([40]:LB)++y0.1++([41]:LB))+List.length (List.getD (([43]:LB)::([45]:LB)::([42]:LB)::([60]:LB)::([60,61]:LB)::([61,61]:LB)::([33,61]:LB)::([38,38]:LB)::([124,124]:LB)::([62]:LB)::([62,61]:LB)::mt LB) (Int.toNat y2.1) (mt UInt8))) 1) (cond (B.lim (List.length (([40]:LB)++y0.1++([41]:LB)++List.getD (([43]:LB)::([45]:LB)::([42]:LB)::([60]:LB)::([60,61]:LB)::([61,61]:LB)::([33,61]:LB)::([38,38]:LB)::([124,124]:LB)::([62]:LB)::([62,61]:LB)::mt LB) (Int.toNat y2.1) (mt UInt8))+1) 1) (cond (B.lim (List.length (([40]:LB)++y0.1++([41]:LB)++List.getD (([43]:LB)::([45]:LB)::([42]:LB)::([60]:LB)::([60,61]:LB)::([61,61]:LB)::([33,61]:LB)::([38,38]:LB)::([124,124]:LB)::([62]:LB)::([62,61]:LB)::mt LB) (Int.toNat y2.1) (mt UInt8)++([40]:LB))+List.length y1.1) 1) (cond (B.lim (List.length (([40]:LB)++y0.1++([41]:LB)++List.getD (([43]:LB)::([45]:LB)::([42]:LB)::([60]:LB)::([60,61]:LB)::([61,61]:LB)::([33,61]:LB)::([38,38]:LB)::([124,124]:LB)::([62]:LB)::([62,61]:LB)::mt LB) (Int.toNat y2.1) (mt UInt8)++([40]:LB)++y1.1)+1) 1) (k ((([40]:LB)++y0.1++([41]:LB)++List.getD (([43]:LB)::([45]:LB)::([42]:LB)::([60]:LB)::([60,61]:LB)::([61,61]:LB)::([33,61]:LB)::([38,38]:LB)::([124,124]:LB)::([62]:LB)::([62,61]:LB)::mt LB) (Int.toNat y2.1) (mt UInt8)++([40]:LB)++y1.1++([41]:LB),y3.2.1,y3.2.2))) none) none) none) none) none) none) (cond (B.lim (1+List.length y0.1) 1) (cond (B.lim (List.length (([40]:LB)++y0.1)+1) 1) (cond (B.lim (List.length (([40]:LB)++y0.1++([32]:LB))+List.length (List.getD (([43]:LB)::([45]:LB)::([42]:LB)::([60]:LB)::([60,61]:LB)::([61,61]:LB)::([33,61]:LB)::([38,38]:LB)::([124,124]:LB)::([62]:LB)::([62,61]:LB)::mt LB) (Int.toNat y2.1) (mt UInt8))) 1) (cond (B.lim (List.length (([40]:LB)++y0.1++([32]:LB)++List.getD (([43]:LB)::([45]:LB)::([42]:LB)::([60]:LB)::([60,61]:LB)::([61,61]:LB)::([33,61]:LB)::([38,38]:LB)::([124,124]:LB)::([62]:LB)::([62,61]:LB)::mt LB) (Int.toNat y2.1) (mt UInt8))+1) 1) (cond (B.lim (List.length (([40]:LB)++y0.1++([32]:LB)++List.getD (([43]:LB)::([45]:LB)::([42]:LB)::([60]:LB)::([60,61]:LB)::([61,61]:LB)::([33,61]:LB)::([38,38]:LB)::([124,124]:LB)::([62]:LB)::([62,61]:LB)::mt LB) (Int.toNat y2.1) (mt UInt8)++([32]:LB))+List.length y1.1) 1) (cond (B.lim (List.length (([40]:LB)++y0.1++([32]:LB)++List.getD (([43]:LB)::([45]:LB)::([42]:LB)::([60]:LB)::([60,61]:LB)::([61,61]:LB)::([33,61]:LB)::([38,38]:LB)::([124,124]:LB)::([62]:LB)::([62,61]:LB)::mt LB) (Int.toNat y2.1) (mt UInt8)++([32]:LB)++y1.1)+1) 1) (k ((([40]:LB)++y0.1++([32]:LB)++List.getD (([43]:LB)::([45]:LB)::([42]:LB)::([60]:LB)::([60,61]:LB)::([61,61]:LB)::([33,61]:LB)::([38,38]:LB)::([124,124]:LB)::([62]:LB)::([62,61]:LB)::mt LB) (Int.toNat y2.1) (mt UInt8)++([32]:LB)++y1.1++([41]:LB),y3.2.1,y3.2.2))) none) none) none) none) none) none)) none) (cond (B.eq v1 10) (ob (c153 (IntKind.wrap .i64 (p0+1)) v2 v3) fun y0=>cond (B.lim (2+List.length y0.1) 1) (cond (B.lim (List.length (([33,40]:LB)++y0.1)+1) 1) (k ((([33,40]:LB)++y0.1++([41]:LB),y0.2.1,y0.2.2))) none) none) (cond (B.eq v1 11) (ob (c153 (IntKind.wrap .i64 (p0+1)) v2 v3) fun y0=>cond (B.lim (2+List.length y0.1) 1) (cond (B.lim (List.length (([45,40]:LB)++y0.1)+1) 1) (k ((([45,40]:LB)++y0.1++([41]:LB),y0.2.1,y0.2.2))) none) none) (cond (B.eq v1 12) (ob (c153 (IntKind.wrap .i64 (p0+1)) v2 v3) fun y0=>cond (B.lim (List.length y0.1+1) 1) (ob (c153 (IntKind.wrap .i64 (p0+1)) y0.2.1 y0.2.2) fun y1=>cond (B.lim (List.length (y0.1++([43]:LB))+List.length y1.1) 1) (k ((y0.1++([43]:LB)++y1.1,y1.2.1,y1.2.2))) none) none) (cond (B.eq v1 13) (ob (c153 (IntKind.wrap .i64 (p0+1)) v2 v3) fun y0=>cond (B.lim (2+List.length y0.1) 1) (k ((([33,33]:LB)++y0.1,y0.2.1,y0.2.2))) none) (cond (B.eq v1 14) (ob (c94 4 v2 v3) fun y0=>cond (B.inb y0.1 4) (k ((List.getD (([48]:LB)::([49]:LB)::([50]:LB)::([48,48,55]:LB)::mt LB) (Int.toNat y0.1) (mt UInt8),y0.2.1,y0.2.2))) none) (cond (B.eq v1 15) (ob (c94 4 v2 v3) fun y0=>cond (B.inb y0.1 4) (k ((List.getD (([48]:LB)::([49]:LB)::([50]:LB)::([48,48,55]:LB)::mt LB) (Int.toNat y0.1) (mt UInt8),y0.2.1,y0.2.2))) none) (cond (B.eq v1 16) (ob (c94 2 v2 v3) fun y0=>cond (B.inb y0.1 3) (cond (B.lim (List.length (List.getD ((112::mt UInt8)::(113::mt UInt8)::(114::mt UInt8)::mt LB) (Int.toNat y0.1) (mt UInt8))+1) 1) (ob (c94 3 y0.2.1 y0.2.2) fun y1=>cond (B.inb y1.1 4) (cond (B.lim (List.length (List.getD ((112::mt UInt8)::(113::mt UInt8)::(114::mt UInt8)::mt LB) (Int.toNat y0.1) (mt UInt8)++([64]:LB))+List.length (List.getD ((97::mt UInt8)::(98::mt UInt8)::(99::mt UInt8)::(100::mt UInt8)::mt LB) (Int.toNat y1.1) (mt UInt8))) 1) (k ((List.getD ((112::mt UInt8)::(113::mt UInt8)::(114::mt UInt8)::mt LB) (Int.toNat y0.1) (mt UInt8)++([64]:LB)++List.getD ((97::mt UInt8)::(98::mt UInt8)::(99::mt UInt8)::(100::mt UInt8)::mt LB) (Int.toNat y1.1) (mt UInt8),y1.2.1,y1.2.2))) none) none) none) none) (ob (c94 2 v2 v3) fun y0=>cond (B.inb y0.1 3) (k ((List.getD ((120::mt UInt8)::(121::mt UInt8)::(122::mt UInt8)::mt LB) (Int.toNat y0.1) (mt UInt8),y0.2.1,y0.2.2))) none))))))))
def E153 (p0:Int) (p1:L3) (p2:Int):S153→List AV×Objs
 | .l1004 v1 v2 v3=>(mk 117 [(0,.c (.ptr 0 0)),(1,.c (.int .i64 p0)),(5,.c (.int .i64 v1))],[(0,.box 86 [.list 3 ty3 v2,.int .i64 v3])])
def I153:S153→Nat
 | .l1004 _ _ _=>1004
noncomputable abbrev A153 {R:Type} (B:Ops) (c94:C94) (c153:C153) (p0:Int) (p1:L3) (p2:Int) (k:AV→Objs→Option R) (s:S153) (n:Nat):Option R:=aloop tau B gl0 X153 (ent 94 (e94 c94) (ent 153 (e153 c153) gnil)) ow [0] Tryz.f153 k (I153 s) (E153 p0 p1 p2 s) n
theorem eq153 {R:Type} (B:Ops) (c94:C94) (c153:C153) (p0:Int) (p1:L3) (p2:Int) (k:AV→Objs→Option R) (n:Nat):afun tau B gl0 X153 (ent 94 (e94 c94) (ent 153 (e153 c153) gnil)) ow Tryz.f153 [.c (.ptr 0 0),.c (.int .i64 p0)] [(0,.box 86 [.list 3 ty3 p1,.int .i64 p2])] k n=T153 B c94 c153 p0 p1 p2 (fun s=>A153 B c94 c153 p0 p1 p2 k s n) (K13 k) none:=by kernel_rfl
theorem el153 {R:Type} (B:Ops) (c94:C94) (c153:C153) (p0:Int) (p1:L3) (p2:Int) (k:AV→Objs→Option R) (n:Nat):∀ s,A153 B c94 c153 p0 p1 p2 k s (n+1)=T153 B c94 c153 p0 p1 p2 (fun s=>A153 B c94 c153 p0 p1 p2 k s n) (K13 k) (some s):=by
 intro s
 cases s<;>kernel_rfl
theorem nt153 {R R':Type} (B:Ops) (c94:C94) (c153:C153) (p0:Int) (p1:L3) (p2:Int) (again:S153→Option R) (again':S153→Option R') (k0:(LB×L3×Int)→Option R') (k:R'→Option R) (h:∀ s,again s=ob (again' s) k):∀ s,T153 B c94 c153 p0 p1 p2 again (fun y=>ob (k0 y) k) s=ob (T153 B c94 c153 p0 p1 p2 again' k0 s) k:=by
 rintro (_ | x)
 all_goals try cases x
 all_goals (unfold T153;repeat' first | exact rfl | exact h _ | apply qae | (apply qaj;intro))
def R153 (c94:C94) (c153:C153) (p0:Int) (p1:L3) (p2:Int):Nat→S153→Option (LB×L3×Int)
 | 0,_=>none
 | n+1,s=>T153 Ops.std c94 c153 p0 p1 p2 (R153 c94 c153 p0 p1 p2 n) some (some s)
theorem rr153 {R:Type} (c94:C94) (c153:C153) (p0:Int) (p1:L3) (p2:Int) (k:AV→Objs→Option R):∀ (n:Nat) (s:S153),A153 Ops.std c94 c153 p0 p1 p2 k s n=ob (R153 c94 c153 p0 p1 p2 n s) (K13 k)
 | 0,s=>by cases s<;>rfl
 | n+1,s=>by rw [el153];exact nt153 Ops.std c94 c153 p0 p1 p2 _ _ some (K13 k) (rr153 c94 c153 p0 p1 p2 k n) (some s)
def F153 (c94:C94) (c153:C153) (p0:Int) (p1:L3) (p2:Int):Option (LB×L3×Int):=T153 Ops.std c94 c153 p0 p1 p2 (R153 c94 c153 p0 p1 p2 1000000) some none
theorem sf153 {c94:C94} {c153:C153} (h94:Sp94 c94) (h153:Sp153 c153):Sp153 (F153 c94 c153):=fun p0 p1 p2 y hy=>by
 refine qai (qac (ek94 h94) (qac (ek153 h153) qah)) 1000000 (fn:=Tryz.f153) (by kernel_rfl) (by kernel_rfl) (X:=X153) (by kernel_rfl) ?_
 rw [eq153]
 exact (nt153 Ops.std c94 c153 p0 p1 p2 _ _ some (K13 k0) (rr153 c94 c153 p0 p1 p2 k0 1000000) none).trans (by show ob (F153 c94 c153 p0 p1 p2) _=_;rw [hy];rfl)
noncomputable def Rec153:Nat→(Int→L3→Int→Option (LB×L3×Int))
 | 0=>fun _ _ _=>none
 | d+1=>F153 M94 (Rec153 d)
theorem rec153:∀ d,Sp153 (Rec153 d)
 | 0=>fun p0 p1 p2 y (h:(none:Option (LB×L3×Int))=some y)=>by cases h
 | d+1=>sf153 sm94 (rec153 d)
noncomputable def M153:C153:=(Rec153 1000000)
theorem sm153:Sp153 M153:=(rec153 1000000)
def X154:Aux:=⟨[],[(2,.lin (rg 0 10++[14,10,11,12,13,15,16,17]))]⟩
def T154 {R:Type} (B:Ops) (c94:C94) (p0:L3) (p1:Int) (k:(LB×L3×Int)→Option R):Option R:=ob (c94 2 p0 p1) fun y0=>cond (B.inb y0.1 3) (cond (B.lim (2+List.length (List.getD ((120::mt UInt8)::(121::mt UInt8)::(122::mt UInt8)::mt LB) (Int.toNat y0.1) (mt UInt8))) 1) (cond (B.lim (List.length (List.getD ((120::mt UInt8)::(121::mt UInt8)::(122::mt UInt8)::mt LB) (Int.toNat y0.1) (mt UInt8))+2) 1) (cond (B.lim (List.length (List.getD ((120::mt UInt8)::(121::mt UInt8)::(122::mt UInt8)::mt LB) (Int.toNat y0.1) (mt UInt8))+2) 1) (cond (B.lim (2+List.length (List.getD ((120::mt UInt8)::(121::mt UInt8)::(122::mt UInt8)::mt LB) (Int.toNat y0.1) (mt UInt8))) 1) (ob (c94 2 y0.2.1 y0.2.2) fun y1=>cond (B.inb y1.1 3) (ob (c94 8 y1.2.1 y1.2.2) fun y2=>cond (B.inb y2.1 8) (k ((List.getD (([48]:LB)::([49]:LB)::List.getD ((120::mt UInt8)::(121::mt UInt8)::(122::mt UInt8)::mt LB) (Int.toNat y0.1) (mt UInt8)::(([49,45]:LB)++List.getD ((120::mt UInt8)::(121::mt UInt8)::(122::mt UInt8)::mt LB) (Int.toNat y0.1) (mt UInt8))::(List.getD ((120::mt UInt8)::(121::mt UInt8)::(122::mt UInt8)::mt LB) (Int.toNat y0.1) (mt UInt8)++([43,49]:LB))::(List.getD ((120::mt UInt8)::(121::mt UInt8)::(122::mt UInt8)::mt LB) (Int.toNat y0.1) (mt UInt8)++([45,49]:LB))::(([50,45]:LB)++List.getD ((120::mt UInt8)::(121::mt UInt8)::(122::mt UInt8)::mt LB) (Int.toNat y0.1) (mt UInt8))::List.getD ((120::mt UInt8)::(121::mt UInt8)::(122::mt UInt8)::mt LB) (Int.toNat y1.1) (mt UInt8)::mt LB) (Int.toNat y2.1) (mt UInt8),y2.2.1,y2.2.2))) none) none) none) none) none) none) none
theorem eq154 {R:Type} (B:Ops) (c94:C94) (p0:L3) (p1:Int) (k:AV→Objs→Option R) (n:Nat):afun tau B gl0 X154 (ent 94 (e94 c94) gnil) ow Tryz.f154 [.c (.ptr 0 0)] [(0,.box 86 [.list 3 ty3 p0,.int .i64 p1])] k n=T154 B c94 p0 p1 (K13 k):=by kernel_rfl
theorem nt154 {R R':Type} (B:Ops) (c94:C94) (p0:L3) (p1:Int) (k0:(LB×L3×Int)→Option R') (k:R'→Option R):T154 B c94 p0 p1 (fun y=>ob (k0 y) k)=ob (T154 B c94 p0 p1 k0) k:=by
 unfold T154
 repeat' first | exact rfl | apply qae | (apply qaj;intro)
def F154 (c94:C94) (p0:L3) (p1:Int):Option (LB×L3×Int):=T154 Ops.std c94 p0 p1 some
abbrev C154:Type:=L3→Int→Option (LB×L3×Int)
def e154 {R:Type} (c:C154):Ent R:=eG [.aC (.cP 0)] [.oB 0 86 [.cL 3 ty3,.cI .i64]] fun v k=>ob (c v.1 v.2.1) (K13 k)
abbrev Sp154 (c:C154):Prop:=∀ (p0:L3) (p1:Int) (y:LB×L3×Int),c p0 p1=some y→Spec Tryz.prog gl0 154 [.c (.ptr 0 0)] [(0,.box 86 [.list 3 ty3 p0,.int .i64 p1])] (.c (.str y.1)) [(0,.box 86 [.list 3 ty3 y.2.1,.int .i64 y.2.2])]
theorem ek154 {R:Type} {c:C154} (hs:Sp154 c):EOk 154 (e154 (R:=R) c):=qam fun v=>hs v.1 v.2.1
theorem sf154 {c94:C94} (h94:Sp94 c94):Sp154 (F154 c94):=fun p0 p1 y hy=>by
 refine qai (qac (ek94 h94) qah) 1000000 (fn:=Tryz.f154) (by kernel_rfl) (by kernel_rfl) (X:=X154) (by kernel_rfl) ?_
 rw [eq154]
 exact (nt154 Ops.std c94 p0 p1 some (K13 k0)).trans (by show ob (F154 c94 p0 p1) _=_;rw [hy];rfl)
noncomputable def M154:C154:=F154 M94
theorem sm154:Sp154 M154:=sf154 sm94
def X92:Aux:=⟨[(9,([0,1,2,3,4,7]++rg 10 84))],[(2,.lin ([0,1,6,12,18,19,2,3,4,5,7,8,9,10,11,13,14,15,16,17,20,21,22,23,24])),(14,.lin ([0,1,2,3,4,5,6,13,7,8,9,10,11,12,14,15,16]))]⟩
inductive S92 where
 | l0 (v0:LB) (v1 v2:Int) (v3:L3) (v4:Int)
def T92 {R:Type} (B:Ops) (c94:C94) (c152:C152) (c153:C153) (c154:C154) (p0:L3) (p1:Int) (again:S92→Option R) (k:(LB)→Option R):Option S92→Option R | none=>ob (c94 p1 p0 0) fun y0=>cond (B.inb y0.1 3) (cond (B.lim (List.length (List.getD ((112::mt UInt8)::(113::mt UInt8)::(114::mt UInt8)::mt LB) (Int.toNat y0.1) (mt UInt8))+1) 1) (ob (c94 3 y0.2.1 y0.2.2) fun y1=>cond (B.inb y1.1 4) (cond (B.lim (List.length (List.getD ((112::mt UInt8)::(113::mt UInt8)::(114::mt UInt8)::mt LB) (Int.toNat y0.1) (mt UInt8)++([32]:LB))+List.length (List.getD ((97::mt UInt8)::(98::mt UInt8)::(99::mt UInt8)::(100::mt UInt8)::mt LB) (Int.toNat y1.1) (mt UInt8))) 1) (cond (B.lim (List.length (List.getD ((112::mt UInt8)::(113::mt UInt8)::(114::mt UInt8)::mt LB) (Int.toNat y0.1) (mt UInt8)++([32]:LB)++List.getD ((97::mt UInt8)::(98::mt UInt8)::(99::mt UInt8)::(100::mt UInt8)::mt LB) (Int.toNat y1.1) (mt UInt8))+1) 1) (ob (c94 3 y1.2.1 y1.2.2) fun y2=>cond (B.inb y2.1 4) (cond (B.lim (List.length (List.getD ((112::mt UInt8)::(113::mt UInt8)::(114::mt UInt8)::mt LB) (Int.toNat y0.1) (mt UInt8)++([32]:LB)++List.getD ((97::mt UInt8)::(98::mt UInt8)::(99::mt UInt8)::(100::mt UInt8)::mt LB) (Int.toNat y1.1) (mt UInt8)++([32]:LB))+List.length (List.getD ((97::mt UInt8)::(98::mt UInt8)::(99::mt UInt8)::(100::mt UInt8)::mt LB) (Int.toNat y2.1) (mt UInt8))) 1) (cond (B.lim (List.length (List.getD ((112::mt UInt8)::(113::mt UInt8)::(114::mt UInt8)::mt LB) (Int.toNat y0.1) (mt UInt8)++([32]:LB)++List.getD ((97::mt UInt8)::(98::mt UInt8)::(99::mt UInt8)::(100::mt UInt8)::mt LB) (Int.toNat y1.1) (mt UInt8)++([32]:LB)++List.getD ((97::mt UInt8)::(98::mt UInt8)::(99::mt UInt8)::(100::mt UInt8)::mt LB) (Int.toNat y2.1) (mt UInt8))+1) 1) (ob (c94 8 y2.2.1 y2.2.2) fun y3=>cond (B.inb y3.1 8) (cond (B.lim (List.length (List.getD ((112::mt UInt8)::(113::mt UInt8)::(114::mt UInt8)::mt LB) (Int.toNat y0.1) (mt UInt8)++([32]:LB)++List.getD ((97::mt UInt8)::(98::mt UInt8)::(99::mt UInt8)::(100::mt UInt8)::mt LB) (Int.toNat y1.1) (mt UInt8)++([32]:LB)++List.getD ((97::mt UInt8)::(98::mt UInt8)::(99::mt UInt8)::(100::mt UInt8)::mt LB) (Int.toNat y2.1) (mt UInt8)++([32]:LB))+List.length (List.getD (([45]:LB)::([45]:LB)::([45]:LB)::([45]:LB)::([99,33]:LB)::([99,63]:LB)::([100,33]:LB)::([99,63]:LB)::mt LB) (Int.toNat y3.1) (mt UInt8))) 1) (cond (B.lim (List.length (List.getD ((112::mt UInt8)::(113::mt UInt8)::(114::mt UInt8)::mt LB) (Int.toNat y0.1) (mt UInt8)++([32]:LB)++List.getD ((97::mt UInt8)::(98::mt UInt8)::(99::mt UInt8)::(100::mt UInt8)::mt LB) (Int.toNat y1.1) (mt UInt8)++([32]:LB)++List.getD ((97::mt UInt8)::(98::mt UInt8)::(99::mt UInt8)::(100::mt UInt8)::mt LB) (Int.toNat y2.1) (mt UInt8)++([32]:LB)++List.getD (([45]:LB)::([45]:LB)::([45]:LB)::([45]:LB)::([99,33]:LB)::([99,63]:LB)::([100,33]:LB)::([99,63]:LB)::mt LB) (Int.toNat y3.1) (mt UInt8))+1) 1) (ob (c152 y3.2.1 y3.2.2) fun y4=>ob (c94 9 y4.2.1 y4.2.2) fun y5=>cond (B.eq y5.1 8) (ob (c153 2 y5.2.1 y5.2.2) fun y6=>cond (B.lim (List.length (List.getD ((112::mt UInt8)::(113::mt UInt8)::(114::mt UInt8)::mt LB) (Int.toNat y0.1) (mt UInt8)++([32]:LB)++List.getD ((97::mt UInt8)::(98::mt UInt8)::(99::mt UInt8)::(100::mt UInt8)::mt LB) (Int.toNat y1.1) (mt UInt8)++([32]:LB)++List.getD ((97::mt UInt8)::(98::mt UInt8)::(99::mt UInt8)::(100::mt UInt8)::mt LB) (Int.toNat y2.1) (mt UInt8)++([32]:LB)++List.getD (([45]:LB)::([45]:LB)::([45]:LB)::([45]:LB)::([99,33]:LB)::([99,63]:LB)::([100,33]:LB)::([99,63]:LB)::mt LB) (Int.toNat y3.1) (mt UInt8)++([32]:LB))+List.length y6.1) 1) (ob (c94 4 y6.2.1 y6.2.2) fun y7=>cond (B.inb y7.1 4) (again (.l0 (List.getD ((112::mt UInt8)::(113::mt UInt8)::(114::mt UInt8)::mt LB) (Int.toNat y0.1) (mt UInt8)++([32]:LB)++List.getD ((97::mt UInt8)::(98::mt UInt8)::(99::mt UInt8)::(100::mt UInt8)::mt LB) (Int.toNat y1.1) (mt UInt8)++([32]:LB)++List.getD ((97::mt UInt8)::(98::mt UInt8)::(99::mt UInt8)::(100::mt UInt8)::mt LB) (Int.toNat y2.1) (mt UInt8)++([32]:LB)++List.getD (([45]:LB)::([45]:LB)::([45]:LB)::([45]:LB)::([99,33]:LB)::([99,63]:LB)::([100,33]:LB)::([99,63]:LB)::mt LB) (Int.toNat y3.1) (mt UInt8)++([32]:LB)++y6.1) (List.getD (0::1::1::2::mt Int) (Int.toNat y7.1) 0) 0 y7.2.1 y7.2.2)) none) none) (cond (B.lim (List.length (List.getD ((112::mt UInt8)::(113::mt UInt8)::(114::mt UInt8)::mt LB) (Int.toNat y0.1) (mt UInt8)++([32]:LB)++List.getD ((97::mt UInt8)::(98::mt UInt8)::(99::mt UInt8)::(100::mt UInt8)::mt LB) (Int.toNat y1.1) (mt UInt8)++([32]:LB)++List.getD ((97::mt UInt8)::(98::mt UInt8)::(99::mt UInt8)::(100::mt UInt8)::mt LB) (Int.toNat y2.1) (mt UInt8)++([32]:LB)++List.getD (([45]:LB)::([45]:LB)::([45]:LB)::([45]:LB)::([99,33]:LB)::([99,63]:LB)::([100,33]:LB)::([99,63]:LB)::mt LB) (Int.toNat y3.1) (mt UInt8)++([32]:LB))+List.length y4.1) 1) (ob (c94 4 y5.2.1 y5.2.2) fun y6=>cond (B.inb y6.1 4) (again (.l0 (List.getD ((112::mt UInt8)::(113::mt UInt8)::(114::mt UInt8)::mt LB) (Int.toNat y0.1) (mt UInt8)++([32]:LB)++List.getD ((97::mt UInt8)::(98::mt UInt8)::(99::mt UInt8)::(100::mt UInt8)::mt LB) (Int.toNat y1.1) (mt UInt8)++([32]:LB)++List.getD ((97::mt UInt8)::(98::mt UInt8)::(99::mt UInt8)::(100::mt UInt8)::mt LB) (Int.toNat y2.1) (mt UInt8)++([32]:LB)++List.getD (([45]:LB)::([45]:LB)::([45]:LB)::([45]:LB)::([99,33]:LB)::([99,63]:LB)::([100,33]:LB)::([99,63]:LB)::mt LB) (Int.toNat y3.1) (mt UInt8)++([32]:LB)++y4.1) (List.getD (0::1::1::2::mt Int) (Int.toNat y6.1) 0) 0 y6.2.1 y6.2.2)) none) none)) none) none) none) none) none) none) none) none) none) none) none | some (.l0 v0 v1 v2 v3 v4)=>cond (B.lt v2 v1) (ob (c94 2 v3 v4) fun y0=>cond (B.inb y0.1 3) (ob (c154 y0.2.1 y0.2.2) fun y1=>ob (c94 6 y1.2.1 y1.2.2) fun y2=>cond (B.eq y2.1 0) (cond (B.lim (List.length v0+3) 1) (cond (B.lim (List.length (v0++([32,59,32]:LB))+List.length (List.getD ((120::mt UInt8)::(121::mt UInt8)::(122::mt UInt8)::mt LB) (Int.toNat y0.1) (mt UInt8))) 1) (cond (B.lim (List.length (v0++([32,59,32]:LB)++List.getD ((120::mt UInt8)::(121::mt UInt8)::(122::mt UInt8)::mt LB) (Int.toNat y0.1) (mt UInt8))+3) 1) (cond (B.lim (List.length (v0++([32,59,32]:LB)++List.getD ((120::mt UInt8)::(121::mt UInt8)::(122::mt UInt8)::mt LB) (Int.toNat y0.1) (mt UInt8)++([32,61,32]:LB))+List.length y1.1) 1) (again (.l0 (v0++([32,59,32]:LB)++List.getD ((120::mt UInt8)::(121::mt UInt8)::(122::mt UInt8)::mt LB) (Int.toNat y0.1) (mt UInt8)++([32,61,32]:LB)++y1.1) v1 (IntKind.wrap .i64 (v2+1)) y2.2.1 y2.2.2)) none) none) none) none) (cond (B.eq y2.1 1) (cond (B.lim (List.length v0+3) 1) (cond (B.lim (List.length (v0++([32,59,32]:LB))+List.length (List.getD ((120::mt UInt8)::(121::mt UInt8)::(122::mt UInt8)::mt LB) (Int.toNat y0.1) (mt UInt8))) 1) (cond (B.lim (List.length (v0++([32,59,32]:LB)++List.getD ((120::mt UInt8)::(121::mt UInt8)::(122::mt UInt8)::mt LB) (Int.toNat y0.1) (mt UInt8))+3) 1) (cond (B.lim (List.length (v0++([32,59,32]:LB)++List.getD ((120::mt UInt8)::(121::mt UInt8)::(122::mt UInt8)::mt LB) (Int.toNat y0.1) (mt UInt8)++([32,61,32]:LB))+1) 1) (again (.l0 (v0++([32,59,32]:LB)++List.getD ((120::mt UInt8)::(121::mt UInt8)::(122::mt UInt8)::mt LB) (Int.toNat y0.1) (mt UInt8)++([32,61,32]:LB)++([48]:LB)) v1 (IntKind.wrap .i64 (v2+1)) y2.2.1 y2.2.2)) none) none) none) none) (cond (B.lim (3+List.length (List.getD ((120::mt UInt8)::(121::mt UInt8)::(122::mt UInt8)::mt LB) (Int.toNat y0.1) (mt UInt8))) 1) (cond (B.lim (List.length (([49,45,40]:LB)++List.getD ((120::mt UInt8)::(121::mt UInt8)::(122::mt UInt8)::mt LB) (Int.toNat y0.1) (mt UInt8))+4) 1) (cond (B.lim (1+List.length (List.getD ((120::mt UInt8)::(121::mt UInt8)::(122::mt UInt8)::mt LB) (Int.toNat y0.1) (mt UInt8))) 1) (cond (B.lim (List.length (([40]:LB)++List.getD ((120::mt UInt8)::(121::mt UInt8)::(122::mt UInt8)::mt LB) (Int.toNat y0.1) (mt UInt8))+3) 1) (ob (c94 2 y2.2.1 y2.2.2) fun y3=>cond (B.inb y3.1 3) (cond (B.lim (1+List.length (List.getD ((120::mt UInt8)::(121::mt UInt8)::(122::mt UInt8)::mt LB) (Int.toNat y3.1) (mt UInt8))) 1) (cond (B.lim (List.length (([40]:LB)++List.getD ((120::mt UInt8)::(121::mt UInt8)::(122::mt UInt8)::mt LB) (Int.toNat y3.1) (mt UInt8))+4) 1) (ob (c94 3 y3.2.1 y3.2.2) fun y4=>cond (B.inb y4.1 3) (cond (B.lim (List.length v0+3) 1) (cond (B.lim (List.length (v0++([32,59,32]:LB))+List.length (List.getD ((120::mt UInt8)::(121::mt UInt8)::(122::mt UInt8)::mt LB) (Int.toNat y0.1) (mt UInt8))) 1) (cond (B.lim (List.length (v0++([32,59,32]:LB)++List.getD ((120::mt UInt8)::(121::mt UInt8)::(122::mt UInt8)::mt LB) (Int.toNat y0.1) (mt UInt8))+3) 1) (cond (B.lim (List.length (v0++([32,59,32]:LB)++List.getD ((120::mt UInt8)::(121::mt UInt8)::(122::mt UInt8)::mt LB) (Int.toNat y0.1) (mt UInt8)++([32,61,32]:LB))+List.length (List.getD ((([49,45,40]:LB)++List.getD ((120::mt UInt8)::(121::mt UInt8)::(122::mt UInt8)::mt LB) (Int.toNat y0.1) (mt UInt8)++([61,61,49,41]:LB))::(([40]:LB)++List.getD ((120::mt UInt8)::(121::mt UInt8)::(122::mt UInt8)::mt LB) (Int.toNat y0.1) (mt UInt8)++([60,49,41]:LB))::(([40]:LB)++List.getD ((120::mt UInt8)::(121::mt UInt8)::(122::mt UInt8)::mt LB) (Int.toNat y3.1) (mt UInt8)++([61,61,48,41]:LB))::mt LB) (Int.toNat y4.1) (mt UInt8))) 1) (again (.l0 (v0++([32,59,32]:LB)++List.getD ((120::mt UInt8)::(121::mt UInt8)::(122::mt UInt8)::mt LB) (Int.toNat y0.1) (mt UInt8)++([32,61,32]:LB)++List.getD ((([49,45,40]:LB)++List.getD ((120::mt UInt8)::(121::mt UInt8)::(122::mt UInt8)::mt LB) (Int.toNat y0.1) (mt UInt8)++([61,61,49,41]:LB))::(([40]:LB)++List.getD ((120::mt UInt8)::(121::mt UInt8)::(122::mt UInt8)::mt LB) (Int.toNat y0.1) (mt UInt8)++([60,49,41]:LB))::(([40]:LB)++List.getD ((120::mt UInt8)::(121::mt UInt8)::(122::mt UInt8)::mt LB) (Int.toNat y3.1) (mt UInt8)++([61,61,48,41]:LB))::mt LB) (Int.toNat y4.1) (mt UInt8)) v1 (IntKind.wrap .i64 (v2+1)) y4.2.1 y4.2.2)) none) none) none) none) none) none) none) none) none) none) none) none))) none) (k v0)
def E92 (p0:L3) (p1:Int):S92→List AV×Objs
 | .l0 v0 v1 v2 v3 v4=>(mk 94 [(5,.c (.ptr 5 0)),(6,.c (.str v0)),(8,.c (.int .i64 v1)),(9,.c (.int .i64 v2))],[(5,.box 86 [.list 3 ty3 v3,.int .i64 v4])])
def I92:S92→Nat
 | .l0 _ _ _ _ _=>0
noncomputable abbrev A92 {R:Type} (B:Ops) (c94:C94) (c152:C152) (c153:C153) (c154:C154) (p0:L3) (p1:Int) (k:AV→Objs→Option R) (s:S92) (n:Nat):Option R:=aloop tau B gl0 X92 (ent 94 (e94 c94) (ent 152 (e152 c152) (ent 153 (e153 c153) (ent 154 (e154 c154) gnil)))) ow [] Tryz.f92 k (I92 s) (E92 p0 p1 s) n
theorem eq92 {R:Type} (B:Ops) (c94:C94) (c152:C152) (c153:C153) (c154:C154) (p0:L3) (p1:Int) (k:AV→Objs→Option R) (n:Nat):afun tau B gl0 X92 (ent 94 (e94 c94) (ent 152 (e152 c152) (ent 153 (e153 c153) (ent 154 (e154 c154) gnil)))) ow Tryz.f92 [.c (.list 3 ty3 p0),.c (.int .i64 p1)] [] k n=T92 B c94 c152 c153 c154 p0 p1 (fun s=>A92 B c94 c152 c153 c154 p0 p1 k s n) (K3 k) none:=by kernel_rfl
theorem el92 {R:Type} (B:Ops) (c94:C94) (c152:C152) (c153:C153) (c154:C154) (p0:L3) (p1:Int) (k:AV→Objs→Option R) (n:Nat):∀ s,A92 B c94 c152 c153 c154 p0 p1 k s (n+1)=T92 B c94 c152 c153 c154 p0 p1 (fun s=>A92 B c94 c152 c153 c154 p0 p1 k s n) (K3 k) (some s):=by
 intro s
 cases s<;>kernel_rfl
theorem nt92 {R R':Type} (B:Ops) (c94:C94) (c152:C152) (c153:C153) (c154:C154) (p0:L3) (p1:Int) (again:S92→Option R) (again':S92→Option R') (k0:(LB)→Option R') (k:R'→Option R) (h:∀ s,again s=ob (again' s) k):∀ s,T92 B c94 c152 c153 c154 p0 p1 again (fun y=>ob (k0 y) k) s=ob (T92 B c94 c152 c153 c154 p0 p1 again' k0 s) k:=by
 rintro (_ | x)
 all_goals try cases x
 all_goals (unfold T92;repeat' first | exact rfl | exact h _ | apply qae | (apply qaj;intro))
def R92 (c94:C94) (c152:C152) (c153:C153) (c154:C154) (p0:L3) (p1:Int):Nat→S92→Option (LB)
 | 0,_=>none
 | n+1,s=>T92 Ops.std c94 c152 c153 c154 p0 p1 (R92 c94 c152 c153 c154 p0 p1 n) some (some s)
theorem rr92 {R:Type} (c94:C94) (c152:C152) (c153:C153) (c154:C154) (p0:L3) (p1:Int) (k:AV→Objs→Option R):∀ (n:Nat) (s:S92),A92 Ops.std c94 c152 c153 c154 p0 p1 k s n=ob (R92 c94 c152 c153 c154 p0 p1 n s) (K3 k)
 | 0,s=>by cases s<;>rfl
 | n+1,s=>by rw [el92];exact nt92 Ops.std c94 c152 c153 c154 p0 p1 _ _ some (K3 k) (rr92 c94 c152 c153 c154 p0 p1 k n) (some s)
def F92 (c94:C94) (c152:C152) (c153:C153) (c154:C154) (p0:L3) (p1:Int):Option (LB):=T92 Ops.std c94 c152 c153 c154 p0 p1 (R92 c94 c152 c153 c154 p0 p1 1000000) some none
abbrev C92:Type:=L3→Int→Option (LB)
def e92 {R:Type} (c:C92):Ent R:=eG [.aC (.cL 3 ty3),.aC (.cI .i64)] [] fun v k=>ob (c v.1 v.2.1) (K3 k)
abbrev Sp92 (c:C92):Prop:=∀ (p0:L3) (p1:Int) (y:LB),c p0 p1=some y→Spec Tryz.prog gl0 92 [.c (.list 3 ty3 p0),.c (.int .i64 p1)] [] (.c (.str y)) []
theorem ek92 {R:Type} {c:C92} (hs:Sp92 c):EOk 92 (e92 (R:=R) c):=qam fun v=>hs v.1 v.2.1
theorem sf92 {c94:C94} {c152:C152} {c153:C153} {c154:C154} (h94:Sp94 c94) (h152:Sp152 c152) (h153:Sp153 c153) (h154:Sp154 c154):Sp92 (F92 c94 c152 c153 c154):=fun p0 p1 y hy=>by
 refine qai (qac (ek94 h94) (qac (ek152 h152) (qac (ek153 h153) (qac (ek154 h154) qah)))) 1000000 (fn:=Tryz.f92) (by kernel_rfl) (by kernel_rfl) (X:=X92) (by kernel_rfl) ?_
 rw [eq92]
 exact (nt92 Ops.std c94 c152 c153 c154 p0 p1 _ _ some (K3 k0) (rr92 c94 c152 c153 c154 p0 p1 k0 1000000) none).trans (by show ob (F92 c94 c152 c153 c154 p0 p1) _=_;rw [hy];rfl)
noncomputable def M92:C92:=F92 M94 M152 M153 M154
theorem sm92:Sp92 M92:=sf92 sm94 sm152 sm153 sm154
def X48:Aux:=⟨[(3,([0,2]++rg 5 103)),(8,([0,2,4]++rg 7 101)),(15,([0,2,4,6]++rg 8 100))],[(5,.lin (rg 0 11++[15,16,17,18,19,20,25,26,27,28,29,30,11,12,13,14,21,22,23,24,31,32,33,34,35])),(17,.lin ([0,1,2,3,4,8,9,10,11,12,13,5,6,7,14,15,16,17]))]⟩
inductive S48 where
 | l0 (v0:LB) (v1:Int)
 | l1 (v0:LB) (v1 v2:Int)
 | l2 (v0:LB) (v1 v2:Int)
def T48 {R:Type} (B:Ops) (c29:C29) (c91:C91) (c92:C92) (p0 p1:Int) (p2:L22) (again:S48→Option R) (k:(LB)→Option R):Option S48→Option R | none=>again (.l0 (mt UInt8) 0) | some (.l0 v0 v1)=>ob (c29 p1 2) fun y0=>cond (B.lt v1 (IntKind.wrap .i64 (2+y0))) (cond (B.lim (List.length v0+4) 1) (cond (B.inb v1 3) (cond (B.lim (List.length (v0++([118,97,114,32]:LB))+List.length (List.getD ((120::mt UInt8)::(121::mt UInt8)::(122::mt UInt8)::mt LB) v1.toNat (mt UInt8))) 1) (cond (B.lim (List.length (v0++([118,97,114,32]:LB)++List.getD ((120::mt UInt8)::(121::mt UInt8)::(122::mt UInt8)::mt LB) v1.toNat (mt UInt8))+1) 1) (cond (B.eq 7 0) none (cond (B.eq (IntKind.wrap .i64 (2+v1)) 0) none (cond (B.eq (IntKind.wrap .i64 (5+v1)) 0) none (ob (c29 (IntKind.wrap .i64 (Int.tdiv p1 7)) 2) fun y1=>cond (B.inb y1 2) (cond (B.lim (List.length (v0++([118,97,114,32]:LB)++List.getD ((120::mt UInt8)::(121::mt UInt8)::(122::mt UInt8)::mt LB) v1.toNat (mt UInt8)++([32]:LB))+List.length (List.getD (([48]:LB)::([45,49]:LB)::mt LB) y1.toNat (mt UInt8))) 1) (cond (B.lim (List.length (v0++([118,97,114,32]:LB)++List.getD ((120::mt UInt8)::(121::mt UInt8)::(122::mt UInt8)::mt LB) v1.toNat (mt UInt8)++([32]:LB)++List.getD (([48]:LB)::([45,49]:LB)::mt LB) y1.toNat (mt UInt8))+1) 1) (ob (c29 (IntKind.wrap .i64 (Int.tdiv p1 (IntKind.wrap .i64 (2+v1)))) 3) fun y2=>cond (B.inb y2 3) (cond (B.lim (List.length (v0++([118,97,114,32]:LB)++List.getD ((120::mt UInt8)::(121::mt UInt8)::(122::mt UInt8)::mt LB) v1.toNat (mt UInt8)++([32]:LB)++List.getD (([48]:LB)::([45,49]:LB)::mt LB) y1.toNat (mt UInt8)++([32]:LB))+List.length (List.getD (([49]:LB)::([50]:LB)::([51]:LB)::mt LB) y2.toNat (mt UInt8))) 1) (cond (B.lim (List.length (v0++([118,97,114,32]:LB)++List.getD ((120::mt UInt8)::(121::mt UInt8)::(122::mt UInt8)::mt LB) v1.toNat (mt UInt8)++([32]:LB)++List.getD (([48]:LB)::([45,49]:LB)::mt LB) y1.toNat (mt UInt8)++([32]:LB)++List.getD (([49]:LB)::([50]:LB)::([51]:LB)::mt LB) y2.toNat (mt UInt8))+1) 1) (ob (c29 (IntKind.wrap .i64 (Int.tdiv p1 (IntKind.wrap .i64 (5+v1)))) 2) fun y3=>cond (B.inb y3 2) (cond (B.lim (List.length (v0++([118,97,114,32]:LB)++List.getD ((120::mt UInt8)::(121::mt UInt8)::(122::mt UInt8)::mt LB) v1.toNat (mt UInt8)++([32]:LB)++List.getD (([48]:LB)::([45,49]:LB)::mt LB) y1.toNat (mt UInt8)++([32]:LB)++List.getD (([49]:LB)::([50]:LB)::([51]:LB)::mt LB) y2.toNat (mt UInt8)++([32]:LB))+List.length (List.getD (([48]:LB)::([49]:LB)::mt LB) y3.toNat (mt UInt8))) 1) (cond (B.lim (List.length (v0++([118,97,114,32]:LB)++List.getD ((120::mt UInt8)::(121::mt UInt8)::(122::mt UInt8)::mt LB) v1.toNat (mt UInt8)++([32]:LB)++List.getD (([48]:LB)::([45,49]:LB)::mt LB) y1.toNat (mt UInt8)++([32]:LB)++List.getD (([49]:LB)::([50]:LB)::([51]:LB)::mt LB) y2.toNat (mt UInt8)++([32]:LB)++List.getD (([48]:LB)::([49]:LB)::mt LB) y3.toNat (mt UInt8))+1) 1) (again (.l0 (v0++([118,97,114,32]:LB)++List.getD ((120::mt UInt8)::(121::mt UInt8)::(122::mt UInt8)::mt LB) v1.toNat (mt UInt8)++([32]:LB)++List.getD (([48]:LB)::([45,49]:LB)::mt LB) y1.toNat (mt UInt8)++([32]:LB)++List.getD (([49]:LB)::([50]:LB)::([51]:LB)::mt LB) y2.toNat (mt UInt8)++([32]:LB)++List.getD (([48]:LB)::([49]:LB)::mt LB) y3.toNat (mt UInt8)++([10]:LB)) (IntKind.wrap .i64 (v1+1)))) none) none) none) none) none) none) none) none) none)))) none) none) none) none) (ob (c29 p0 4) fun y1=>cond (B.eq 3 0) none (again (.l1 v0 (IntKind.wrap .i64 (2+IntKind.wrap .i64 (Int.tdiv y1 3))) 0))) | some (.l1 v0 v1 v2)=>cond (B.lt v2 v1) (cond (B.lim (List.length v0+5) 1) (cond (B.inb v2 3) (cond (B.lim (List.length (v0++([112,114,111,99,32]:LB))+List.length (List.getD ((112::mt UInt8)::(113::mt UInt8)::(114::mt UInt8)::mt LB) v2.toNat (mt UInt8))) 1) (cond (B.lim (List.length (v0++([112,114,111,99,32]:LB)++List.getD ((112::mt UInt8)::(113::mt UInt8)::(114::mt UInt8)::mt LB) v2.toNat (mt UInt8))+6) 1) (cond (B.eq (IntKind.wrap .i64 (2+v2)) 0) none (ob (c29 (IntKind.wrap .i64 (Int.tdiv p0 (IntKind.wrap .i64 (2+v2)))) 3) fun y0=>cond (B.eq y0 0) (cond (B.lim (List.length (v0++([112,114,111,99,32]:LB)++List.getD ((112::mt UInt8)::(113::mt UInt8)::(114::mt UInt8)::mt LB) v2.toNat (mt UInt8)++([32,97,32,98,32,99]:LB))+2) 1) (cond (B.lim (List.length (v0++([112,114,111,99,32]:LB)++List.getD ((112::mt UInt8)::(113::mt UInt8)::(114::mt UInt8)::mt LB) v2.toNat (mt UInt8)++([32,97,32,98,32,99]:LB)++([32,100]:LB))+1) 1) (again (.l1 (v0++([112,114,111,99,32]:LB)++List.getD ((112::mt UInt8)::(113::mt UInt8)::(114::mt UInt8)::mt LB) v2.toNat (mt UInt8)++([32,97,32,98,32,99]:LB)++([32,100]:LB)++([10]:LB)) v1 (IntKind.wrap .i64 (v2+1)))) none) none) (cond (B.lim (List.length (v0++([112,114,111,99,32]:LB)++List.getD ((112::mt UInt8)::(113::mt UInt8)::(114::mt UInt8)::mt LB) v2.toNat (mt UInt8)++([32,97,32,98,32,99]:LB))+1) 1) (again (.l1 (v0++([112,114,111,99,32]:LB)++List.getD ((112::mt UInt8)::(113::mt UInt8)::(114::mt UInt8)::mt LB) v2.toNat (mt UInt8)++([32,97,32,98,32,99]:LB)++([10]:LB)) v1 (IntKind.wrap .i64 (v2+1)))) none))) none) none) none) none) (again (.l2 v0 v1 0)) | some (.l2 v0 v1 v2)=>cond (B.lt v2 (↑p2.length)) (cond (B.lt v2 10) (cond (B.lim (List.length v0+6) 1) (cond (B.inb v2 p2.length) (ob (c91 (IntKind.wrap .i64 (IntKind.wrap .i64 (3*v2)+1))) fun y0=>cond (B.lim (List.length (v0++([116,114,97,110,115,32]:LB))+List.length y0) 1) (cond (B.lim (List.length (v0++([116,114,97,110,115,32]:LB)++y0)+1) 1) (ob (c92 (p2.getD v2.toNat ty22.dflt) v1) fun y1=>cond (B.lim (List.length (v0++([116,114,97,110,115,32]:LB)++y0++([32]:LB))+List.length y1) 1) (cond (B.lim (List.length (v0++([116,114,97,110,115,32]:LB)++y0++([32]:LB)++y1)+1) 1) (again (.l2 (v0++([116,114,97,110,115,32]:LB)++y0++([32]:LB)++y1++([10]:LB)) v1 (IntKind.wrap .i64 (v2+1)))) none) none) none) none) none) none) (k v0)) (k v0)
def E48 (p0 p1:Int) (p2:L22):S48→List AV×Objs
 | .l0 v0 v1=>(mk 108 [(1,.c (.ptr 1 0)),(3,.c (.str v0)),(4,.c (.int .i64 v1))],[(1,.box 25 [.int .i64 p0,.int .i64 p1,.list 22 ty22 p2])])
 | .l1 v0 v1 v2=>(mk 108 [(1,.c (.ptr 1 0)),(3,.c (.str v0)),(5,.c (.int .i64 v1)),(6,.c (.int .i64 v2))],[(1,.box 25 [.int .i64 p0,.int .i64 p1,.list 22 ty22 p2])])
 | .l2 v0 v1 v2=>(mk 108 [(1,.c (.ptr 1 0)),(3,.c (.str v0)),(5,.c (.int .i64 v1)),(7,.c (.int .i64 v2))],[(1,.box 25 [.int .i64 p0,.int .i64 p1,.list 22 ty22 p2])])
def I48:S48→Nat
 | .l0 _ _=>0
 | .l1 _ _ _=>1
 | .l2 _ _ _=>2
noncomputable abbrev A48 {R:Type} (B:Ops) (c29:C29) (c91:C91) (c92:C92) (p0 p1:Int) (p2:L22) (k:AV→Objs→Option R) (s:S48) (n:Nat):Option R:=aloop tau B gl0 X48 (ent 29 (e29 c29) (ent 91 (e91 c91) (ent 92 (e92 c92) gnil))) ow [] Tryz.f48 k (I48 s) (E48 p0 p1 p2 s) n
theorem eq48 {R:Type} (B:Ops) (c29:C29) (c91:C91) (c92:C92) (p0 p1:Int) (p2:L22) (k:AV→Objs→Option R) (n:Nat):afun tau B gl0 X48 (ent 29 (e29 c29) (ent 91 (e91 c91) (ent 92 (e92 c92) gnil))) ow Tryz.f48 [.agg [.int .i64 p0,.int .i64 p1,.list 22 ty22 p2]] [] k n=T48 B c29 c91 c92 p0 p1 p2 (fun s=>A48 B c29 c91 c92 p0 p1 p2 k s n) (K3 k) none:=by kernel_rfl
theorem el48 {R:Type} (B:Ops) (c29:C29) (c91:C91) (c92:C92) (p0 p1:Int) (p2:L22) (k:AV→Objs→Option R) (n:Nat):∀ s,A48 B c29 c91 c92 p0 p1 p2 k s (n+1)=T48 B c29 c91 c92 p0 p1 p2 (fun s=>A48 B c29 c91 c92 p0 p1 p2 k s n) (K3 k) (some s):=by
 intro s
 cases s<;>kernel_rfl
theorem nt48 {R R':Type} (B:Ops) (c29:C29) (c91:C91) (c92:C92) (p0 p1:Int) (p2:L22) (again:S48→Option R) (again':S48→Option R') (k0:(LB)→Option R') (k:R'→Option R) (h:∀ s,again s=ob (again' s) k):∀ s,T48 B c29 c91 c92 p0 p1 p2 again (fun y=>ob (k0 y) k) s=ob (T48 B c29 c91 c92 p0 p1 p2 again' k0 s) k:=by
 rintro (_ | x)
 all_goals try cases x
 all_goals (unfold T48;repeat' first | exact rfl | exact h _ | apply qae | (apply qaj;intro))
def R48 (c29:C29) (c91:C91) (c92:C92) (p0 p1:Int) (p2:L22):Nat→S48→Option (LB)
 | 0,_=>none
 | n+1,s=>T48 Ops.std c29 c91 c92 p0 p1 p2 (R48 c29 c91 c92 p0 p1 p2 n) some (some s)
theorem rr48 {R:Type} (c29:C29) (c91:C91) (c92:C92) (p0 p1:Int) (p2:L22) (k:AV→Objs→Option R):∀ (n:Nat) (s:S48),A48 Ops.std c29 c91 c92 p0 p1 p2 k s n=ob (R48 c29 c91 c92 p0 p1 p2 n s) (K3 k)
 | 0,s=>by cases s<;>rfl
 | n+1,s=>by rw [el48];exact nt48 Ops.std c29 c91 c92 p0 p1 p2 _ _ some (K3 k) (rr48 c29 c91 c92 p0 p1 p2 k n) (some s)
def F48 (c29:C29) (c91:C91) (c92:C92) (p0 p1:Int) (p2:L22):Option (LB):=T48 Ops.std c29 c91 c92 p0 p1 p2 (R48 c29 c91 c92 p0 p1 p2 1000000) some none
abbrev C48:Type:=Int→Int→L22→Option (LB)
def e48 {R:Type} (c:C48):Ent R:=eG [.aG [.cI .i64,.cI .i64,.cL 22 ty22]] [] fun v k=>ob (c v.1 v.2.1 v.2.2.1) (K3 k)
abbrev Sp48 (c:C48):Prop:=∀ (p0 p1:Int) (p2:L22) (y:LB),c p0 p1 p2=some y→Spec Tryz.prog gl0 48 [.agg [.int .i64 p0,.int .i64 p1,.list 22 ty22 p2]] [] (.c (.str y)) []
theorem ek48 {R:Type} {c:C48} (hs:Sp48 c):EOk 48 (e48 (R:=R) c):=qam fun v=>hs v.1 v.2.1 v.2.2.1
theorem sf48 {c29:C29} {c91:C91} {c92:C92} (h29:Sp29 c29) (h91:Sp91 c91) (h92:Sp92 c92):Sp48 (F48 c29 c91 c92):=fun p0 p1 p2 y hy=>by
 refine qai (qac (ek29 h29) (qac (ek91 h91) (qac (ek92 h92) qah))) 1000000 (fn:=Tryz.f48) (by kernel_rfl) (by kernel_rfl) (X:=X48) (by kernel_rfl) ?_
 rw [eq48]
 exact (nt48 Ops.std c29 c91 c92 p0 p1 p2 _ _ some (K3 k0) (rr48 c29 c91 c92 p0 p1 p2 k0 1000000) none).trans (by show ob (F48 c29 c91 c92 p0 p1 p2) _=_;rw [hy];rfl)
noncomputable def M48:C48:=F48 M29 M91 M92
theorem sm48:Sp48 M48:=sf48 sm29 sm91 sm92
def X86:Aux:=⟨[(4,([2,3,4]++rg 8 26))],[]⟩
inductive S86 where
 | l0 (v2 v3:Int) (v4:L9)
def T86 {R:Type} (B:Ops) (p0:LB) (p1:Int) (again:S86→Option R) (k:(L9)→Option R):Option S86→Option R | none=>again (.l0 0 0 (mt (Ty.den Ty.str))) | some (.l0 v2 v3 v4)=>cond (B.lt v3 (↑p0.length)) (cond (B.inb v3 p0.length) (cond (B.eq (Nat.cast (UInt8.toNat (p0.getD v3.toNat 0))) p1) (cond (B.inb v3 (List.length p0+1)) (cond (bif B.le 0 v2 then B.le v2 v3 else false) (cond (B.lim (List.length v4+List.length (List.drop v2.toNat (List.take v3.toNat p0)::mt (Ty.den Ty.str))) 16) (again (.l0 (IntKind.wrap .i64 (v3+1)) (IntKind.wrap .i64 (v3+1)) (v4++List.drop v2.toNat (List.take v3.toNat p0)::mt (Ty.den Ty.str)))) none) none) none) (again (.l0 v2 (IntKind.wrap .i64 (v3+1)) v4))) none) (cond (B.inb v2 (List.length p0+1)) (cond (B.lim (List.length v4+List.length (List.drop v2.toNat (List.take p0.length p0)::mt (Ty.den Ty.str))) 16) (k (v4++List.drop v2.toNat (List.take p0.length p0)::mt (Ty.den Ty.str))) none) none)
def E86 (p0:LB) (p1:Int):S86→List AV×Objs
 | .l0 v2 v3 v4=>(mk 34 [(0,.c (.str p0)),(1,.c (.int .u8 p1)),(5,.c (.own 5)),(6,.c (.int .i64 v2)),(7,.c (.int .i64 v3))],[(5,.row 9 ty9 v4)])
def I86:S86→Nat
 | .l0 _ _ _=>0
abbrev K14 {R:Type} (k:AV→Objs→Option R) (y:(L9)):Option R:=k (.c (.own 500)) [(500,.row 9 ty9 y)]
noncomputable abbrev A86 {R:Type} (B:Ops) (p0:LB) (p1:Int) (k:AV→Objs→Option R) (s:S86) (n:Nat):Option R:=aloop tau B gl0 X86 gnil ow [] Tryz.f86 k (I86 s) (E86 p0 p1 s) n
theorem eq86 {R:Type} (B:Ops) (p0:LB) (p1:Int) (k:AV→Objs→Option R) (n:Nat):afun tau B gl0 X86 gnil ow Tryz.f86 [.c (.str p0),.c (.int .u8 p1)] [] k n=T86 B p0 p1 (fun s=>A86 B p0 p1 k s n) (K14 k) none:=by kernel_rfl
theorem el86 {R:Type} (B:Ops) (p0:LB) (p1:Int) (k:AV→Objs→Option R) (n:Nat):∀ s,A86 B p0 p1 k s (n+1)=T86 B p0 p1 (fun s=>A86 B p0 p1 k s n) (K14 k) (some s):=by
 intro s
 cases s<;>kernel_rfl
theorem nt86 {R R':Type} (B:Ops) (p0:LB) (p1:Int) (again:S86→Option R) (again':S86→Option R') (k0:(L9)→Option R') (k:R'→Option R) (h:∀ s,again s=ob (again' s) k):∀ s,T86 B p0 p1 again (fun y=>ob (k0 y) k) s=ob (T86 B p0 p1 again' k0 s) k:=by
 rintro (_ | x)
 all_goals try cases x
 all_goals (unfold T86;repeat' first | exact rfl | exact h _ | apply qae | (apply qaj;intro))
def R86 (p0:LB) (p1:Int):Nat→S86→Option (L9)
 | 0,_=>none
 | n+1,s=>T86 Ops.std p0 p1 (R86 p0 p1 n) some (some s)
theorem rr86 {R:Type} (p0:LB) (p1:Int) (k:AV→Objs→Option R):∀ (n:Nat) (s:S86),A86 Ops.std p0 p1 k s n=ob (R86 p0 p1 n s) (K14 k)
 | 0,s=>by cases s<;>rfl
 | n+1,s=>by rw [el86];exact nt86 Ops.std p0 p1 _ _ some (K14 k) (rr86 p0 p1 k n) (some s)
def F86 (p0:LB) (p1:Int):Option (L9):=T86 Ops.std p0 p1 (R86 p0 p1 1000000) some none
abbrev C86:Type:=LB→Int→Option (L9)
def e86 {R:Type} (c:C86):Ent R:=eG [.aC .cS,.aC (.cI .u8)] [] fun v k=>ob (c v.1 v.2.1) (K14 k)
abbrev Sp86 (c:C86):Prop:=∀ (p0:LB) (p1:Int) (y:L9),c p0 p1=some y→Spec Tryz.prog gl0 86 [.c (.str p0),.c (.int .u8 p1)] [] (.c (.own 500)) [(500,.row 9 ty9 y)]
theorem ek86 {R:Type} {c:C86} (hs:Sp86 c):EOk 86 (e86 (R:=R) c):=qam fun v=>hs v.1 v.2.1
theorem sf86:Sp86 (F86):=fun p0 p1 y hy=>by
 refine qai qah 1000000 (fn:=Tryz.f86) (by kernel_rfl) (by kernel_rfl) (X:=X86) (by kernel_rfl) ?_
 rw [eq86]
 exact (nt86 Ops.std p0 p1 _ _ some (K14 k0) (rr86 p0 p1 k0 1000000) none).trans (by show ob (F86 p0 p1) _=_;rw [hy];rfl)
noncomputable def M86:C86:=F86
theorem sm86:Sp86 M86:=sf86
def X87:Aux:=⟨[(4,([0,1,2]++rg 6 21))],[]⟩
inductive S87 where
 | l0 (v0:Int) (v1 v2:L9)
def T87 {R:Type} (B:Ops) (c86:C86) (p0:LB) (again:S87→Option R) (k:(L9)→Option R):Option S87→Option R | none=>ob (c86 p0 32) fun y0=>again (.l0 0 (mt (Ty.den Ty.str)) y0) | some (.l0 v0 v1 v2)=>cond (B.lt v0 (↑v2.length)) (cond (B.inb v0 v2.length) (cond (!v2.getD v0.toNat ty9.dflt == mt UInt8) (cond (B.inb v0 v2.length) (cond (B.lim (List.length v1+List.length (v2.getD v0.toNat ty9.dflt::mt (Ty.den Ty.str))) 16) (again (.l0 (IntKind.wrap .i64 (v0+1)) (v1++v2.getD v0.toNat ty9.dflt::mt (Ty.den Ty.str)) v2)) none) none) (again (.l0 (IntKind.wrap .i64 (v0+1)) v1 v2))) none) (k v1)
def E87 (p0:LB):S87→List AV×Objs
 | .l0 v0 v1 v2=>(mk 27 [(3,.c (.own 3)),(4,.c (.own 4)),(5,.c (.int .i64 v0))],[(3,.row 9 ty9 v1),(4,.row 9 ty9 v2)])
def I87:S87→Nat
 | .l0 _ _ _=>0
noncomputable abbrev A87 {R:Type} (B:Ops) (c86:C86) (p0:LB) (k:AV→Objs→Option R) (s:S87) (n:Nat):Option R:=aloop tau B gl0 X87 (ent 86 (e86 c86) gnil) ow [] Tryz.f87 k (I87 s) (E87 p0 s) n
theorem eq87 {R:Type} (B:Ops) (c86:C86) (p0:LB) (k:AV→Objs→Option R) (n:Nat):afun tau B gl0 X87 (ent 86 (e86 c86) gnil) ow Tryz.f87 [.c (.str p0)] [] k n=T87 B c86 p0 (fun s=>A87 B c86 p0 k s n) (K14 k) none:=by kernel_rfl
theorem el87 {R:Type} (B:Ops) (c86:C86) (p0:LB) (k:AV→Objs→Option R) (n:Nat):∀ s,A87 B c86 p0 k s (n+1)=T87 B c86 p0 (fun s=>A87 B c86 p0 k s n) (K14 k) (some s):=by
 intro s
 cases s<;>kernel_rfl
theorem nt87 {R R':Type} (B:Ops) (c86:C86) (p0:LB) (again:S87→Option R) (again':S87→Option R') (k0:(L9)→Option R') (k:R'→Option R) (h:∀ s,again s=ob (again' s) k):∀ s,T87 B c86 p0 again (fun y=>ob (k0 y) k) s=ob (T87 B c86 p0 again' k0 s) k:=by
 rintro (_ | x)
 all_goals try cases x
 all_goals (unfold T87;repeat' first | exact rfl | exact h _ | apply qae | (apply qaj;intro))
def R87 (c86:C86) (p0:LB):Nat→S87→Option (L9)
 | 0,_=>none
 | n+1,s=>T87 Ops.std c86 p0 (R87 c86 p0 n) some (some s)
theorem rr87 {R:Type} (c86:C86) (p0:LB) (k:AV→Objs→Option R):∀ (n:Nat) (s:S87),A87 Ops.std c86 p0 k s n=ob (R87 c86 p0 n s) (K14 k)
 | 0,s=>by cases s<;>rfl
 | n+1,s=>by rw [el87];exact nt87 Ops.std c86 p0 _ _ some (K14 k) (rr87 c86 p0 k n) (some s)
def F87 (c86:C86) (p0:LB):Option (L9):=T87 Ops.std c86 p0 (R87 c86 p0 1000000) some none
abbrev C87:Type:=LB→Option (L9)
def e87 {R:Type} (c:C87):Ent R:=eG [.aC .cS] [] fun v k=>ob (c v.1) (K14 k)
abbrev Sp87 (c:C87):Prop:=∀ (p0:LB) (y:L9),c p0=some y→Spec Tryz.prog gl0 87 [.c (.str p0)] [] (.c (.own 500)) [(500,.row 9 ty9 y)]
theorem ek87 {R:Type} {c:C87} (hs:Sp87 c):EOk 87 (e87 (R:=R) c):=qam fun v=>hs v.1
theorem sf87 {c86:C86} (h86:Sp86 c86):Sp87 (F87 c86):=fun p0 y hy=>by
 refine qai (qac (ek86 h86) qah) 1000000 (fn:=Tryz.f87) (by kernel_rfl) (by kernel_rfl) (X:=X87) (by kernel_rfl) ?_
 rw [eq87]
 exact (nt87 Ops.std c86 p0 _ _ some (K14 k0) (rr87 c86 p0 k0 1000000) none).trans (by show ob (F87 c86 p0) _=_;rw [hy];rfl)
noncomputable def M87:C87:=F87 M86
theorem sm87:Sp87 M87:=sf87 sm86
def X104:Aux:=⟨[],[]⟩
def T104 {R:Type} (B:Ops) (p0:Int) (k:(Bool)→Option R):Option R:=cond (B.le 48 p0) (k (B.le p0 57)) (k false)
theorem eq104 {R:Type} (B:Ops) (p0:Int) (k:AV→Objs→Option R) (n:Nat):afun tau B gl0 X104 gnil ow Tryz.f104 [.c (.int .u8 p0)] [] k n=T104 B p0 (K2 k):=by kernel_rfl
theorem nt104 {R R':Type} (B:Ops) (p0:Int) (k0:(Bool)→Option R') (k:R'→Option R):T104 B p0 (fun y=>ob (k0 y) k)=ob (T104 B p0 k0) k:=by
 unfold T104
 repeat' first | exact rfl | apply qae | (apply qaj;intro)
def F104 (p0:Int):Option (Bool):=T104 Ops.std p0 some
abbrev C104:Type:=Int→Option (Bool)
def e104 {R:Type} (c:C104):Ent R:=eG [.aC (.cI .u8)] [] fun v k=>ob (c v.1) (K2 k)
abbrev Sp104 (c:C104):Prop:=∀ (p0:Int) (y:Bool),c p0=some y→Spec Tryz.prog gl0 104 [.c (.int .u8 p0)] [] (.c (.bool y)) []
theorem ek104 {R:Type} {c:C104} (hs:Sp104 c):EOk 104 (e104 (R:=R) c):=qam fun v=>hs v.1
theorem sf104:Sp104 (F104):=fun p0 y hy=>by
 refine qai qah 1000000 (fn:=Tryz.f104) (by kernel_rfl) (by kernel_rfl) (X:=X104) (by kernel_rfl) ?_
 rw [eq104]
 exact (nt104 Ops.std p0 some (K2 k0)).trans (by show ob (F104 p0) _=_;rw [hy];rfl)
noncomputable def M104:C104:=F104
theorem sm104:Sp104 M104:=sf104
abbrev K15 {R:Type} (k:AV→Objs→Option R) (y:(Int×Bool)):Option R:=k (.tup [(false,[.int .i64 y.1]),(false,[.bool y.2])]) []
abbrev C147:Type:=LB→Bool→Option (Int×Bool)
def e147 {R:Type} (c:C147):Ent R:=eG [.aC .cS,.aC .cB] [] fun v k=>ob (c v.1 v.2.1) (K15 k)
abbrev Sp147 (c:C147):Prop:=∀ (p0:LB) (p1:Bool) (y:Int×Bool),c p0 p1=some y→Spec Tryz.prog gl0 147 [.c (.str p0),.c (.bool p1)] [] (.tup [(false,[.int .i64 y.1]),(false,[.bool y.2])]) []
theorem ek147 {R:Type} {c:C147} (hs:Sp147 c):EOk 147 (e147 (R:=R) c):=qam fun v=>hs v.1 v.2.1
def X147:Aux:=⟨[(6,([1,2,3,4,5,6,7]++rg 10 45))],[]⟩
inductive S147 where
 | l0 (v1 v2:Int)
def T147 {R:Type} (B:Ops) (c147:C147) (c104:C104) (p0:LB) (p1:Bool) (again:S147→Option R) (k:(Int×Bool)→Option R):Option S147→Option R | none=>cond (p1) (cond (B.lt 1 (↑p0.length)) (cond (B.inb 0 p0.length) (cond (B.eq (Nat.cast (UInt8.toNat (p0.getD (Int.toNat 0) 0))) 45) (cond (B.inb 1 (List.length p0+1)) (ob (c147 (List.drop (Int.toNat 1) (List.take p0.length p0)) false) fun y0=>k ((IntKind.wrap .i64 (0-y0.1),y0.2))) none) (again (.l0 0 0))) none) (again (.l0 0 0))) (again (.l0 0 0)) | some (.l0 v1 v2)=>cond (B.lt v2 (↑p0.length)) (cond (B.inb v2 p0.length) (ob (c104 (Nat.cast (UInt8.toNat (p0.getD v2.toNat 0)))) fun y0=>cond (!y0) (k (0,false)) (cond (B.inb v2 p0.length) (cond (B.lt 2 v2) (k (0,false)) (again (.l0 (IntKind.wrap .i64 (IntKind.wrap .i64 (10*v1)+IntKind.wrap .i64 (IntKind.wrap IntKind.u8 (Nat.cast (UInt8.toNat (p0.getD v2.toNat 0))-48)))) (IntKind.wrap .i64 (v2+1))))) none)) none) (k ((v1,B.lt 0 (↑p0.length))))
def E147 (p0:LB) (p1:Bool):S147→List AV×Objs
 | .l0 v1 v2=>(mk 55 [(0,.c (.str p0)),(8,.c (.int .i64 v1)),(9,.c (.int .i64 v2))],[])
def I147:S147→Nat
 | .l0 _ _=>0
noncomputable abbrev A147 {R:Type} (B:Ops) (c147:C147) (c104:C104) (p0:LB) (p1:Bool) (k:AV→Objs→Option R) (s:S147) (n:Nat):Option R:=aloop tau B gl0 X147 (ent 147 (e147 c147) (ent 104 (e104 c104) gnil)) ow [] Tryz.f147 k (I147 s) (E147 p0 p1 s) n
theorem eq147 {R:Type} (B:Ops) (c147:C147) (c104:C104) (p0:LB) (p1:Bool) (k:AV→Objs→Option R) (n:Nat):afun tau B gl0 X147 (ent 147 (e147 c147) (ent 104 (e104 c104) gnil)) ow Tryz.f147 [.c (.str p0),.c (.bool p1)] [] k n=T147 B c147 c104 p0 p1 (fun s=>A147 B c147 c104 p0 p1 k s n) (K15 k) none:=by kernel_rfl
theorem el147 {R:Type} (B:Ops) (c147:C147) (c104:C104) (p0:LB) (p1:Bool) (k:AV→Objs→Option R) (n:Nat):∀ s,A147 B c147 c104 p0 p1 k s (n+1)=T147 B c147 c104 p0 p1 (fun s=>A147 B c147 c104 p0 p1 k s n) (K15 k) (some s):=by
 intro s
 cases s<;>kernel_rfl
theorem nt147 {R R':Type} (B:Ops) (c147:C147) (c104:C104) (p0:LB) (p1:Bool) (again:S147→Option R) (again':S147→Option R') (k0:(Int×Bool)→Option R') (k:R'→Option R) (h:∀ s,again s=ob (again' s) k):∀ s,T147 B c147 c104 p0 p1 again (fun y=>ob (k0 y) k) s=ob (T147 B c147 c104 p0 p1 again' k0 s) k:=by
 rintro (_ | x)
 all_goals try cases x
 all_goals (unfold T147;repeat' first | exact rfl | exact h _ | apply qae | (apply qaj;intro))
def R147 (c147:C147) (c104:C104) (p0:LB) (p1:Bool):Nat→S147→Option (Int×Bool)
 | 0,_=>none
 | n+1,s=>T147 Ops.std c147 c104 p0 p1 (R147 c147 c104 p0 p1 n) some (some s)
theorem rr147 {R:Type} (c147:C147) (c104:C104) (p0:LB) (p1:Bool) (k:AV→Objs→Option R):∀ (n:Nat) (s:S147),A147 Ops.std c147 c104 p0 p1 k s n=ob (R147 c147 c104 p0 p1 n s) (K15 k)
 | 0,s=>by cases s<;>rfl
 | n+1,s=>by rw [el147];exact nt147 Ops.std c147 c104 p0 p1 _ _ some (K15 k) (rr147 c147 c104 p0 p1 k n) (some s)
def F147 (c147:C147) (c104:C104) (p0:LB) (p1:Bool):Option (Int×Bool):=T147 Ops.std c147 c104 p0 p1 (R147 c147 c104 p0 p1 1000000) some none
theorem sf147 {c147:C147} {c104:C104} (h147:Sp147 c147) (h104:Sp104 c104):Sp147 (F147 c147 c104):=fun p0 p1 y hy=>by
 refine qai (qac (ek147 h147) (qac (ek104 h104) qah)) 1000000 (fn:=Tryz.f147) (by kernel_rfl) (by kernel_rfl) (X:=X147) (by kernel_rfl) ?_
 rw [eq147]
 exact (nt147 Ops.std c147 c104 p0 p1 _ _ some (K15 k0) (rr147 c147 c104 p0 p1 k0 1000000) none).trans (by show ob (F147 c147 c104 p0 p1) _=_;rw [hy];rfl)
noncomputable def Rec147:Nat→(LB→Bool→Option (Int×Bool))
 | 0=>fun _ _=>none
 | d+1=>F147 (Rec147 d) M104
theorem rec147:∀ d,Sp147 (Rec147 d)
 | 0=>fun p0 p1 y (h:(none:Option (Int×Bool))=some y)=>by cases h
 | d+1=>sf147 (rec147 d) sm104
noncomputable def M147:C147:=(Rec147 1000000)
theorem sm147:Sp147 M147:=(rec147 1000000)
def X88:Aux:=⟨[],[]⟩
def T88 {R:Type} (B:Ops) (c147:C147) (p0:L9) (k:(LB×Int×Int×Int×Bool)→Option R):Option R:=cond (!B.eq (↑p0.length) 4) (k (mt UInt8,0,0,0,false)) (cond (B.inb 1 p0.length) (ob (c147 (p0.getD (Int.toNat 1) ty9.dflt) true) fun y0=>cond (B.inb 2 p0.length) (ob (c147 (p0.getD (Int.toNat 2) ty9.dflt) true) fun y1=>cond (B.inb 3 p0.length) (ob (c147 (p0.getD (Int.toNat 3) ty9.dflt) true) fun y2=>cond (B.inb 0 p0.length) (cond y0.2 (cond y1.2 (k ((p0.getD (Int.toNat 0) ty9.dflt,y0.1,y1.1,y2.1,y2.2))) (k ((p0.getD (Int.toNat 0) ty9.dflt,y0.1,y1.1,y2.1,false)))) (k ((p0.getD (Int.toNat 0) ty9.dflt,y0.1,y1.1,y2.1,false)))) none) none) none) none)
abbrev K16 {R:Type} (k:AV→Objs→Option R) (y:(LB×Int×Int×Int×Bool)):Option R:=k (.tup [(true,[.str y.1,.int .i64 y.2.1,.int .i64 y.2.2.1,.int .i64 y.2.2.2.1]),(false,[.bool y.2.2.2.2])]) []
theorem eq88 {R:Type} (B:Ops) (c147:C147) (p0:L9) (k:AV→Objs→Option R) (n:Nat):afun tau B gl0 X88 (ent 147 (e147 c147) gnil) ow Tryz.f88 [.c (.list 9 ty9 p0)] [] k n=T88 B c147 p0 (K16 k):=by kernel_rfl
theorem nt88 {R R':Type} (B:Ops) (c147:C147) (p0:L9) (k0:(LB×Int×Int×Int×Bool)→Option R') (k:R'→Option R):T88 B c147 p0 (fun y=>ob (k0 y) k)=ob (T88 B c147 p0 k0) k:=by
 unfold T88
 repeat' first | exact rfl | apply qae | (apply qaj;intro)
def F88 (c147:C147) (p0:L9):Option (LB×Int×Int×Int×Bool):=T88 Ops.std c147 p0 some
abbrev C88:Type:=L9→Option (LB×Int×Int×Int×Bool)
def e88 {R:Type} (c:C88):Ent R:=eG [.aC (.cL 9 ty9)] [] fun v k=>ob (c v.1) (K16 k)
abbrev Sp88 (c:C88):Prop:=∀ (p0:L9) (y:LB×Int×Int×Int×Bool),c p0=some y→Spec Tryz.prog gl0 88 [.c (.list 9 ty9 p0)] [] (.tup [(true,[.str y.1,.int .i64 y.2.1,.int .i64 y.2.2.1,.int .i64 y.2.2.2.1]),(false,[.bool y.2.2.2.2])]) []
theorem ek88 {R:Type} {c:C88} (hs:Sp88 c):EOk 88 (e88 (R:=R) c):=qam fun v=>hs v.1
theorem sf88 {c147:C147} (h147:Sp147 c147):Sp88 (F88 c147):=fun p0 y hy=>by
 refine qai (qac (ek147 h147) qah) 1000000 (fn:=Tryz.f88) (by kernel_rfl) (by kernel_rfl) (X:=X88) (by kernel_rfl) ?_
 rw [eq88]
 exact (nt88 Ops.std c147 p0 some (K16 k0)).trans (by show ob (F88 c147 p0) _=_;rw [hy];rfl)
noncomputable def M88:C88:=F88 M147
theorem sm88:Sp88 M88:=sf88 sm147
def X90:Aux:=⟨[(1,(rg 2 28)),(3,(rg 2 28)),(5,(rg 2 28))],[]⟩
inductive S90 where
 | l0 (v0:LB) (v1:Int)
 | l1 (v0:LB) (v1:Int)
 | l2 (v0:LB) (v1:Int)
def T90 {R:Type} (B:Ops) (p0:LB) (p1:Int) (again:S90→Option R) (k:(LB)→Option R):Option S90→Option R | none=>again (.l0 p0 p1) | some (.l0 v0 v1)=>cond (B.lt 0 v1) (again (.l1 v0 v1)) (k v0) | some (.l1 v0 v1)=>cond (B.lt 0 (↑v0.length)) (cond (B.inb 0 v0.length) (cond (B.eq (Nat.cast (UInt8.toNat (v0.getD (Int.toNat 0) 0))) 32) (cond (B.inb 1 (List.length v0+1)) (again (.l1 (List.drop (Int.toNat 1) (List.take v0.length v0)) v1)) none) (again (.l2 v0 v1))) none) (again (.l2 v0 v1)) | some (.l2 v0 v1)=>cond (B.lt 0 (↑v0.length)) (cond (B.inb 0 v0.length) (cond (!B.eq (Nat.cast (UInt8.toNat (v0.getD (Int.toNat 0) 0))) 32) (cond (B.inb 1 (List.length v0+1)) (again (.l2 (List.drop (Int.toNat 1) (List.take v0.length v0)) v1)) none) (again (.l0 v0 (IntKind.wrap .i64 (v1-1))))) none) (again (.l0 v0 (IntKind.wrap .i64 (v1-1))))
def E90 (p0:LB) (p1:Int):S90→List AV×Objs
 | .l0 v0 v1=>(mk 30 [(0,.c (.str v0)),(1,.c (.int .i64 v1))],[])
 | .l1 v0 v1=>(mk 30 [(0,.c (.str v0)),(1,.c (.int .i64 v1))],[])
 | .l2 v0 v1=>(mk 30 [(0,.c (.str v0)),(1,.c (.int .i64 v1))],[])
def I90:S90→Nat
 | .l0 _ _=>0
 | .l1 _ _=>1
 | .l2 _ _=>2
noncomputable abbrev A90 {R:Type} (B:Ops) (p0:LB) (p1:Int) (k:AV→Objs→Option R) (s:S90) (n:Nat):Option R:=aloop tau B gl0 X90 gnil ow [] Tryz.f90 k (I90 s) (E90 p0 p1 s) n
theorem eq90 {R:Type} (B:Ops) (p0:LB) (p1:Int) (k:AV→Objs→Option R) (n:Nat):afun tau B gl0 X90 gnil ow Tryz.f90 [.c (.str p0),.c (.int .i64 p1)] [] k n=T90 B p0 p1 (fun s=>A90 B p0 p1 k s n) (K3 k) none:=by kernel_rfl
theorem el90 {R:Type} (B:Ops) (p0:LB) (p1:Int) (k:AV→Objs→Option R) (n:Nat):∀ s,A90 B p0 p1 k s (n+1)=T90 B p0 p1 (fun s=>A90 B p0 p1 k s n) (K3 k) (some s):=by
 intro s
 cases s<;>kernel_rfl
theorem nt90 {R R':Type} (B:Ops) (p0:LB) (p1:Int) (again:S90→Option R) (again':S90→Option R') (k0:(LB)→Option R') (k:R'→Option R) (h:∀ s,again s=ob (again' s) k):∀ s,T90 B p0 p1 again (fun y=>ob (k0 y) k) s=ob (T90 B p0 p1 again' k0 s) k:=by
 rintro (_ | x)
 all_goals try cases x
 all_goals (unfold T90;repeat' first | exact rfl | exact h _ | apply qae | (apply qaj;intro))
def R90 (p0:LB) (p1:Int):Nat→S90→Option (LB)
 | 0,_=>none
 | n+1,s=>T90 Ops.std p0 p1 (R90 p0 p1 n) some (some s)
theorem rr90 {R:Type} (p0:LB) (p1:Int) (k:AV→Objs→Option R):∀ (n:Nat) (s:S90),A90 Ops.std p0 p1 k s n=ob (R90 p0 p1 n s) (K3 k)
 | 0,s=>by cases s<;>rfl
 | n+1,s=>by rw [el90];exact nt90 Ops.std p0 p1 _ _ some (K3 k) (rr90 p0 p1 k n) (some s)
def F90 (p0:LB) (p1:Int):Option (LB):=T90 Ops.std p0 p1 (R90 p0 p1 1000000) some none
abbrev C90:Type:=LB→Int→Option (LB)
def e90 {R:Type} (c:C90):Ent R:=eG [.aC .cS,.aC (.cI .i64)] [] fun v k=>ob (c v.1 v.2.1) (K3 k)
abbrev Sp90 (c:C90):Prop:=∀ (p0:LB) (p1:Int) (y:LB),c p0 p1=some y→Spec Tryz.prog gl0 90 [.c (.str p0),.c (.int .i64 p1)] [] (.c (.str y)) []
theorem ek90 {R:Type} {c:C90} (hs:Sp90 c):EOk 90 (e90 (R:=R) c):=qam fun v=>hs v.1 v.2.1
theorem sf90:Sp90 (F90):=fun p0 p1 y hy=>by
 refine qai qah 1000000 (fn:=Tryz.f90) (by kernel_rfl) (by kernel_rfl) (X:=X90) (by kernel_rfl) ?_
 rw [eq90]
 exact (nt90 Ops.std p0 p1 _ _ some (K3 k0) (rr90 p0 p1 k0 1000000) none).trans (by show ob (F90 p0 p1) _=_;rw [hy];rfl)
noncomputable def M90:C90:=F90
theorem sm90:Sp90 M90:=sf90
def X103:Aux:=⟨[],[]⟩
def T103 {R:Type} (B:Ops) (p0:Int) (k:(Bool)→Option R):Option R:=cond (B.le 97 p0) (cond (B.le p0 122) (k true) (k (B.eq p0 95))) (k (B.eq p0 95))
theorem eq103 {R:Type} (B:Ops) (p0:Int) (k:AV→Objs→Option R) (n:Nat):afun tau B gl0 X103 gnil ow Tryz.f103 [.c (.int .u8 p0)] [] k n=T103 B p0 (K2 k):=by kernel_rfl
theorem nt103 {R R':Type} (B:Ops) (p0:Int) (k0:(Bool)→Option R') (k:R'→Option R):T103 B p0 (fun y=>ob (k0 y) k)=ob (T103 B p0 k0) k:=by
 unfold T103
 repeat' first | exact rfl | apply qae | (apply qaj;intro)
def F103 (p0:Int):Option (Bool):=T103 Ops.std p0 some
abbrev C103:Type:=Int→Option (Bool)
def e103 {R:Type} (c:C103):Ent R:=eG [.aC (.cI .u8)] [] fun v k=>ob (c v.1) (K2 k)
abbrev Sp103 (c:C103):Prop:=∀ (p0:Int) (y:Bool),c p0=some y→Spec Tryz.prog gl0 103 [.c (.int .u8 p0)] [] (.c (.bool y)) []
theorem ek103 {R:Type} {c:C103} (hs:Sp103 c):EOk 103 (e103 (R:=R) c):=qam fun v=>hs v.1
theorem sf103:Sp103 (F103):=fun p0 y hy=>by
 refine qai qah 1000000 (fn:=Tryz.f103) (by kernel_rfl) (by kernel_rfl) (X:=X103) (by kernel_rfl) ?_
 rw [eq103]
 exact (nt103 Ops.std p0 some (K2 k0)).trans (by show ob (F103 p0) _=_;rw [hy];rfl)
noncomputable def M103:C103:=F103
theorem sm103:Sp103 M103:=sf103
def X58:Aux:=⟨[(2,([1,2]++rg 4 30))],[]⟩
inductive S58 where
 | l0 (v1:Int)
def T58 {R:Type} (B:Ops) (c103:C103) (c104:C104) (p0:LB) (again:S58→Option R) (k:(Bool)→Option R):Option S58→Option R | none=>again (.l0 0) | some (.l0 v1)=>cond (B.lt v1 (↑p0.length)) (cond (B.inb v1 p0.length) (ob (c103 (Nat.cast (UInt8.toNat (p0.getD v1.toNat 0)))) fun y0=>cond (!y0) (cond (B.eq v1 0) (k false) (cond (B.inb v1 p0.length) (ob (c104 (Nat.cast (UInt8.toNat (p0.getD v1.toNat 0)))) fun y1=>cond (!y1) (k false) (again (.l0 (IntKind.wrap .i64 (v1+1))))) none)) (again (.l0 (IntKind.wrap .i64 (v1+1))))) none) (cond (B.le 1 (↑p0.length)) (k (B.le (↑p0.length) 8)) (k false))
def E58 (p0:LB):S58→List AV×Objs
 | .l0 v1=>(mk 34 [(0,.c (.str p0)),(3,.c (.int .i64 v1))],[])
def I58:S58→Nat
 | .l0 _=>0
noncomputable abbrev A58 {R:Type} (B:Ops) (c103:C103) (c104:C104) (p0:LB) (k:AV→Objs→Option R) (s:S58) (n:Nat):Option R:=aloop tau B gl0 X58 (ent 103 (e103 c103) (ent 104 (e104 c104) gnil)) ow [] Tryz.f58 k (I58 s) (E58 p0 s) n
theorem eq58 {R:Type} (B:Ops) (c103:C103) (c104:C104) (p0:LB) (k:AV→Objs→Option R) (n:Nat):afun tau B gl0 X58 (ent 103 (e103 c103) (ent 104 (e104 c104) gnil)) ow Tryz.f58 [.c (.str p0)] [] k n=T58 B c103 c104 p0 (fun s=>A58 B c103 c104 p0 k s n) (K2 k) none:=by kernel_rfl
theorem el58 {R:Type} (B:Ops) (c103:C103) (c104:C104) (p0:LB) (k:AV→Objs→Option R) (n:Nat):∀ s,A58 B c103 c104 p0 k s (n+1)=T58 B c103 c104 p0 (fun s=>A58 B c103 c104 p0 k s n) (K2 k) (some s):=by
 intro s
 cases s<;>kernel_rfl
theorem nt58 {R R':Type} (B:Ops) (c103:C103) (c104:C104) (p0:LB) (again:S58→Option R) (again':S58→Option R') (k0:(Bool)→Option R') (k:R'→Option R) (h:∀ s,again s=ob (again' s) k):∀ s,T58 B c103 c104 p0 again (fun y=>ob (k0 y) k) s=ob (T58 B c103 c104 p0 again' k0 s) k:=by
 rintro (_ | x)
 all_goals try cases x
 all_goals (unfold T58;repeat' first | exact rfl | exact h _ | apply qae | (apply qaj;intro))
def R58 (c103:C103) (c104:C104) (p0:LB):Nat→S58→Option (Bool)
 | 0,_=>none
 | n+1,s=>T58 Ops.std c103 c104 p0 (R58 c103 c104 p0 n) some (some s)
theorem rr58 {R:Type} (c103:C103) (c104:C104) (p0:LB) (k:AV→Objs→Option R):∀ (n:Nat) (s:S58),A58 Ops.std c103 c104 p0 k s n=ob (R58 c103 c104 p0 n s) (K2 k)
 | 0,s=>by cases s<;>rfl
 | n+1,s=>by rw [el58];exact nt58 Ops.std c103 c104 p0 _ _ some (K2 k) (rr58 c103 c104 p0 k n) (some s)
def F58 (c103:C103) (c104:C104) (p0:LB):Option (Bool):=T58 Ops.std c103 c104 p0 (R58 c103 c104 p0 10000000000000000000) some none
abbrev C58:Type:=LB→Option (Bool)
def e58 {R:Type} (c:C58):Ent R:=eG [.aC .cS] [] fun v k=>ob (c v.1) (K2 k)
abbrev Sp58 (c:C58):Prop:=∀ (p0:LB) (y:Bool),c p0=some y→Spec Tryz.prog gl0 58 [.c (.str p0)] [] (.c (.bool y)) []
theorem ek58 {R:Type} {c:C58} (hs:Sp58 c):EOk 58 (e58 (R:=R) c):=qam fun v=>hs v.1
theorem sf58 {c103:C103} {c104:C104} (h103:Sp103 c103) (h104:Sp104 c104):Sp58 (F58 c103 c104):=fun p0 y hy=>by
 refine qai (qac (ek103 h103) (qac (ek104 h104) qah)) 10000000000000000000 (fn:=Tryz.f58) (by kernel_rfl) (by kernel_rfl) (X:=X58) (by kernel_rfl) ?_
 rw [eq58]
 exact (nt58 Ops.std c103 c104 p0 _ _ some (K2 k0) (rr58 c103 c104 p0 k0 10000000000000000000) none).trans (by show ob (F58 c103 c104 p0) _=_;rw [hy];rfl)
noncomputable def M58:C58:=F58 M103 M104
theorem sm58:Sp58 M58:=sf58 sm103 sm104
def X106:Aux:=⟨[],[]⟩
def T106 {R:Type} (B:Ops) (c58:C58) (p0:LB) (k:(LB×Bool)→Option R):Option R:=cond (p0 == mt UInt8) (k (mt UInt8,true)) (cond (B.inb (IntKind.wrap .i64 (Nat.cast p0.length-1)) (List.length p0+1)) (cond (B.inb (IntKind.wrap .i64 (Nat.cast p0.length-1)) (List.length p0+1)) (ob (c58 (List.drop 0 (List.take (Int.toNat (IntKind.wrap .i64 (Nat.cast p0.length-1))) p0))) fun y0=>cond (y0) (cond (List.drop (Int.toNat (IntKind.wrap .i64 (Nat.cast p0.length-1))) (List.take p0.length p0) == ([33]:LB)) (k ((List.drop 0 (List.take (Int.toNat (IntKind.wrap .i64 (Nat.cast p0.length-1))) p0),true))) (k ((List.drop 0 (List.take (Int.toNat (IntKind.wrap .i64 (Nat.cast p0.length-1))) p0),List.drop (Int.toNat (IntKind.wrap .i64 (Nat.cast p0.length-1))) (List.take p0.length p0) == ([63]:LB))))) (k ((List.drop 0 (List.take (Int.toNat (IntKind.wrap .i64 (Nat.cast p0.length-1))) p0),false)))) none) none)
abbrev K17 {R:Type} (k:AV→Objs→Option R) (y:(LB×Bool)):Option R:=k (.tup [(false,[.str y.1]),(false,[.bool y.2])]) []
theorem eq106 {R:Type} (B:Ops) (c58:C58) (p0:LB) (k:AV→Objs→Option R) (n:Nat):afun tau B gl0 X106 (ent 58 (e58 c58) gnil) ow Tryz.f106 [.c (.str p0)] [] k n=T106 B c58 p0 (K17 k):=by kernel_rfl
theorem nt106 {R R':Type} (B:Ops) (c58:C58) (p0:LB) (k0:(LB×Bool)→Option R') (k:R'→Option R):T106 B c58 p0 (fun y=>ob (k0 y) k)=ob (T106 B c58 p0 k0) k:=by
 unfold T106
 repeat' first | exact rfl | apply qae | (apply qaj;intro)
def F106 (c58:C58) (p0:LB):Option (LB×Bool):=T106 Ops.std c58 p0 some
abbrev C106:Type:=LB→Option (LB×Bool)
def e106 {R:Type} (c:C106):Ent R:=eG [.aC .cS] [] fun v k=>ob (c v.1) (K17 k)
abbrev Sp106 (c:C106):Prop:=∀ (p0:LB) (y:LB×Bool),c p0=some y→Spec Tryz.prog gl0 106 [.c (.str p0)] [] (.tup [(false,[.str y.1]),(false,[.bool y.2])]) []
theorem ek106 {R:Type} {c:C106} (hs:Sp106 c):EOk 106 (e106 (R:=R) c):=qam fun v=>hs v.1
theorem sf106 {c58:C58} (h58:Sp58 c58):Sp106 (F106 c58):=fun p0 y hy=>by
 refine qai (qac (ek58 h58) qah) 1000000 (fn:=Tryz.f106) (by kernel_rfl) (by kernel_rfl) (X:=X106) (by kernel_rfl) ?_
 rw [eq106]
 exact (nt106 Ops.std c58 p0 some (K17 k0)).trans (by show ob (F106 c58 p0) _=_;rw [hy];rfl)
noncomputable def M106:C106:=F106 M58
theorem sm106:Sp106 M106:=sf106 sm58
def X140:Aux:=⟨[(3,([1,2]++rg 5 37)),(9,([1,2,3,4]++rg 7 35))],[(5,.lin (rg 0 11)),(11,.lin [0,1,2,3,4,5,6,7])]⟩
inductive S140 where
 | l0 (v1:Int)
 | l1 (v2:Int)
def T140 {R:Type} (B:Ops) (p0:LB) (again:S140→Option R) (k:(LB)→Option R):Option S140→Option R | none=>again (.l0 0) | some (.l0 v1)=>cond (B.lt v1 7) (cond (B.lt 1 (↑p0.length)) (cond (B.inb 2 (List.length p0+1)) (cond (B.inb v1 9) (cond (List.drop 0 (List.take (Int.toNat 2) p0) == List.getD (([60,61]:LB)::([62,61]:LB)::([61,61]:LB)::([33,61]:LB)::([38,38]:LB)::([124,124]:LB)::([45,62]:LB)::(mt UInt8)::(mt UInt8)::mt LB) v1.toNat (mt UInt8)) (cond (B.inb v1 9) (k (List.getD (([60,61]:LB)::([62,61]:LB)::([61,61]:LB)::([33,61]:LB)::([38,38]:LB)::([124,124]:LB)::([45,62]:LB)::(mt UInt8)::(mt UInt8)::mt LB) v1.toNat (mt UInt8))) none) (again (.l0 (IntKind.wrap .i64 (v1+1))))) none) none) (again (.l0 (IntKind.wrap .i64 (v1+1))))) (again (.l1 0)) | some (.l1 v2)=>cond (B.lt v2 (Nat.cast 13)) (cond (B.inb 1 (List.length p0+1)) (cond (B.inb (IntKind.wrap .i64 (v2+1)) (13+1)) (cond (bif B.le 0 v2 then B.le v2 (IntKind.wrap .i64 (v2+1)) else false) (cond (List.drop 0 (List.take (Int.toNat 1) p0) == List.drop v2.toNat (List.take (Int.toNat (IntKind.wrap .i64 (v2+1))) ([40,41,91,93,43,45,42,60,62,33,64,59,61]:LB))) (cond (B.inb 1 (List.length p0+1)) (k (List.drop 0 (List.take (Int.toNat 1) p0))) none) (again (.l1 (IntKind.wrap .i64 (v2+1))))) none) none) none) (k (mt UInt8))
def E140 (p0:LB):S140→List AV×Objs
 | .l0 v1=>(mk 42 [(0,.c (.str p0)),(3,.c (.ptr 3 0)),(4,.c (.int .i64 v1))],[(3,.box 203 [.str ([60,61]:LB),.str ([62,61]:LB),.str ([61,61]:LB),.str ([33,61]:LB),.str ([38,38]:LB),.str ([124,124]:LB),.str ([45,62]:LB),.str (mt UInt8),.str (mt UInt8)])])
 | .l1 v2=>(mk 42 [(0,.c (.str p0)),(5,.c (.str ([40,41,91,93,43,45,42,60,62,33,64,59,61]:LB))),(6,.c (.int .i64 v2))],[])
def I140:S140→Nat
 | .l0 _=>0
 | .l1 _=>1
noncomputable abbrev A140 {R:Type} (B:Ops) (p0:LB) (k:AV→Objs→Option R) (s:S140) (n:Nat):Option R:=aloop tau B gl0 X140 gnil ow [] Tryz.f140 k (I140 s) (E140 p0 s) n
theorem eq140 {R:Type} (B:Ops) (p0:LB) (k:AV→Objs→Option R) (n:Nat):afun tau B gl0 X140 gnil ow Tryz.f140 [.c (.str p0)] [] k n=T140 B p0 (fun s=>A140 B p0 k s n) (K3 k) none:=by kernel_rfl
theorem el140 {R:Type} (B:Ops) (p0:LB) (k:AV→Objs→Option R) (n:Nat):∀ s,A140 B p0 k s (n+1)=T140 B p0 (fun s=>A140 B p0 k s n) (K3 k) (some s):=by
 intro s
 cases s<;>kernel_rfl
theorem nt140 {R R':Type} (B:Ops) (p0:LB) (again:S140→Option R) (again':S140→Option R') (k0:(LB)→Option R') (k:R'→Option R) (h:∀ s,again s=ob (again' s) k):∀ s,T140 B p0 again (fun y=>ob (k0 y) k) s=ob (T140 B p0 again' k0 s) k:=by
 rintro (_ | x)
 all_goals try cases x
 all_goals (unfold T140;repeat' first | exact rfl | exact h _ | apply qae | (apply qaj;intro))
def R140 (p0:LB):Nat→S140→Option (LB)
 | 0,_=>none
 | n+1,s=>T140 Ops.std p0 (R140 p0 n) some (some s)
theorem rr140 {R:Type} (p0:LB) (k:AV→Objs→Option R):∀ (n:Nat) (s:S140),A140 Ops.std p0 k s n=ob (R140 p0 n s) (K3 k)
 | 0,s=>by cases s<;>rfl
 | n+1,s=>by rw [el140];exact nt140 Ops.std p0 _ _ some (K3 k) (rr140 p0 k n) (some s)
def F140 (p0:LB):Option (LB):=T140 Ops.std p0 (R140 p0 1000000) some none
abbrev C140:Type:=LB→Option (LB)
def e140 {R:Type} (c:C140):Ent R:=eG [.aC .cS] [] fun v k=>ob (c v.1) (K3 k)
abbrev Sp140 (c:C140):Prop:=∀ (p0 y:LB),c p0=some y→Spec Tryz.prog gl0 140 [.c (.str p0)] [] (.c (.str y)) []
theorem ek140 {R:Type} {c:C140} (hs:Sp140 c):EOk 140 (e140 (R:=R) c):=qam fun v=>hs v.1
theorem sf140:Sp140 (F140):=fun p0 y hy=>by
 refine qai qah 1000000 (fn:=Tryz.f140) (by kernel_rfl) (by kernel_rfl) (X:=X140) (by kernel_rfl) ?_
 rw [eq140]
 exact (nt140 Ops.std p0 _ _ some (K3 k0) (rr140 p0 k0 1000000) none).trans (by show ob (F140 p0) _=_;rw [hy];rfl)
noncomputable def M140:C140:=F140
theorem sm140:Sp140 M140:=sf140
def X82:Aux:=⟨[(5,([1,2,3,4]++rg 7 144)),(17,([1,2,3,4]++rg 9 142)),(25,([1,2,3,4]++rg 9 142)),(1000020,([1,2,3,4]++rg 9 142)),(1000026,([1,2,3,4]++rg 9 142)),(1000027,([1,2,3,4]++rg 9 142)),(1000031,([1,2,3,4,7]++rg 9 142)),(1000010,([1,2,3,4,7]++rg 9 142)),(1000032,([1,2,3,4]++rg 9 142))],[(19,.lin (rg 0 13))]⟩
inductive S82 where
 | l0 (v1:Int) (v2:L130)
 | l1 (v1 v2:Int) (v3:L130) (v6 v7:Int)
 | l2 (v1 v2:Int) (v3:L130) (v7:Int)
 | l1010 (v1:Int) (v2:L130) (v6:Int)
 | l1020 (v1 v2:Int) (v3:L130) (v6 v7:Int)
 | l1026 (v1 v2:Int) (v3:L130) (v7:Int)
 | l1027 (v1 v2:Int) (v3:L130) (v7:Int)
 | l1031 (v1:Int) (v2:L130) (v6:Int)
 | l1032 (v1 v2:Int) (v3:L130) (v4 v6 v7:Int)
def T82 {R:Type} (B:Ops) (c104:C104) (c103:C103) (c140:C140) (p0:LB) (again:S82→Option R) (k:(Int×Int×L130)→Option R):Option S82→Option R | none=>cond (B.lt 60000 (↑p0.length)) (k ((14,0,mt (Ty.den ty130)))) (again (.l0 0 (mt (Ty.den ty130)))) | some (.l0 v1 v2)=>cond (B.lt v1 (↑p0.length)) (cond (B.inb v1 p0.length) (cond (B.eq (Nat.cast (UInt8.toNat (p0.getD v1.toNat 0))) 32) (again (.l0 (IntKind.wrap .i64 (v1+1)) v2)) (cond (B.eq (Nat.cast (UInt8.toNat (p0.getD v1.toNat 0))) 9) (again (.l0 (IntKind.wrap .i64 (v1+1)) v2)) (cond (B.eq (Nat.cast (UInt8.toNat (p0.getD v1.toNat 0))) 10) (again (.l0 (IntKind.wrap .i64 (v1+1)) v2)) (ob (c104 (Nat.cast (UInt8.toNat (p0.getD v1.toNat 0)))) fun y0=>cond (y0) (again (.l1 v1 0 v2 0 v1)) (ob (c103 (Nat.cast (UInt8.toNat (p0.getD v1.toNat 0)))) fun y1=>cond (y1) (again (.l2 v1 0 v2 v1)) (cond (B.eq (Nat.cast (UInt8.toNat (p0.getD v1.toNat 0))) 88) (again (.l1031 v1 v2 v1)) (cond (B.eq (Nat.cast (UInt8.toNat (p0.getD v1.toNat 0))) 70) (again (.l1031 v1 v2 v1)) (cond (B.eq (Nat.cast (UInt8.toNat (p0.getD v1.toNat 0))) 71) (again (.l1031 v1 v2 v1)) (cond (B.eq (Nat.cast (UInt8.toNat (p0.getD v1.toNat 0))) 85) (again (.l1031 v1 v2 v1)) (cond (B.eq (Nat.cast (UInt8.toNat (p0.getD v1.toNat 0))) 82) (again (.l1031 v1 v2 v1)) (again (.l1010 v1 v2 v1)))))))))))) none) (cond (B.lim (List.length v2+List.length ((5,mt UInt8,0,v1)::mt (Ty.den ty130))) 40) (k ((0,0,v2++(5,mt UInt8,0,v1)::mt (Ty.den ty130)))) none) | some (.l1 v1 v2 v3 v6 v7)=>cond (B.lt (IntKind.wrap .i64 (v1+v2)) (↑p0.length)) (cond (B.inb (IntKind.wrap .i64 (v1+v2)) p0.length) (ob (c104 (Nat.cast (UInt8.toNat (p0.getD (Int.toNat (IntKind.wrap .i64 (v1+v2))) 0)))) fun y0=>cond (y0) (cond (B.lt v2 3) (cond (B.inb (IntKind.wrap .i64 (v1+v2)) p0.length) (again (.l1020 v1 v2 v3 (IntKind.wrap .i64 (IntKind.wrap .i64 (10*v6)+IntKind.wrap .i64 (IntKind.wrap IntKind.u8 (Nat.cast (UInt8.toNat (p0.getD (Int.toNat (IntKind.wrap .i64 (v1+v2))) 0))-48)))) v7)) none) (again (.l1020 v1 v2 v3 v6 v7))) (cond (B.lt 3 v2) (k ((2,v1,mt (Ty.den ty130)))) (again (.l1032 v1 v2 v3 1 v6 v7)))) none) (cond (B.lt 3 v2) (k ((2,v1,mt (Ty.den ty130)))) (again (.l1032 v1 v2 v3 1 v6 v7))) | some (.l2 v1 v2 v3 v7)=>cond (B.lt (IntKind.wrap .i64 (v1+v2)) (↑p0.length)) (cond (B.inb (IntKind.wrap .i64 (v1+v2)) p0.length) (ob (c103 (Nat.cast (UInt8.toNat (p0.getD (Int.toNat (IntKind.wrap .i64 (v1+v2))) 0)))) fun y0=>cond (y0) (again (.l1026 v1 v2 v3 v7)) (cond (B.inb (IntKind.wrap .i64 (v1+v2)) p0.length) (ob (c104 (Nat.cast (UInt8.toNat (p0.getD (Int.toNat (IntKind.wrap .i64 (v1+v2))) 0)))) fun y1=>cond (y1) (again (.l1026 v1 v2 v3 v7)) (again (.l1027 v1 v2 v3 v7))) none)) none) (again (.l1027 v1 v2 v3 v7)) | some (.l1010 v1 v2 v6)=>cond (B.inb v1 (List.length p0+1)) (ob (c140 (List.drop v1.toNat (List.take p0.length p0))) fun y0=>cond (B.eq (↑y0.length) 0) (k ((2,v1,mt (Ty.den ty130)))) (again (.l1032 v1 (↑y0.length) v2 4 0 v6))) none | some (.l1020 v1 v2 v3 v6 v7)=>again (.l1 v1 (IntKind.wrap .i64 (v2+1)) v3 v6 v7) | some (.l1026 v1 v2 v3 v7)=>again (.l2 v1 (IntKind.wrap .i64 (v2+1)) v3 v7) | some (.l1027 v1 v2 v3 v7)=>cond (B.lt 8 v2) (k ((2,v1,mt (Ty.den ty130)))) (again (.l1032 v1 v2 v3 2 0 v7)) | some (.l1031 v1 v2 v6)=>again (.l1032 v1 1 v2 3 0 v6) | some (.l1032 v1 v2 v3 v4 v6 v7)=>cond (B.inb (IntKind.wrap .i64 (v1+v2)) (List.length p0+1)) (cond (bif B.le 0 v1 then B.le v1 (IntKind.wrap .i64 (v1+v2)) else false) (cond (B.lim (List.length v3+List.length ((v4,List.drop v1.toNat (List.take (Int.toNat (IntKind.wrap .i64 (v1+v2))) p0),v6,v7)::mt (Ty.den ty130))) 40) (again (.l0 (IntKind.wrap .i64 (v1+v2)) (v3++(v4,List.drop v1.toNat (List.take (Int.toNat (IntKind.wrap .i64 (v1+v2))) p0),v6,v7)::mt (Ty.den ty130)))) none) none) none
def E82 (p0:LB):S82→List AV×Objs
 | .l0 v1 v2=>(mk 151 [(0,.c (.str p0)),(5,.c (.own 5)),(6,.c (.int .i64 v1))],[(5,.row 130 ty130 v2)])
 | .l1 v1 v2 v3 v6 v7=>(mk 151 [(0,.c (.str p0)),(5,.c (.own 5)),(6,.c (.int .i64 v1)),(7,.c (.int .i64 v2)),(8,.c (.ptr 8 0))],[(5,.row 130 ty130 v3),(8,.box 130 [.int .i64 1,.str (mt UInt8),.int .i64 v6,.int .i64 v7])])
 | .l2 v1 v2 v3 v7=>(mk 151 [(0,.c (.str p0)),(5,.c (.own 5)),(6,.c (.int .i64 v1)),(7,.c (.int .i64 v2)),(8,.c (.ptr 8 0))],[(5,.row 130 ty130 v3),(8,.box 130 [.int .i64 2,.str (mt UInt8),.int .i64 0,.int .i64 v7])])
 | .l1010 v1 v2 v6=>(mk 151 [(0,.c (.str p0)),(5,.c (.own 5)),(6,.c (.int .i64 v1)),(8,.c (.ptr 8 0))],[(5,.row 130 ty130 v2),(8,.box 130 [.int .i64 4,.str (mt UInt8),.int .i64 0,.int .i64 v6])])
 | .l1020 v1 v2 v3 v6 v7=>(mk 151 [(0,.c (.str p0)),(5,.c (.own 5)),(6,.c (.int .i64 v1)),(7,.c (.int .i64 v2)),(8,.c (.ptr 8 0))],[(5,.row 130 ty130 v3),(8,.box 130 [.int .i64 1,.str (mt UInt8),.int .i64 v6,.int .i64 v7])])
 | .l1026 v1 v2 v3 v7=>(mk 151 [(0,.c (.str p0)),(5,.c (.own 5)),(6,.c (.int .i64 v1)),(7,.c (.int .i64 v2)),(8,.c (.ptr 8 0))],[(5,.row 130 ty130 v3),(8,.box 130 [.int .i64 2,.str (mt UInt8),.int .i64 0,.int .i64 v7])])
 | .l1027 v1 v2 v3 v7=>(mk 151 [(0,.c (.str p0)),(5,.c (.own 5)),(6,.c (.int .i64 v1)),(7,.c (.int .i64 v2)),(8,.c (.ptr 8 0))],[(5,.row 130 ty130 v3),(8,.box 130 [.int .i64 2,.str (mt UInt8),.int .i64 0,.int .i64 v7])])
 | .l1031 v1 v2 v6=>(mk 151 [(0,.c (.str p0)),(5,.c (.own 5)),(6,.c (.int .i64 v1)),(8,.c (.ptr 8 0))],[(5,.row 130 ty130 v2),(8,.box 130 [.int .i64 3,.str (mt UInt8),.int .i64 0,.int .i64 v6])])
 | .l1032 v1 v2 v3 v4 v6 v7=>(mk 151 [(0,.c (.str p0)),(5,.c (.own 5)),(6,.c (.int .i64 v1)),(7,.c (.int .i64 v2)),(8,.c (.ptr 8 0))],[(5,.row 130 ty130 v3),(8,.box 130 [.int .i64 v4,.str (mt UInt8),.int .i64 v6,.int .i64 v7])])
def I82:S82→Nat
 | .l0 _ _=>0
 | .l1 _ _ _ _ _=>1
 | .l2 _ _ _ _=>2
 | .l1010 _ _ _=>1010
 | .l1020 _ _ _ _ _=>1020
 | .l1026 _ _ _ _=>1026
 | .l1027 _ _ _ _=>1027
 | .l1031 _ _ _=>1031
 | .l1032 _ _ _ _ _ _=>1032
abbrev K18 {R:Type} (k:AV→Objs→Option R) (y:(Int×Int×L130)):Option R:=k (.tup [(false,[.own 501000]),(false,[.int .i64 y.1]),(false,[.int .i64 y.2.1])]) [(501000,.row 130 ty130 y.2.2)]
noncomputable abbrev A82 {R:Type} (B:Ops) (c104:C104) (c103:C103) (c140:C140) (p0:LB) (k:AV→Objs→Option R) (s:S82) (n:Nat):Option R:=aloop tau B gl0 X82 (ent 104 (e104 c104) (ent 103 (e103 c103) (ent 140 (e140 c140) gnil))) ow [] Tryz.f82 k (I82 s) (E82 p0 s) n
theorem eq82 {R:Type} (B:Ops) (c104:C104) (c103:C103) (c140:C140) (p0:LB) (k:AV→Objs→Option R) (n:Nat):afun tau B gl0 X82 (ent 104 (e104 c104) (ent 103 (e103 c103) (ent 140 (e140 c140) gnil))) ow Tryz.f82 [.c (.str p0)] [] k n=T82 B c104 c103 c140 p0 (fun s=>A82 B c104 c103 c140 p0 k s n) (K18 k) none:=by kernel_rfl
theorem el82 {R:Type} (B:Ops) (c104:C104) (c103:C103) (c140:C140) (p0:LB) (k:AV→Objs→Option R) (n:Nat):∀ s,A82 B c104 c103 c140 p0 k s (n+1)=T82 B c104 c103 c140 p0 (fun s=>A82 B c104 c103 c140 p0 k s n) (K18 k) (some s):=by
 intro s
 cases s<;>kernel_rfl
theorem nt82 {R R':Type} (B:Ops) (c104:C104) (c103:C103) (c140:C140) (p0:LB) (again:S82→Option R) (again':S82→Option R') (k0:(Int×Int×L130)→Option R') (k:R'→Option R) (h:∀ s,again s=ob (again' s) k):∀ s,T82 B c104 c103 c140 p0 again (fun y=>ob (k0 y) k) s=ob (T82 B c104 c103 c140 p0 again' k0 s) k:=by
 rintro (_ | x)
 all_goals try cases x
 all_goals (unfold T82;repeat' first | exact rfl | exact h _ | apply qae | (apply qaj;intro))
def R82 (c104:C104) (c103:C103) (c140:C140) (p0:LB):Nat→S82→Option (Int×Int×L130)
 | 0,_=>none
 | n+1,s=>T82 Ops.std c104 c103 c140 p0 (R82 c104 c103 c140 p0 n) some (some s)
theorem rr82 {R:Type} (c104:C104) (c103:C103) (c140:C140) (p0:LB) (k:AV→Objs→Option R):∀ (n:Nat) (s:S82),A82 Ops.std c104 c103 c140 p0 k s n=ob (R82 c104 c103 c140 p0 n s) (K18 k)
 | 0,s=>by cases s<;>rfl
 | n+1,s=>by rw [el82];exact nt82 Ops.std c104 c103 c140 p0 _ _ some (K18 k) (rr82 c104 c103 c140 p0 k n) (some s)
def F82 (c104:C104) (c103:C103) (c140:C140) (p0:LB):Option (Int×Int×L130):=T82 Ops.std c104 c103 c140 p0 (R82 c104 c103 c140 p0 1000000) some none
abbrev C82:Type:=LB→Option (Int×Int×L130)
def e82 {R:Type} (c:C82):Ent R:=eG [.aC .cS] [] fun v k=>ob (c v.1) (K18 k)
abbrev Sp82 (c:C82):Prop:=∀ (p0:LB) (y:Int×Int×L130),c p0=some y→Spec Tryz.prog gl0 82 [.c (.str p0)] [] (.tup [(false,[.own 501000]),(false,[.int .i64 y.1]),(false,[.int .i64 y.2.1])]) [(501000,.row 130 ty130 y.2.2)]
theorem ek82 {R:Type} {c:C82} (hs:Sp82 c):EOk 82 (e82 (R:=R) c):=qam fun v=>hs v.1
theorem sf82 {c104:C104} {c103:C103} {c140:C140} (h104:Sp104 c104) (h103:Sp103 c103) (h140:Sp140 c140):Sp82 (F82 c104 c103 c140):=fun p0 y hy=>by
 refine qai (qac (ek104 h104) (qac (ek103 h103) (qac (ek140 h140) qah))) 1000000 (fn:=Tryz.f82) (by kernel_rfl) (by kernel_rfl) (X:=X82) (by kernel_rfl) ?_
 rw [eq82]
 exact (nt82 Ops.std c104 c103 c140 p0 _ _ some (K18 k0) (rr82 c104 c103 c140 p0 k0 1000000) none).trans (by show ob (F82 c104 c103 c140 p0) _=_;rw [hy];rfl)
noncomputable def M82:C82:=F82 M104 M103 M140
theorem sm82:Sp82 M82:=sf82 sm104 sm103 sm140
def X193:Aux:=⟨[],[(1,.lin (rg 0 28))]⟩
def T193 {R:Type} (B:Ops) (p0:LB) (p1:L130) (p2 p3:Int) (p4:L150) (k:(Bool×L130×Int×Int×L150)→Option R):Option R:=cond (B.inb p2 p1.length) (cond (B.eq (p1.getD p2.toNat ty130.dflt).1 4) (cond (B.inb p2 p1.length) (k ((((p1.getD p2.toNat ty130.dflt).2).1 == p0,p1,p2,p3,p4))) none) (k (false,p1,p2,p3,p4))) none
abbrev K19 {R:Type} (k:AV→Objs→Option R) (y:(Bool×L130×Int×Int×L150)):Option R:=k (.c (.bool y.1)) [(0,.box 221 [.list 130 ty130 y.2.1,.int .i64 y.2.2.1,.own 1002,.int .i64 y.2.2.2.1]),(1002,.row 150 ty150 y.2.2.2.2)]
theorem eq193 {R:Type} (B:Ops) (p0:LB) (p1:L130) (p2 p3:Int) (p4:L150) (k:AV→Objs→Option R) (n:Nat):afun tau B gl0 X193 gnil ow Tryz.f193 [.c (.ptr 0 0),.c (.str p0)] [(0,.box 221 [.list 130 ty130 p1,.int .i64 p2,.own 1002,.int .i64 p3]),(1002,.row 150 ty150 p4)] k n=T193 B p0 p1 p2 p3 p4 (K19 k):=by kernel_rfl
theorem nt193 {R R':Type} (B:Ops) (p0:LB) (p1:L130) (p2 p3:Int) (p4:L150) (k0:(Bool×L130×Int×Int×L150)→Option R') (k:R'→Option R):T193 B p0 p1 p2 p3 p4 (fun y=>ob (k0 y) k)=ob (T193 B p0 p1 p2 p3 p4 k0) k:=by
 unfold T193
 repeat' first | exact rfl | apply qae | (apply qaj;intro)
def F193 (p0:LB) (p1:L130) (p2 p3:Int) (p4:L150):Option (Bool×L130×Int×Int×L150):=T193 Ops.std p0 p1 p2 p3 p4 some
abbrev C193:Type:=LB→L130→Int→Int→L150→Option (Bool×L130×Int×Int×L150)
def e193 {R:Type} (c:C193):Ent R:=eG [.aC (.cP 0),.aC .cS] [.oB 0 221 [.cL 130 ty130,.cI .i64,.cO 1002,.cI .i64],.oR 1002 150 ty150] fun v k=>ob (c v.1 v.2.1 v.2.2.1 v.2.2.2.1 v.2.2.2.2.1) (K19 k)
abbrev Sp193 (c:C193):Prop:=∀ (p0:LB) (p1:L130) (p2 p3:Int) (p4:L150) (y:Bool×L130×Int×Int×L150),c p0 p1 p2 p3 p4=some y→Spec Tryz.prog gl0 193 [.c (.ptr 0 0),.c (.str p0)] [(0,.box 221 [.list 130 ty130 p1,.int .i64 p2,.own 1002,.int .i64 p3]),(1002,.row 150 ty150 p4)] (.c (.bool y.1)) [(0,.box 221 [.list 130 ty130 y.2.1,.int .i64 y.2.2.1,.own 1002,.int .i64 y.2.2.2.1]),(1002,.row 150 ty150 y.2.2.2.2)]
theorem ek193 {R:Type} {c:C193} (hs:Sp193 c):EOk 193 (e193 (R:=R) c):=qam fun v=>hs v.1 v.2.1 v.2.2.1 v.2.2.2.1 v.2.2.2.2.1
theorem sf193:Sp193 (F193):=fun p0 p1 p2 p3 p4 y hy=>by
 refine qai qah 1000000 (fn:=Tryz.f193) (by kernel_rfl) (by kernel_rfl) (X:=X193) (by kernel_rfl) ?_
 rw [eq193]
 exact (nt193 Ops.std p0 p1 p2 p3 p4 some (K19 k0)).trans (by show ob (F193 p0 p1 p2 p3 p4) _=_;rw [hy];rfl)
noncomputable def M193:C193:=F193
theorem sm193:Sp193 M193:=sf193
def X194:Aux:=⟨[],[]⟩
def T194 {R:Type} (B:Ops) (p0:L130) (p1 p2:Int) (p3:L150) (k:(L130×Int×Int×L150)→Option R):Option R:=cond (B.lt p2 0) (k (p0,p1,p1,p3)) (k (p0,p1,p2,p3))
abbrev K20 {R:Type} (k:AV→Objs→Option R) (y:(L130×Int×Int×L150)):Option R:=k (.tup []) [(0,.box 221 [.list 130 ty130 y.1,.int .i64 y.2.1,.own 1002,.int .i64 y.2.2.1]),(1002,.row 150 ty150 y.2.2.2)]
theorem eq194 {R:Type} (B:Ops) (p0:L130) (p1 p2:Int) (p3:L150) (k:AV→Objs→Option R) (n:Nat):afun tau B gl0 X194 gnil ow Tryz.f194 [.c (.ptr 0 0)] [(0,.box 221 [.list 130 ty130 p0,.int .i64 p1,.own 1002,.int .i64 p2]),(1002,.row 150 ty150 p3)] k n=T194 B p0 p1 p2 p3 (K20 k):=by kernel_rfl
theorem nt194 {R R':Type} (B:Ops) (p0:L130) (p1 p2:Int) (p3:L150) (k0:(L130×Int×Int×L150)→Option R') (k:R'→Option R):T194 B p0 p1 p2 p3 (fun y=>ob (k0 y) k)=ob (T194 B p0 p1 p2 p3 k0) k:=by
 unfold T194
 repeat' first | exact rfl | apply qae | (apply qaj;intro)
def F194 (p0:L130) (p1 p2:Int) (p3:L150):Option (L130×Int×Int×L150):=T194 Ops.std p0 p1 p2 p3 some
abbrev C194:Type:=L130→Int→Int→L150→Option (L130×Int×Int×L150)
def e194 {R:Type} (c:C194):Ent R:=eG [.aC (.cP 0)] [.oB 0 221 [.cL 130 ty130,.cI .i64,.cO 1002,.cI .i64],.oR 1002 150 ty150] fun v k=>ob (c v.1 v.2.1 v.2.2.1 v.2.2.2.1) (K20 k)
abbrev Sp194 (c:C194):Prop:=∀ (p0:L130) (p1 p2:Int) (p3:L150) (y:L130×Int×Int×L150),c p0 p1 p2 p3=some y→Spec Tryz.prog gl0 194 [.c (.ptr 0 0)] [(0,.box 221 [.list 130 ty130 p0,.int .i64 p1,.own 1002,.int .i64 p2]),(1002,.row 150 ty150 p3)] (.tup []) [(0,.box 221 [.list 130 ty130 y.1,.int .i64 y.2.1,.own 1002,.int .i64 y.2.2.1]),(1002,.row 150 ty150 y.2.2.2)]
theorem ek194 {R:Type} {c:C194} (hs:Sp194 c):EOk 194 (e194 (R:=R) c):=qam fun v=>hs v.1 v.2.1 v.2.2.1 v.2.2.2.1
theorem sf194:Sp194 (F194):=fun p0 p1 p2 p3 y hy=>by
 refine qai qah 1000000 (fn:=Tryz.f194) (by kernel_rfl) (by kernel_rfl) (X:=X194) (by kernel_rfl) ?_
 rw [eq194]
 exact (nt194 Ops.std p0 p1 p2 p3 some (K20 k0)).trans (by show ob (F194 p0 p1 p2 p3) _=_;rw [hy];rfl)
noncomputable def M194:C194:=F194
theorem sm194:Sp194 M194:=sf194
def X178:Aux:=⟨[],[]⟩
def T178 {R:Type} (B:Ops) (p0:Int) (k:(Int)→Option R):Option R:=cond (B.eq p0 16) (k 1) (cond (B.eq p0 15) (k 2) (cond (B.eq p0 9) (k 3) (cond (B.eq p0 10) (k 3) (cond (B.eq p0 11) (k 3) (cond (B.eq p0 12) (k 3) (cond (B.eq p0 13) (k 3) (cond (B.eq p0 14) (k 3) (cond (B.eq p0 7) (k 4) (cond (B.eq p0 8) (k 4) (cond (B.eq p0 6) (k 5) (cond (B.eq p0 4) (k 6) (cond (B.eq p0 5) (k 6) (k 7)))))))))))))
theorem eq178 {R:Type} (B:Ops) (p0:Int) (k:AV→Objs→Option R) (n:Nat):afun tau B gl0 X178 gnil ow Tryz.f178 [.c (.int .i64 p0)] [] k n=T178 B p0 (K1 k):=by kernel_rfl
theorem nt178 {R R':Type} (B:Ops) (p0:Int) (k0:(Int)→Option R') (k:R'→Option R):T178 B p0 (fun y=>ob (k0 y) k)=ob (T178 B p0 k0) k:=by
 unfold T178
 repeat' first | exact rfl | apply qae | (apply qaj;intro)
def F178 (p0:Int):Option (Int):=T178 Ops.std p0 some
abbrev C178:Type:=Int→Option (Int)
def e178 {R:Type} (c:C178):Ent R:=eG [.aC (.cI .i64)] [] fun v k=>ob (c v.1) (K1 k)
abbrev Sp178 (c:C178):Prop:=∀ (p0 y:Int),c p0=some y→Spec Tryz.prog gl0 178 [.c (.int .i64 p0)] [] (.c (.int .i64 y)) []
theorem ek178 {R:Type} {c:C178} (hs:Sp178 c):EOk 178 (e178 (R:=R) c):=qam fun v=>hs v.1
theorem sf178:Sp178 (F178):=fun p0 y hy=>by
 refine qai qah 1000000 (fn:=Tryz.f178) (by kernel_rfl) (by kernel_rfl) (X:=X178) (by kernel_rfl) ?_
 rw [eq178]
 exact (nt178 Ops.std p0 some (K1 k0)).trans (by show ob (F178 p0) _=_;rw [hy];rfl)
noncomputable def M178:C178:=F178
theorem sm178:Sp178 M178:=sf178
def X191:Aux:=⟨[(5,([0,3,4]++rg 7 21))],[(7,.lin ([0,1,2,3,4,5,6,7,9,8,10,11]))]⟩
inductive S191 where
 | l0 (v1:Int)
def T191 {R:Type} (B:Ops) (c178:C178) (p0:Int) (p1:LB) (p2 p3 p4:Int) (again:S191→Option R) (k:(Int)→Option R):Option S191→Option R | none=>cond (!B.eq p0 4) (k 0) (again (.l0 6)) | some (.l0 v1)=>cond (B.le v1 16) (cond (B.inb v1 17) (cond (List.getD ((mt UInt8)::(mt UInt8)::(mt UInt8)::(mt UInt8)::(mt UInt8)::(mt UInt8)::([42]:LB)::([43]:LB)::([45]:LB)::([60]:LB)::([60,61]:LB)::([62]:LB)::([62,61]:LB)::([61,61]:LB)::([33,61]:LB)::([38,38]:LB)::([124,124]:LB)::mt LB) v1.toNat (mt UInt8) == p1) (ob (c178 v1) fun y0=>cond (B.eq y0 p4) (k v1) (again (.l0 (IntKind.wrap .i64 (v1+1))))) (again (.l0 (IntKind.wrap .i64 (v1+1))))) none) (k 0)
def E191 (p0:Int) (p1:LB) (p2 p3 p4:Int):S191→List AV×Objs
 | .l0 v1=>(mk 28 [(1,.c (.int .i64 p4)),(2,.c (.ptr 2 0)),(5,.c (.ptr 5 0)),(6,.c (.int .i64 v1))],[(2,.box 130 [.int .i64 p0,.str p1,.int .i64 p2,.int .i64 p3]),(5,.box 208 [.str (mt UInt8),.str (mt UInt8),.str (mt UInt8),.str (mt UInt8),.str (mt UInt8),.str (mt UInt8),.str ([42]:LB),.str ([43]:LB),.str ([45]:LB),.str ([60]:LB),.str ([60,61]:LB),.str ([62]:LB),.str ([62,61]:LB),.str ([61,61]:LB),.str ([33,61]:LB),.str ([38,38]:LB),.str ([124,124]:LB)])])
def I191:S191→Nat
 | .l0 _=>0
noncomputable abbrev A191 {R:Type} (B:Ops) (c178:C178) (p0:Int) (p1:LB) (p2 p3 p4:Int) (k:AV→Objs→Option R) (s:S191) (n:Nat):Option R:=aloop tau B gl0 X191 (ent 178 (e178 c178) gnil) ow [] Tryz.f191 k (I191 s) (E191 p0 p1 p2 p3 p4 s) n
theorem eq191 {R:Type} (B:Ops) (c178:C178) (p0:Int) (p1:LB) (p2 p3 p4:Int) (k:AV→Objs→Option R) (n:Nat):afun tau B gl0 X191 (ent 178 (e178 c178) gnil) ow Tryz.f191 [.agg [.int .i64 p0,.str p1,.int .i64 p2,.int .i64 p3],.c (.int .i64 p4)] [] k n=T191 B c178 p0 p1 p2 p3 p4 (fun s=>A191 B c178 p0 p1 p2 p3 p4 k s n) (K1 k) none:=by kernel_rfl
theorem el191 {R:Type} (B:Ops) (c178:C178) (p0:Int) (p1:LB) (p2 p3 p4:Int) (k:AV→Objs→Option R) (n:Nat):∀ s,A191 B c178 p0 p1 p2 p3 p4 k s (n+1)=T191 B c178 p0 p1 p2 p3 p4 (fun s=>A191 B c178 p0 p1 p2 p3 p4 k s n) (K1 k) (some s):=by
 intro s
 cases s<;>kernel_rfl
theorem nt191 {R R':Type} (B:Ops) (c178:C178) (p0:Int) (p1:LB) (p2 p3 p4:Int) (again:S191→Option R) (again':S191→Option R') (k0:(Int)→Option R') (k:R'→Option R) (h:∀ s,again s=ob (again' s) k):∀ s,T191 B c178 p0 p1 p2 p3 p4 again (fun y=>ob (k0 y) k) s=ob (T191 B c178 p0 p1 p2 p3 p4 again' k0 s) k:=by
 rintro (_ | x)
 all_goals try cases x
 all_goals (unfold T191;repeat' first | exact rfl | exact h _ | apply qae | (apply qaj;intro))
def R191 (c178:C178) (p0:Int) (p1:LB) (p2 p3 p4:Int):Nat→S191→Option (Int)
 | 0,_=>none
 | n+1,s=>T191 Ops.std c178 p0 p1 p2 p3 p4 (R191 c178 p0 p1 p2 p3 p4 n) some (some s)
theorem rr191 {R:Type} (c178:C178) (p0:Int) (p1:LB) (p2 p3 p4:Int) (k:AV→Objs→Option R):∀ (n:Nat) (s:S191),A191 Ops.std c178 p0 p1 p2 p3 p4 k s n=ob (R191 c178 p0 p1 p2 p3 p4 n s) (K1 k)
 | 0,s=>by cases s<;>rfl
 | n+1,s=>by rw [el191];exact nt191 Ops.std c178 p0 p1 p2 p3 p4 _ _ some (K1 k) (rr191 c178 p0 p1 p2 p3 p4 k n) (some s)
def F191 (c178:C178) (p0:Int) (p1:LB) (p2 p3 p4:Int):Option (Int):=T191 Ops.std c178 p0 p1 p2 p3 p4 (R191 c178 p0 p1 p2 p3 p4 1000000) some none
abbrev C191:Type:=Int→LB→Int→Int→Int→Option (Int)
def e191 {R:Type} (c:C191):Ent R:=eG [.aG [.cI .i64,.cS,.cI .i64,.cI .i64],.aC (.cI .i64)] [] fun v k=>ob (c v.1 v.2.1 v.2.2.1 v.2.2.2.1 v.2.2.2.2.1) (K1 k)
abbrev Sp191 (c:C191):Prop:=∀ (p0:Int) (p1:LB) (p2 p3 p4 y:Int),c p0 p1 p2 p3 p4=some y→Spec Tryz.prog gl0 191 [.agg [.int .i64 p0,.str p1,.int .i64 p2,.int .i64 p3],.c (.int .i64 p4)] [] (.c (.int .i64 y)) []
theorem ek191 {R:Type} {c:C191} (hs:Sp191 c):EOk 191 (e191 (R:=R) c):=qam fun v=>hs v.1 v.2.1 v.2.2.1 v.2.2.2.1 v.2.2.2.2.1
theorem sf191 {c178:C178} (h178:Sp178 c178):Sp191 (F191 c178):=fun p0 p1 p2 p3 p4 y hy=>by
 refine qai (qac (ek178 h178) qah) 1000000 (fn:=Tryz.f191) (by kernel_rfl) (by kernel_rfl) (X:=X191) (by kernel_rfl) ?_
 rw [eq191]
 exact (nt191 Ops.std c178 p0 p1 p2 p3 p4 _ _ some (K1 k0) (rr191 c178 p0 p1 p2 p3 p4 k0 1000000) none).trans (by show ob (F191 c178 p0 p1 p2 p3 p4) _=_;rw [hy];rfl)
noncomputable def M191:C191:=F191 M178
theorem sm191:Sp191 M191:=sf191 sm178
abbrev C186:Type:=Int→L130→Int→Int→L150→Option (L130×Int×Int×L150)
def e186 {R:Type} (c:C186):Ent R:=eG [.aC (.cP 0),.aC (.cI .i64)] [.oB 0 221 [.cL 130 ty130,.cI .i64,.cO 1002,.cI .i64],.oR 1002 150 ty150] fun v k=>ob (c v.1 v.2.1 v.2.2.1 v.2.2.2.1 v.2.2.2.2.1) (K20 k)
abbrev Sp186 (c:C186):Prop:=∀ (p0:Int) (p1:L130) (p2 p3:Int) (p4:L150) (y:L130×Int×Int×L150),c p0 p1 p2 p3 p4=some y→Spec Tryz.prog gl0 186 [.c (.ptr 0 0),.c (.int .i64 p0)] [(0,.box 221 [.list 130 ty130 p1,.int .i64 p2,.own 1002,.int .i64 p3]),(1002,.row 150 ty150 p4)] (.tup []) [(0,.box 221 [.list 130 ty130 y.1,.int .i64 y.2.1,.own 1002,.int .i64 y.2.2.1]),(1002,.row 150 ty150 y.2.2.2)]
theorem ek186 {R:Type} {c:C186} (hs:Sp186 c):EOk 186 (e186 (R:=R) c):=qam fun v=>hs v.1 v.2.1 v.2.2.1 v.2.2.2.1 v.2.2.2.2.1
abbrev C190:Type:=L130→Int→Int→L150→Option (L130×Int×Int×L150)
def e190 {R:Type} (c:C190):Ent R:=eG [.aC (.cP 0)] [.oB 0 221 [.cL 130 ty130,.cI .i64,.cO 1002,.cI .i64],.oR 1002 150 ty150] fun v k=>ob (c v.1 v.2.1 v.2.2.1 v.2.2.2.1) (K20 k)
abbrev Sp190 (c:C190):Prop:=∀ (p0:L130) (p1 p2:Int) (p3:L150) (y:L130×Int×Int×L150),c p0 p1 p2 p3=some y→Spec Tryz.prog gl0 190 [.c (.ptr 0 0)] [(0,.box 221 [.list 130 ty130 p0,.int .i64 p1,.own 1002,.int .i64 p2]),(1002,.row 150 ty150 p3)] (.tup []) [(0,.box 221 [.list 130 ty130 y.1,.int .i64 y.2.1,.own 1002,.int .i64 y.2.2.1]),(1002,.row 150 ty150 y.2.2.2)]
theorem ek190 {R:Type} {c:C190} (hs:Sp190 c):EOk 190 (e190 (R:=R) c):=qam fun v=>hs v.1 v.2.1 v.2.2.1 v.2.2.2.1
def X186:Aux:=⟨[(3,(rg 2 54))],[(4,.lin (rg 0 13))]⟩
inductive S186 where
 | l0 (v1:L130) (v2 v3:Int) (v4:L150)
def T186 {R:Type} (B:Ops) (c190:C190) (c186:C186) (c191:C191) (p0:Int) (p1:L130) (p2 p3:Int) (p4:L150) (again:S186→Option R) (k:(L130×Int×Int×L150)→Option R):Option S186→Option R | none=>cond (B.lt 5 p0) (ob (c190 p1 p2 p3 p4) fun y0=>k (y0.1,y0.2.1,y0.2.2.1,y0.2.2.2)) (ob (c186 (IntKind.wrap .i64 (p0+1)) p1 p2 p3 p4) fun y0=>again (.l0 y0.1 y0.2.1 y0.2.2.1 y0.2.2.2)) | some (.l0 v1 v2 v3 v4)=>cond (B.lt v3 0) (cond (B.inb v2 v1.length) (ob (c191 (v1.getD v2.toNat ty130.dflt).1 ((v1.getD v2.toNat ty130.dflt).2).1 (((v1.getD v2.toNat ty130.dflt).2).2).1 (((v1.getD v2.toNat ty130.dflt).2).2).2 p0) fun y0=>cond (B.eq y0 0) (k (v1,v2,v3,v4)) (ob (c186 (IntKind.wrap .i64 (p0+1)) v1 (IntKind.wrap .i64 (v2+1)) v3 v4) fun y1=>cond (B.lim (List.length (y1.2.2.2)+List.length ((y0,0,mt UInt8,mt UInt8)::mt (Ty.den ty150))) 48) (cond (B.eq p0 3) (k ((y1.1,y1.2.1,y1.2.2.1,y1.2.2.2++(y0,0,mt UInt8,mt UInt8)::mt (Ty.den ty150)))) (again (.l0 y1.1 y1.2.1 y1.2.2.1 (y1.2.2.2++(y0,0,mt UInt8,mt UInt8)::mt (Ty.den ty150))))) none)) none) (k (v1,v2,v3,v4))
def E186 (p0:Int) (p1:L130) (p2 p3:Int) (p4:L150):S186→List AV×Objs
 | .l0 v1 v2 v3 v4=>(mk 56 [(0,.c (.ptr 0 0)),(1,.c (.int .i64 p0))],[(0,.box 221 [.list 130 ty130 v1,.int .i64 v2,.own 1002,.int .i64 v3]),(1002,.row 150 ty150 v4)])
def I186:S186→Nat
 | .l0 _ _ _ _=>0
noncomputable abbrev A186 {R:Type} (B:Ops) (c190:C190) (c186:C186) (c191:C191) (p0:Int) (p1:L130) (p2 p3:Int) (p4:L150) (k:AV→Objs→Option R) (s:S186) (n:Nat):Option R:=aloop tau B gl0 X186 (ent 190 (e190 c190) (ent 186 (e186 c186) (ent 191 (e191 c191) gnil))) ow [0] Tryz.f186 k (I186 s) (E186 p0 p1 p2 p3 p4 s) n
theorem eq186 {R:Type} (B:Ops) (c190:C190) (c186:C186) (c191:C191) (p0:Int) (p1:L130) (p2 p3:Int) (p4:L150) (k:AV→Objs→Option R) (n:Nat):afun tau B gl0 X186 (ent 190 (e190 c190) (ent 186 (e186 c186) (ent 191 (e191 c191) gnil))) ow Tryz.f186 [.c (.ptr 0 0),.c (.int .i64 p0)] [(0,.box 221 [.list 130 ty130 p1,.int .i64 p2,.own 1002,.int .i64 p3]),(1002,.row 150 ty150 p4)] k n=T186 B c190 c186 c191 p0 p1 p2 p3 p4 (fun s=>A186 B c190 c186 c191 p0 p1 p2 p3 p4 k s n) (K20 k) none:=by kernel_rfl
theorem el186 {R:Type} (B:Ops) (c190:C190) (c186:C186) (c191:C191) (p0:Int) (p1:L130) (p2 p3:Int) (p4:L150) (k:AV→Objs→Option R) (n:Nat):∀ s,A186 B c190 c186 c191 p0 p1 p2 p3 p4 k s (n+1)=T186 B c190 c186 c191 p0 p1 p2 p3 p4 (fun s=>A186 B c190 c186 c191 p0 p1 p2 p3 p4 k s n) (K20 k) (some s):=by
 intro s
 cases s<;>kernel_rfl
theorem nt186 {R R':Type} (B:Ops) (c190:C190) (c186:C186) (c191:C191) (p0:Int) (p1:L130) (p2 p3:Int) (p4:L150) (again:S186→Option R) (again':S186→Option R') (k0:(L130×Int×Int×L150)→Option R') (k:R'→Option R) (h:∀ s,again s=ob (again' s) k):∀ s,T186 B c190 c186 c191 p0 p1 p2 p3 p4 again (fun y=>ob (k0 y) k) s=ob (T186 B c190 c186 c191 p0 p1 p2 p3 p4 again' k0 s) k:=by
 rintro (_ | x)
 all_goals try cases x
 all_goals (unfold T186;repeat' first | exact rfl | exact h _ | apply qae | (apply qaj;intro))
def R186 (c190:C190) (c186:C186) (c191:C191) (p0:Int) (p1:L130) (p2 p3:Int) (p4:L150):Nat→S186→Option (L130×Int×Int×L150)
 | 0,_=>none
 | n+1,s=>T186 Ops.std c190 c186 c191 p0 p1 p2 p3 p4 (R186 c190 c186 c191 p0 p1 p2 p3 p4 n) some (some s)
theorem rr186 {R:Type} (c190:C190) (c186:C186) (c191:C191) (p0:Int) (p1:L130) (p2 p3:Int) (p4:L150) (k:AV→Objs→Option R):∀ (n:Nat) (s:S186),A186 Ops.std c190 c186 c191 p0 p1 p2 p3 p4 k s n=ob (R186 c190 c186 c191 p0 p1 p2 p3 p4 n s) (K20 k)
 | 0,s=>by cases s<;>rfl
 | n+1,s=>by rw [el186];exact nt186 Ops.std c190 c186 c191 p0 p1 p2 p3 p4 _ _ some (K20 k) (rr186 c190 c186 c191 p0 p1 p2 p3 p4 k n) (some s)
def F186 (c190:C190) (c186:C186) (c191:C191) (p0:Int) (p1:L130) (p2 p3:Int) (p4:L150):Option (L130×Int×Int×L150):=T186 Ops.std c190 c186 c191 p0 p1 p2 p3 p4 (R186 c190 c186 c191 p0 p1 p2 p3 p4 1000000) some none
theorem sf186 {c190:C190} {c186:C186} {c191:C191} (h190:Sp190 c190) (h186:Sp186 c186) (h191:Sp191 c191):Sp186 (F186 c190 c186 c191):=fun p0 p1 p2 p3 p4 y hy=>by
 refine qai (qac (ek190 h190) (qac (ek186 h186) (qac (ek191 h191) qah))) 1000000 (fn:=Tryz.f186) (by kernel_rfl) (by kernel_rfl) (X:=X186) (by kernel_rfl) ?_
 rw [eq186]
 exact (nt186 Ops.std c190 c186 c191 p0 p1 p2 p3 p4 _ _ some (K20 k0) (rr186 c190 c186 c191 p0 p1 p2 p3 p4 k0 1000000) none).trans (by show ob (F186 c190 c186 c191 p0 p1 p2 p3 p4) _=_;rw [hy];rfl)
def X190:Aux:=⟨[(1000006,([1]++rg 3 167))],[(10,.lin (rg 0 12)),(14,.lin (rg 0 13)),(20,.lin (rg 0 12)),(23,.lin (rg 0 13)),(25,.lin (rg 0 11))]⟩
inductive S190 where
 | l1006 (v0:Int) (v1:L130) (v2 v3:Int) (v4:L150)
def T190 {R:Type} (B:Ops) (c193:C193) (c190:C190) (c194:C194) (c186:C186) (p0:L130) (p1 p2:Int) (p3:L150) (again:S190→Option R) (k:(L130×Int×Int×L150)→Option R):Option S190→Option R | none=>cond (B.le 0 p2) (k (p0,p1,p2,p3)) (ob (c193 ([33]:LB) p0 p1 p2 p3) fun y0=>cond y0.1 (again (.l1006 4 y0.2.1 y0.2.2.1 y0.2.2.2.1 y0.2.2.2.2)) (ob (c193 ([45]:LB) y0.2.1 y0.2.2.1 y0.2.2.2.1 y0.2.2.2.2) fun y1=>cond y1.1 (again (.l1006 5 y1.2.1 y1.2.2.1 y1.2.2.2.1 y1.2.2.2.2)) (again (.l1006 0 y1.2.1 y1.2.2.1 y1.2.2.2.1 y1.2.2.2.2)))) | some (.l1006 v0 v1 v2 v3 v4)=>cond (!B.eq v0 0) (ob (c190 v1 (IntKind.wrap .i64 (v2+1)) v3 v4) fun y0=>cond (B.lim (List.length (y0.2.2.2)+List.length ((v0,0,mt UInt8,mt UInt8)::mt (Ty.den ty150))) 48) (k ((y0.1,y0.2.1,y0.2.2.1,y0.2.2.2++(v0,0,mt UInt8,mt UInt8)::mt (Ty.den ty150)))) none) (cond (B.inb v2 v1.length) (cond (B.eq (v1.getD v2.toNat ty130.dflt).1 1) (cond (B.lim (List.length v4+List.length ((1,(((v1.getD v2.toNat ty130.dflt).2).2).1,mt UInt8,mt UInt8)::mt (Ty.den ty150))) 48) (k ((v1,IntKind.wrap .i64 (v2+1),v3,v4++(1,(((v1.getD v2.toNat ty130.dflt).2).2).1,mt UInt8,mt UInt8)::mt (Ty.den ty150)))) none) (cond (B.eq (v1.getD v2.toNat ty130.dflt).1 2) (ob (c193 ([64]:LB) v1 (IntKind.wrap .i64 (v2+1)) v3 v4) fun y0=>cond y0.1 (cond (B.inb (IntKind.wrap .i64 (y0.2.2.1+1)) (List.length y0.2.1)) (cond (!B.eq (List.getD y0.2.1 (Int.toNat (IntKind.wrap .i64 (y0.2.2.1+1))) ty130.dflt).1 2) (ob (c194 y0.2.1 (IntKind.wrap .i64 (y0.2.2.1+1)) y0.2.2.2.1 y0.2.2.2.2) fun y1=>k (y1.1,y1.2.1,y1.2.2.1,y1.2.2.2)) (cond (B.inb (IntKind.wrap .i64 (y0.2.2.1+1)) (List.length y0.2.1)) (cond (B.lim (List.length (y0.2.2.2.2)+List.length ((3,0,((v1.getD v2.toNat ty130.dflt).2).1,((List.getD y0.2.1 (Int.toNat (IntKind.wrap .i64 (y0.2.2.1+1))) ty130.dflt).2).1)::mt (Ty.den ty150))) 48) (k ((y0.2.1,IntKind.wrap .i64 (IntKind.wrap .i64 (y0.2.2.1+1)+1),y0.2.2.2.1,y0.2.2.2.2++(3,0,((v1.getD v2.toNat ty130.dflt).2).1,((List.getD y0.2.1 (Int.toNat (IntKind.wrap .i64 (y0.2.2.1+1))) ty130.dflt).2).1)::mt (Ty.den ty150)))) none) none)) none) (cond (B.lim (List.length (y0.2.2.2.2)+List.length ((2,0,((v1.getD v2.toNat ty130.dflt).2).1,mt UInt8)::mt (Ty.den ty150))) 48) (k ((y0.2.1,y0.2.2.1,y0.2.2.2.1,y0.2.2.2.2++(2,0,((v1.getD v2.toNat ty130.dflt).2).1,mt UInt8)::mt (Ty.den ty150)))) none)) (ob (c193 ([40]:LB) v1 v2 v3 v4) fun y0=>cond y0.1 (ob (c186 1 y0.2.1 (IntKind.wrap .i64 (y0.2.2.1+1)) y0.2.2.2.1 y0.2.2.2.2) fun y1=>cond (B.le 0 y1.2.2.1) (k (y1.1,y1.2.1,y1.2.2.1,y1.2.2.2)) (ob (c193 ([41]:LB) y1.1 y1.2.1 y1.2.2.1 y1.2.2.2) fun y2=>cond (!y2.1) (ob (c194 y2.2.1 y2.2.2.1 y2.2.2.2.1 y2.2.2.2.2) fun y3=>k (y3.1,y3.2.1,y3.2.2.1,y3.2.2.2)) (k ((y2.2.1,IntKind.wrap .i64 (y2.2.2.1+1),y2.2.2.2.1,y2.2.2.2.2))))) (ob (c194 y0.2.1 y0.2.2.1 y0.2.2.2.1 y0.2.2.2.2) fun y1=>k (y1.1,y1.2.1,y1.2.2.1,y1.2.2.2))))) none)
def E190 (p0:L130) (p1 p2:Int) (p3:L150):S190→List AV×Objs
 | .l1006 v0 v1 v2 v3 v4=>(mk 170 [(0,.c (.ptr 0 0)),(2,.c (.int .i64 v0))],[(0,.box 221 [.list 130 ty130 v1,.int .i64 v2,.own 1002,.int .i64 v3]),(1002,.row 150 ty150 v4)])
def I190:S190→Nat
 | .l1006 _ _ _ _ _=>1006
noncomputable abbrev A190 {R:Type} (B:Ops) (c193:C193) (c190:C190) (c194:C194) (c186:C186) (p0:L130) (p1 p2:Int) (p3:L150) (k:AV→Objs→Option R) (s:S190) (n:Nat):Option R:=aloop tau B gl0 X190 (ent 193 (e193 c193) (ent 190 (e190 c190) (ent 194 (e194 c194) (ent 186 (e186 c186) gnil)))) ow [0] Tryz.f190 k (I190 s) (E190 p0 p1 p2 p3 s) n
theorem eq190 {R:Type} (B:Ops) (c193:C193) (c190:C190) (c194:C194) (c186:C186) (p0:L130) (p1 p2:Int) (p3:L150) (k:AV→Objs→Option R) (n:Nat):afun tau B gl0 X190 (ent 193 (e193 c193) (ent 190 (e190 c190) (ent 194 (e194 c194) (ent 186 (e186 c186) gnil)))) ow Tryz.f190 [.c (.ptr 0 0)] [(0,.box 221 [.list 130 ty130 p0,.int .i64 p1,.own 1002,.int .i64 p2]),(1002,.row 150 ty150 p3)] k n=T190 B c193 c190 c194 c186 p0 p1 p2 p3 (fun s=>A190 B c193 c190 c194 c186 p0 p1 p2 p3 k s n) (K20 k) none:=by kernel_rfl
theorem el190 {R:Type} (B:Ops) (c193:C193) (c190:C190) (c194:C194) (c186:C186) (p0:L130) (p1 p2:Int) (p3:L150) (k:AV→Objs→Option R) (n:Nat):∀ s,A190 B c193 c190 c194 c186 p0 p1 p2 p3 k s (n+1)=T190 B c193 c190 c194 c186 p0 p1 p2 p3 (fun s=>A190 B c193 c190 c194 c186 p0 p1 p2 p3 k s n) (K20 k) (some s):=by
 intro s
 cases s<;>kernel_rfl
theorem nt190 {R R':Type} (B:Ops) (c193:C193) (c190:C190) (c194:C194) (c186:C186) (p0:L130) (p1 p2:Int) (p3:L150) (again:S190→Option R) (again':S190→Option R') (k0:(L130×Int×Int×L150)→Option R') (k:R'→Option R) (h:∀ s,again s=ob (again' s) k):∀ s,T190 B c193 c190 c194 c186 p0 p1 p2 p3 again (fun y=>ob (k0 y) k) s=ob (T190 B c193 c190 c194 c186 p0 p1 p2 p3 again' k0 s) k:=by
 rintro (_ | x)
 all_goals try cases x
 all_goals (unfold T190;repeat' first | exact rfl | exact h _ | apply qae | (apply qaj;intro))
def R190 (c193:C193) (c190:C190) (c194:C194) (c186:C186) (p0:L130) (p1 p2:Int) (p3:L150):Nat→S190→Option (L130×Int×Int×L150)
 | 0,_=>none
 | n+1,s=>T190 Ops.std c193 c190 c194 c186 p0 p1 p2 p3 (R190 c193 c190 c194 c186 p0 p1 p2 p3 n) some (some s)
theorem rr190 {R:Type} (c193:C193) (c190:C190) (c194:C194) (c186:C186) (p0:L130) (p1 p2:Int) (p3:L150) (k:AV→Objs→Option R):∀ (n:Nat) (s:S190),A190 Ops.std c193 c190 c194 c186 p0 p1 p2 p3 k s n=ob (R190 c193 c190 c194 c186 p0 p1 p2 p3 n s) (K20 k)
 | 0,s=>by cases s<;>rfl
 | n+1,s=>by rw [el190];exact nt190 Ops.std c193 c190 c194 c186 p0 p1 p2 p3 _ _ some (K20 k) (rr190 c193 c190 c194 c186 p0 p1 p2 p3 k n) (some s)
def F190 (c193:C193) (c190:C190) (c194:C194) (c186:C186) (p0:L130) (p1 p2:Int) (p3:L150):Option (L130×Int×Int×L150):=T190 Ops.std c193 c190 c194 c186 p0 p1 p2 p3 (R190 c193 c190 c194 c186 p0 p1 p2 p3 1000000) some none
theorem sf190 {c193:C193} {c190:C190} {c194:C194} {c186:C186} (h193:Sp193 c193) (h190:Sp190 c190) (h194:Sp194 c194) (h186:Sp186 c186):Sp190 (F190 c193 c190 c194 c186):=fun p0 p1 p2 p3 y hy=>by
 refine qai (qac (ek193 h193) (qac (ek190 h190) (qac (ek194 h194) (qac (ek186 h186) qah)))) 1000000 (fn:=Tryz.f190) (by kernel_rfl) (by kernel_rfl) (X:=X190) (by kernel_rfl) ?_
 rw [eq190]
 exact (nt190 Ops.std c193 c190 c194 c186 p0 p1 p2 p3 _ _ some (K20 k0) (rr190 c193 c190 c194 c186 p0 p1 p2 p3 k0 1000000) none).trans (by show ob (F190 c193 c190 c194 c186 p0 p1 p2 p3) _=_;rw [hy];rfl)
noncomputable def Rec186:Nat→(Int→L130→Int→Int→L150→Option (L130×Int×Int×L150))×(L130→Int→Int→L150→Option (L130×Int×Int×L150))
 | 0=>(fun _ _ _ _ _=>none,fun _ _ _ _=>none)
 | d+1=>(F186 (Rec186 d).2 (Rec186 d).1 M191,F190 M193 (Rec186 d).2 M194 (Rec186 d).1)
theorem rec186:∀ d,Sp186 (Rec186 d).1∧Sp190 (Rec186 d).2
 | 0=>⟨(fun p0 p1 p2 p3 p4 y (h:(none:Option (L130×Int×Int×L150))=some y)=>by cases h),(fun p0 p1 p2 p3 y (h:(none:Option (L130×Int×Int×L150))=some y)=>by cases h)⟩
 | d+1=>⟨sf186 (rec186 d).2 (rec186 d).1 sm191,sf190 sm193 (rec186 d).2 sm194 (rec186 d).1⟩
noncomputable def M186:C186:=(Rec186 1000000).1
theorem sm186:Sp186 M186:=(rec186 1000000).1
def X177:Aux:=⟨[],[(4,.lin [0,1,2,3,4,5,6]),(7,.lin (rg 0 11))]⟩
def T177 {R:Type} (B:Ops) (c186:C186) (p0:L130) (p1:Int) (k:(Int×Int×L150)→Option R):Option R:=ob (c186 1 p0 p1 (-1) (mt (Ty.den ty150))) fun y0=>cond (B.le 0 y0.2.2.1) (k ((y0.2.2.1,2,mt (Ty.den ty150)))) (cond (B.lt 30 (Nat.cast (List.length y0.2.2.2))) (k ((p1,13,mt (Ty.den ty150)))) (k (y0.2.1,0,y0.2.2.2)))
abbrev K21 {R:Type} (k:AV→Objs→Option R) (y:(Int×Int×L150)):Option R:=k (.tup [(false,[.own 501000]),(false,[.int .i64 y.1]),(false,[.int .i64 y.2.1])]) [(501000,.row 150 ty150 y.2.2)]
theorem eq177 {R:Type} (B:Ops) (c186:C186) (p0:L130) (p1:Int) (k:AV→Objs→Option R) (n:Nat):afun tau B gl0 X177 (ent 186 (e186 c186) gnil) ow Tryz.f177 [.c (.list 130 ty130 p0),.c (.int .i64 p1)] [] k n=T177 B c186 p0 p1 (K21 k):=by kernel_rfl
theorem nt177 {R R':Type} (B:Ops) (c186:C186) (p0:L130) (p1:Int) (k0:(Int×Int×L150)→Option R') (k:R'→Option R):T177 B c186 p0 p1 (fun y=>ob (k0 y) k)=ob (T177 B c186 p0 p1 k0) k:=by
 unfold T177
 repeat' first | exact rfl | apply qae | (apply qaj;intro)
def F177 (c186:C186) (p0:L130) (p1:Int):Option (Int×Int×L150):=T177 Ops.std c186 p0 p1 some
abbrev C177:Type:=L130→Int→Option (Int×Int×L150)
def e177 {R:Type} (c:C177):Ent R:=eG [.aC (.cL 130 ty130),.aC (.cI .i64)] [] fun v k=>ob (c v.1 v.2.1) (K21 k)
abbrev Sp177 (c:C177):Prop:=∀ (p0:L130) (p1:Int) (y:Int×Int×L150),c p0 p1=some y→Spec Tryz.prog gl0 177 [.c (.list 130 ty130 p0),.c (.int .i64 p1)] [] (.tup [(false,[.own 501000]),(false,[.int .i64 y.1]),(false,[.int .i64 y.2.1])]) [(501000,.row 150 ty150 y.2.2)]
theorem ek177 {R:Type} {c:C177} (hs:Sp177 c):EOk 177 (e177 (R:=R) c):=qam fun v=>hs v.1 v.2.1
theorem sf177 {c186:C186} (h186:Sp186 c186):Sp177 (F177 c186):=fun p0 p1 y hy=>by
 refine qai (qac (ek186 h186) qah) 1000000 (fn:=Tryz.f177) (by kernel_rfl) (by kernel_rfl) (X:=X177) (by kernel_rfl) ?_
 rw [eq177]
 exact (nt177 Ops.std c186 p0 p1 some (K21 k0)).trans (by show ob (F177 c186 p0 p1) _=_;rw [hy];rfl)
noncomputable def M177:C177:=F177 M186
theorem sm177:Sp177 M177:=sf177 sm186
end Go.Proofs.YtccnmhdgghjgoaaGreatDoor.Av
