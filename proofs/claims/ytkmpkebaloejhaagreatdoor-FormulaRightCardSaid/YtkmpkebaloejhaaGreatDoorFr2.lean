/- Twins of functions,printed by gen.py. Conditions: none. -/
import Derived.Test.YtkmpkebaloejhaaGreatDoorFr1
import Derived.KernelRfl
set_option linter.unusedSimpArgs false
set_option linter.unusedVariables false
set_option maxRecDepth 100000
set_option maxHeartbeats 8000000
namespace Go.Proofs.YtkmpkebaloejhaaGreatDoor.Av
open Go
def X140:Aux:=⟨[],[]⟩
def T140 {R:Type} (B:Ops) (p0:LB) (k:(Int)→Option R):Option R:=cond (p0 == ([33]:LB)) (k 4) (cond (p0 == ([88]:LB)) (k 8) (cond (p0 == ([70]:LB)) (k 11) (cond (p0 == ([71]:LB)) (k 12) (k 0))))
theorem eq140 {R:Type} (B:Ops) (p0:LB) (k:AV→Objs→Option R) (n:Nat):afun tau B gl0 X140 gnil ow Tryz.f140 [.c (.str p0)] [] k n=T140 B p0 (K1 k):=by kernel_rfl
theorem nt140 {R R':Type} (B:Ops) (p0:LB) (k0:(Int)→Option R') (k:R'→Option R):T140 B p0 (fun y=>ob (k0 y) k)=ob (T140 B p0 k0) k:=by
 unfold T140
 repeat' first | exact rfl | apply qac | (apply qai;intro)
def F140 (p0:LB):Option (Int):=T140 Ops.std p0 some
abbrev C140:Type:=LB→Option (Int)
def e140 {R:Type} (c:C140):Ent R:=eG [.aC .cS] [] fun v k=>ob (c v.1) (K1 k)
abbrev Sp140 (c:C140):Prop:=∀ (p0:LB) (y:Int),c p0=some y→Spec Tryz.prog gl0 140 [.c (.str p0)] [] (.c (.int .i64 y)) []
theorem ek140 {R:Type} {c:C140} (hs:Sp140 c):EOk 140 (e140 (R:=R) c):=qak fun v=>hs v.1
theorem sf140:Sp140 (F140):=fun p0 y hy=>by
 refine qae qad 1000000 (fn:=Tryz.f140) (by kernel_rfl) (by kernel_rfl) (X:=X140) (by kernel_rfl) ?_
 rw [eq140]
 exact (nt140 Ops.std p0 some (K1 k0)).trans (by show ob (F140 p0) _=_;rw [hy];rfl)
noncomputable def M140:C140:=F140
theorem sm140:Sp140 M140:=sf140
def X116:Aux:=⟨[],[]⟩
def T116 {R:Type} (B:Ops) (p0:Int) (p1:L52) (p2 p3:Int) (p4:L61) (k:(Bool×L52×Int×Int×L61)→Option R):Option R:=cond (B.lim (List.length p4+List.length ((p0,mt (Ty.den ty63))::mt (Ty.den ty61))) 32) (k ((true,p1,p2,p3,p4++(p0,mt (Ty.den ty63))::mt (Ty.den ty61)))) none
abbrev K19 {R:Type} (k:AV→Objs→Option R) (y:(Bool×L52×Int×Int×L61)):Option R:=k (.c (.bool y.1)) [(0,.box 87 [.list 52 ty52 y.2.1,.int .i64 y.2.2.1,.own 1002,.int .i64 y.2.2.2.1]),(1002,.row 61 ty61 y.2.2.2.2)]
theorem eq116 {R:Type} (B:Ops) (p0:Int) (p1:L52) (p2 p3:Int) (p4:L61) (k:AV→Objs→Option R) (n:Nat):afun tau B gl0 X116 gnil ow Tryz.f116 [.c (.ptr 0 0),.c (.int .i64 p0)] [(0,.box 87 [.list 52 ty52 p1,.int .i64 p2,.own 1002,.int .i64 p3]),(1002,.row 61 ty61 p4)] k n=T116 B p0 p1 p2 p3 p4 (K19 k):=by kernel_rfl
theorem nt116 {R R':Type} (B:Ops) (p0:Int) (p1:L52) (p2 p3:Int) (p4:L61) (k0:(Bool×L52×Int×Int×L61)→Option R') (k:R'→Option R):T116 B p0 p1 p2 p3 p4 (fun y=>ob (k0 y) k)=ob (T116 B p0 p1 p2 p3 p4 k0) k:=by
 unfold T116
 repeat' first | exact rfl | apply qac | (apply qai;intro)
def F116 (p0:Int) (p1:L52) (p2 p3:Int) (p4:L61):Option (Bool×L52×Int×Int×L61):=T116 Ops.std p0 p1 p2 p3 p4 some
abbrev C116:Type:=Int→L52→Int→Int→L61→Option (Bool×L52×Int×Int×L61)
def e116 {R:Type} (c:C116):Ent R:=eG [.aC (.cP 0),.aC (.cI .i64)] [.oB 0 87 [.cL 52 ty52,.cI .i64,.cO 1002,.cI .i64],.oR 1002 61 ty61] fun v k=>ob (c v.1 v.2.1 v.2.2.1 v.2.2.2.1 v.2.2.2.2.1) (K19 k)
abbrev Sp116 (c:C116):Prop:=∀ (p0:Int) (p1:L52) (p2 p3:Int) (p4:L61) (y:Bool×L52×Int×Int×L61),c p0 p1 p2 p3 p4=some y→Spec Tryz.prog gl0 116 [.c (.ptr 0 0),.c (.int .i64 p0)] [(0,.box 87 [.list 52 ty52 p1,.int .i64 p2,.own 1002,.int .i64 p3]),(1002,.row 61 ty61 p4)] (.c (.bool y.1)) [(0,.box 87 [.list 52 ty52 y.2.1,.int .i64 y.2.2.1,.own 1002,.int .i64 y.2.2.2.1]),(1002,.row 61 ty61 y.2.2.2.2)]
theorem ek116 {R:Type} {c:C116} (hs:Sp116 c):EOk 116 (e116 (R:=R) c):=qak fun v=>hs v.1 v.2.1 v.2.2.1 v.2.2.2.1 v.2.2.2.2.1
theorem sf116:Sp116 (F116):=fun p0 p1 p2 p3 p4 y hy=>by
 refine qae qad 1000000 (fn:=Tryz.f116) (by kernel_rfl) (by kernel_rfl) (X:=X116) (by kernel_rfl) ?_
 rw [eq116]
 exact (nt116 Ops.std p0 p1 p2 p3 p4 some (K19 k0)).trans (by show ob (F116 p0 p1 p2 p3 p4) _=_;rw [hy];rfl)
noncomputable def M116:C116:=F116
theorem sm116:Sp116 M116:=sf116
def X153:Aux:=⟨[],[]⟩
def T153 {R:Type} (B:Ops) (p0:L52) (p1:Int) (k:(Bool)→Option R):Option R:=cond (B.le 0 p1) (cond (B.lt p1 (↑p0.length)) (cond (B.inb (IntKind.wrap .i64 (Nat.cast p0.length-1)) p0.length) (k (B.eq (p0.getD (Int.toNat (IntKind.wrap .i64 (Nat.cast p0.length-1))) ty52.dflt).1 5)) none) (k false)) (k false)
theorem eq153 {R:Type} (B:Ops) (p0:L52) (p1:Int) (k:AV→Objs→Option R) (n:Nat):afun tau B gl0 X153 gnil ow Tryz.f153 [.c (.list 52 ty52 p0),.c (.int .i64 p1)] [] k n=T153 B p0 p1 (K2 k):=by kernel_rfl
theorem nt153 {R R':Type} (B:Ops) (p0:L52) (p1:Int) (k0:(Bool)→Option R') (k:R'→Option R):T153 B p0 p1 (fun y=>ob (k0 y) k)=ob (T153 B p0 p1 k0) k:=by
 unfold T153
 repeat' first | exact rfl | apply qac | (apply qai;intro)
def F153 (p0:L52) (p1:Int):Option (Bool):=T153 Ops.std p0 p1 some
abbrev C153:Type:=L52→Int→Option (Bool)
def e153 {R:Type} (c:C153):Ent R:=eG [.aC (.cL 52 ty52),.aC (.cI .i64)] [] fun v k=>ob (c v.1 v.2.1) (K2 k)
abbrev Sp153 (c:C153):Prop:=∀ (p0:L52) (p1:Int) (y:Bool),c p0 p1=some y→Spec Tryz.prog gl0 153 [.c (.list 52 ty52 p0),.c (.int .i64 p1)] [] (.c (.bool y)) []
theorem ek153 {R:Type} {c:C153} (hs:Sp153 c):EOk 153 (e153 (R:=R) c):=qak fun v=>hs v.1 v.2.1
theorem sf153:Sp153 (F153):=fun p0 p1 y hy=>by
 refine qae qad 1000000 (fn:=Tryz.f153) (by kernel_rfl) (by kernel_rfl) (X:=X153) (by kernel_rfl) ?_
 rw [eq153]
 exact (nt153 Ops.std p0 p1 some (K2 k0)).trans (by show ob (F153 p0 p1) _=_;rw [hy];rfl)
noncomputable def M153:C153:=F153
theorem sm153:Sp153 M153:=sf153
def X157:Aux:=⟨[],[(1,.lin (rg 0 12))]⟩
def T157 {R:Type} (B:Ops) (p0:L52) (p1:Int) (p2:L63) (k:(LB×L52×Int×L63)→Option R):Option R:=cond (B.inb p1 p0.length) (cond (B.eq (p0.getD p1.toNat ty52.dflt).1 4) (k ((((p0.getD p1.toNat ty52.dflt).2).1,p0,p1,p2))) (k (mt UInt8,p0,p1,p2))) none
abbrev K20 {R:Type} (k:AV→Objs→Option R) (y:(LB×L52×Int×L63)):Option R:=k (.c (.str y.1)) [(0,.box 200 [.list 52 ty52 y.2.1,.int .i64 y.2.2.1,.own 1002]),(1002,.row 63 ty63 y.2.2.2)]
theorem eq157 {R:Type} (B:Ops) (p0:L52) (p1:Int) (p2:L63) (k:AV→Objs→Option R) (n:Nat):afun tau B gl0 X157 gnil ow Tryz.f157 [.c (.ptr 0 0)] [(0,.box 200 [.list 52 ty52 p0,.int .i64 p1,.own 1002]),(1002,.row 63 ty63 p2)] k n=T157 B p0 p1 p2 (K20 k):=by kernel_rfl
theorem nt157 {R R':Type} (B:Ops) (p0:L52) (p1:Int) (p2:L63) (k0:(LB×L52×Int×L63)→Option R') (k:R'→Option R):T157 B p0 p1 p2 (fun y=>ob (k0 y) k)=ob (T157 B p0 p1 p2 k0) k:=by
 unfold T157
 repeat' first | exact rfl | apply qac | (apply qai;intro)
def F157 (p0:L52) (p1:Int) (p2:L63):Option (LB×L52×Int×L63):=T157 Ops.std p0 p1 p2 some
abbrev C157:Type:=L52→Int→L63→Option (LB×L52×Int×L63)
def e157 {R:Type} (c:C157):Ent R:=eG [.aC (.cP 0)] [.oB 0 200 [.cL 52 ty52,.cI .i64,.cO 1002],.oR 1002 63 ty63] fun v k=>ob (c v.1 v.2.1 v.2.2.1) (K20 k)
abbrev Sp157 (c:C157):Prop:=∀ (p0:L52) (p1:Int) (p2:L63) (y:LB×L52×Int×L63),c p0 p1 p2=some y→Spec Tryz.prog gl0 157 [.c (.ptr 0 0)] [(0,.box 200 [.list 52 ty52 p0,.int .i64 p1,.own 1002]),(1002,.row 63 ty63 p2)] (.c (.str y.1)) [(0,.box 200 [.list 52 ty52 y.2.1,.int .i64 y.2.2.1,.own 1002]),(1002,.row 63 ty63 y.2.2.2)]
theorem ek157 {R:Type} {c:C157} (hs:Sp157 c):EOk 157 (e157 (R:=R) c):=qak fun v=>hs v.1 v.2.1 v.2.2.1
theorem sf157:Sp157 (F157):=fun p0 p1 p2 y hy=>by
 refine qae qad 1000000 (fn:=Tryz.f157) (by kernel_rfl) (by kernel_rfl) (X:=X157) (by kernel_rfl) ?_
 rw [eq157]
 exact (nt157 Ops.std p0 p1 p2 some (K20 k0)).trans (by show ob (F157 p0 p1 p2) _=_;rw [hy];rfl)
noncomputable def M157:C157:=F157
theorem sm157:Sp157 M157:=sf157
def X159:Aux:=⟨[],[(1,.lin (rg 0 12)),(7,.lin (rg 0 12)),(9,.lin (rg 0 23))]⟩
def T159 {R:Type} (B:Ops) (c157:C157) (p0:L52) (p1:Int) (p2:L63) (k:(Bool×L52×Int×L63)→Option R):Option R:=cond (B.inb p1 p0.length) (ob (c157 p0 (IntKind.wrap .i64 (p1+1)) p2) fun y0=>cond (!y0.1 == ([64]:LB)) (cond (B.lim (List.length (y0.2.2.2)+List.length ((2,0,((p0.getD p1.toNat ty52.dflt).2).1,mt UInt8)::mt (Ty.den ty63))) 48) (k ((true,y0.2.1,y0.2.2.1,y0.2.2.2++(2,0,((p0.getD p1.toNat ty52.dflt).2).1,mt UInt8)::mt (Ty.den ty63)))) none) (cond (B.inb (IntKind.wrap .i64 (y0.2.2.1+1)) (List.length y0.2.1)) (cond (!B.eq (List.getD y0.2.1 (Int.toNat (IntKind.wrap .i64 (y0.2.2.1+1))) ty52.dflt).1 2) (k ((false,y0.2.1,IntKind.wrap .i64 (y0.2.2.1+1),y0.2.2.2))) (cond (B.inb (IntKind.wrap .i64 (y0.2.2.1+1)) (List.length y0.2.1)) (cond (B.lim (List.length (y0.2.2.2)+List.length ((3,0,((p0.getD p1.toNat ty52.dflt).2).1,((List.getD y0.2.1 (Int.toNat (IntKind.wrap .i64 (y0.2.2.1+1))) ty52.dflt).2).1)::mt (Ty.den ty63))) 48) (k ((true,y0.2.1,IntKind.wrap .i64 (IntKind.wrap .i64 (y0.2.2.1+1)+1),y0.2.2.2++(3,0,((p0.getD p1.toNat ty52.dflt).2).1,((List.getD y0.2.1 (Int.toNat (IntKind.wrap .i64 (y0.2.2.1+1))) ty52.dflt).2).1)::mt (Ty.den ty63)))) none) none)) none)) none
abbrev K21 {R:Type} (k:AV→Objs→Option R) (y:(Bool×L52×Int×L63)):Option R:=k (.c (.bool y.1)) [(0,.box 200 [.list 52 ty52 y.2.1,.int .i64 y.2.2.1,.own 1002]),(1002,.row 63 ty63 y.2.2.2)]
theorem eq159 {R:Type} (B:Ops) (c157:C157) (p0:L52) (p1:Int) (p2:L63) (k:AV→Objs→Option R) (n:Nat):afun tau B gl0 X159 (ent 157 (e157 c157) gnil) ow Tryz.f159 [.c (.ptr 0 0)] [(0,.box 200 [.list 52 ty52 p0,.int .i64 p1,.own 1002]),(1002,.row 63 ty63 p2)] k n=T159 B c157 p0 p1 p2 (K21 k):=by kernel_rfl
theorem nt159 {R R':Type} (B:Ops) (c157:C157) (p0:L52) (p1:Int) (p2:L63) (k0:(Bool×L52×Int×L63)→Option R') (k:R'→Option R):T159 B c157 p0 p1 p2 (fun y=>ob (k0 y) k)=ob (T159 B c157 p0 p1 p2 k0) k:=by
 unfold T159
 repeat' first | exact rfl | apply qac | (apply qai;intro)
def F159 (c157:C157) (p0:L52) (p1:Int) (p2:L63):Option (Bool×L52×Int×L63):=T159 Ops.std c157 p0 p1 p2 some
abbrev C159:Type:=L52→Int→L63→Option (Bool×L52×Int×L63)
def e159 {R:Type} (c:C159):Ent R:=eG [.aC (.cP 0)] [.oB 0 200 [.cL 52 ty52,.cI .i64,.cO 1002],.oR 1002 63 ty63] fun v k=>ob (c v.1 v.2.1 v.2.2.1) (K21 k)
abbrev Sp159 (c:C159):Prop:=∀ (p0:L52) (p1:Int) (p2:L63) (y:Bool×L52×Int×L63),c p0 p1 p2=some y→Spec Tryz.prog gl0 159 [.c (.ptr 0 0)] [(0,.box 200 [.list 52 ty52 p0,.int .i64 p1,.own 1002]),(1002,.row 63 ty63 p2)] (.c (.bool y.1)) [(0,.box 200 [.list 52 ty52 y.2.1,.int .i64 y.2.2.1,.own 1002]),(1002,.row 63 ty63 y.2.2.2)]
theorem ek159 {R:Type} {c:C159} (hs:Sp159 c):EOk 159 (e159 (R:=R) c):=qak fun v=>hs v.1 v.2.1 v.2.2.1
theorem sf159 {c157:C157} (h157:Sp157 c157):Sp159 (F159 c157):=fun p0 p1 p2 y hy=>by
 refine qae (qab (ek157 h157) qad) 1000000 (fn:=Tryz.f159) (by kernel_rfl) (by kernel_rfl) (X:=X159) (by kernel_rfl) ?_
 rw [eq159]
 exact (nt159 Ops.std c157 p0 p1 p2 some (K21 k0)).trans (by show ob (F159 c157 p0 p1 p2) _=_;rw [hy];rfl)
noncomputable def M159:C159:=F159 M157
theorem sm159:Sp159 M159:=sf159 sm157
def X115:Aux:=⟨[],[]⟩
def T115 {R:Type} (B:Ops) (p0:L3) (k:(L3)→Option R):Option R:=k p0
abbrev K22 {R:Type} (k:AV→Objs→Option R) (y:(L3)):Option R:=k (.fn 127 [.ptr 501500 0]) [(501500,.box 22 [.list 3 ty3 y])]
theorem eq115 {R:Type} (B:Ops) (p0:L3) (k:AV→Objs→Option R) (n:Nat):afun tau B gl0 X115 gnil ow Tryz.f115 [.c (.list 3 ty3 p0)] [] k n=T115 B p0 (K22 k):=by kernel_rfl
theorem nt115 {R R':Type} (B:Ops) (p0:L3) (k0:(L3)→Option R') (k:R'→Option R):T115 B p0 (fun y=>ob (k0 y) k)=ob (T115 B p0 k0) k:=by
 unfold T115
 repeat' first | exact rfl | apply qac | (apply qai;intro)
def F115 (p0:L3):Option (L3):=T115 Ops.std p0 some
abbrev C115:Type:=L3→Option (L3)
def e115 {R:Type} (c:C115):Ent R:=eG [.aC (.cL 3 ty3)] [] fun v k=>ob (c v.1) (K22 k)
abbrev Sp115 (c:C115):Prop:=∀ (p0 y:L3),c p0=some y→Spec Tryz.prog gl0 115 [.c (.list 3 ty3 p0)] [] (.fn 127 [.ptr 501500 0]) [(501500,.box 22 [.list 3 ty3 y])]
theorem ek115 {R:Type} {c:C115} (hs:Sp115 c):EOk 115 (e115 (R:=R) c):=qak fun v=>hs v.1
theorem sf115:Sp115 (F115):=fun p0 y hy=>by
 refine qae qad 1000000 (fn:=Tryz.f115) (by kernel_rfl) (by kernel_rfl) (X:=X115) (by kernel_rfl) ?_
 rw [eq115]
 exact (nt115 Ops.std p0 some (K22 k0)).trans (by show ob (F115 p0) _=_;rw [hy];rfl)
noncomputable def M115:C115:=F115
theorem sm115:Sp115 M115:=sf115
def X156:Aux:=⟨[(2,([1,2,3,4,5]++rg 8 12))],[(5,.lin [0,1,3,2,4,5,6])]⟩
inductive S156 where
 | l0 (v1 v2 v3 v4 v5 v6 v7 v8 v9 v10 v11:LB) (v12:Int)
def T156 {R:Type} (B:Ops) (c124:C124) (c125:C125) (p0:LB) (again:S156→Option R) (k:(Int×Int)→Option R):Option S156→Option R | none=>ob (c124) fun y0=>again (.l0 y0.1 y0.2.1 y0.2.2.1 y0.2.2.2.1 y0.2.2.2.2.1 y0.2.2.2.2.2.1 y0.2.2.2.2.2.2.1 y0.2.2.2.2.2.2.2.1 y0.2.2.2.2.2.2.2.2.1 y0.2.2.2.2.2.2.2.2.2.1 y0.2.2.2.2.2.2.2.2.2.2 0) | some (.l0 v1 v2 v3 v4 v5 v6 v7 v8 v9 v10 v11 v12)=>cond (B.lt v12 11) (cond (B.inb v12 11) (cond (List.getD (v1::v2::v3::v4::v5::v6::v7::v8::v9::v10::v11::mt LB) v12.toNat (mt UInt8) == p0) (ob (c125) fun y0=>cond (B.inb v12 11) (k ((IntKind.wrap .i64 (6+v12),List.getD (y0.1::y0.2.1::y0.2.2.1::y0.2.2.2.1::y0.2.2.2.2.1::y0.2.2.2.2.2.1::y0.2.2.2.2.2.2.1::y0.2.2.2.2.2.2.2.1::y0.2.2.2.2.2.2.2.2.1::y0.2.2.2.2.2.2.2.2.2.1::y0.2.2.2.2.2.2.2.2.2.2::mt Int) v12.toNat 0))) none) (again (.l0 v1 v2 v3 v4 v5 v6 v7 v8 v9 v10 v11 (IntKind.wrap .i64 (v12+1))))) none) (k (0,-1))
def E156 (p0:LB):S156→List AV×Objs
 | .l0 v1 v2 v3 v4 v5 v6 v7 v8 v9 v10 v11 v12=>(mk 20 [(0,.c (.str p0)),(6,.agg [.str v1,.str v2,.str v3,.str v4,.str v5,.str v6,.str v7,.str v8,.str v9,.str v10,.str v11]),(7,.c (.int .i64 v12))],[])
def I156:S156→Nat
 | .l0 _ _ _ _ _ _ _ _ _ _ _ _=>0
noncomputable abbrev A156 {R:Type} (B:Ops) (c124:C124) (c125:C125) (p0:LB) (k:AV→Objs→Option R) (s:S156) (n:Nat):Option R:=aloop tau B gl0 X156 (ent 124 (e124 c124) (ent 125 (e125 c125) gnil)) ow [] Tryz.f156 k (I156 s) (E156 p0 s) n
theorem eq156 {R:Type} (B:Ops) (c124:C124) (c125:C125) (p0:LB) (k:AV→Objs→Option R) (n:Nat):afun tau B gl0 X156 (ent 124 (e124 c124) (ent 125 (e125 c125) gnil)) ow Tryz.f156 [.c (.str p0)] [] k n=T156 B c124 c125 p0 (fun s=>A156 B c124 c125 p0 k s n) (K11 k) none:=by kernel_rfl
theorem el156 {R:Type} (B:Ops) (c124:C124) (c125:C125) (p0:LB) (k:AV→Objs→Option R) (n:Nat):∀ s,A156 B c124 c125 p0 k s (n+1)=T156 B c124 c125 p0 (fun s=>A156 B c124 c125 p0 k s n) (K11 k) (some s):=by
 intro s
 cases s<;>kernel_rfl
theorem nt156 {R R':Type} (B:Ops) (c124:C124) (c125:C125) (p0:LB) (again:S156→Option R) (again':S156→Option R') (k0:(Int×Int)→Option R') (k:R'→Option R) (h:∀ s,again s=ob (again' s) k):∀ s,T156 B c124 c125 p0 again (fun y=>ob (k0 y) k) s=ob (T156 B c124 c125 p0 again' k0 s) k:=by
 rintro (_ | x)
 all_goals try cases x
 all_goals (unfold T156;repeat' first | exact rfl | exact h _ | apply qac | (apply qai;intro))
def R156 (c124:C124) (c125:C125) (p0:LB):Nat→S156→Option (Int×Int)
 | 0,_=>none
 | n+1,s=>T156 Ops.std c124 c125 p0 (R156 c124 c125 p0 n) some (some s)
theorem rr156 {R:Type} (c124:C124) (c125:C125) (p0:LB) (k:AV→Objs→Option R):∀ (n:Nat) (s:S156),A156 Ops.std c124 c125 p0 k s n=ob (R156 c124 c125 p0 n s) (K11 k)
 | 0,s=>by cases s<;>rfl
 | n+1,s=>by rw [el156];exact nt156 Ops.std c124 c125 p0 _ _ some (K11 k) (rr156 c124 c125 p0 k n) (some s)
def F156 (c124:C124) (c125:C125) (p0:LB):Option (Int×Int):=T156 Ops.std c124 c125 p0 (R156 c124 c125 p0 1000000) some none
abbrev C156:Type:=LB→Option (Int×Int)
def e156 {R:Type} (c:C156):Ent R:=eG [.aC .cS] [] fun v k=>ob (c v.1) (K11 k)
abbrev Sp156 (c:C156):Prop:=∀ (p0:LB) (y:Int×Int),c p0=some y→Spec Tryz.prog gl0 156 [.c (.str p0)] [] (.tup [(false,[.int .i64 y.1]),(false,[.int .i64 y.2])]) []
theorem ek156 {R:Type} {c:C156} (hs:Sp156 c):EOk 156 (e156 (R:=R) c):=qak fun v=>hs v.1
theorem sf156 {c124:C124} {c125:C125} (h124:Sp124 c124) (h125:Sp125 c125):Sp156 (F156 c124 c125):=fun p0 y hy=>by
 refine qae (qab (ek124 h124) (qab (ek125 h125) qad)) 1000000 (fn:=Tryz.f156) (by kernel_rfl) (by kernel_rfl) (X:=X156) (by kernel_rfl) ?_
 rw [eq156]
 exact (nt156 Ops.std c124 c125 p0 _ _ some (K11 k0) (rr156 c124 c125 p0 k0 1000000) none).trans (by show ob (F156 c124 c125 p0) _=_;rw [hy];rfl)
noncomputable def M156:C156:=F156 M124 M125
theorem sm156:Sp156 M156:=sf156 sm124 sm125
abbrev C158:Type:=L52→Int→L63→Option (Bool×L52×Int×L63)
def e158 {R:Type} (c:C158):Ent R:=eG [.aC (.cP 0)] [.oB 0 200 [.cL 52 ty52,.cI .i64,.cO 1002],.oR 1002 63 ty63] fun v k=>ob (c v.1 v.2.1 v.2.2.1) (K21 k)
abbrev Sp158 (c:C158):Prop:=∀ (p0:L52) (p1:Int) (p2:L63) (y:Bool×L52×Int×L63),c p0 p1 p2=some y→Spec Tryz.prog gl0 158 [.c (.ptr 0 0)] [(0,.box 200 [.list 52 ty52 p0,.int .i64 p1,.own 1002]),(1002,.row 63 ty63 p2)] (.c (.bool y.1)) [(0,.box 200 [.list 52 ty52 y.2.1,.int .i64 y.2.2.1,.own 1002]),(1002,.row 63 ty63 y.2.2.2)]
theorem ek158 {R:Type} {c:C158} (hs:Sp158 c):EOk 158 (e158 (R:=R) c):=qak fun v=>hs v.1 v.2.1 v.2.2.1
abbrev C155:Type:=L52→Int→L63→Option (Bool×L52×Int×L63)
def e155 {R:Type} (c:C155):Ent R:=eG [.aC (.cP 0)] [.oB 0 200 [.cL 52 ty52,.cI .i64,.cO 1002],.oR 1002 63 ty63] fun v k=>ob (c v.1 v.2.1 v.2.2.1) (K21 k)
abbrev Sp155 (c:C155):Prop:=∀ (p0:L52) (p1:Int) (p2:L63) (y:Bool×L52×Int×L63),c p0 p1 p2=some y→Spec Tryz.prog gl0 155 [.c (.ptr 0 0)] [(0,.box 200 [.list 52 ty52 p0,.int .i64 p1,.own 1002]),(1002,.row 63 ty63 p2)] (.c (.bool y.1)) [(0,.box 200 [.list 52 ty52 y.2.1,.int .i64 y.2.2.1,.own 1002]),(1002,.row 63 ty63 y.2.2.2)]
theorem ek155 {R:Type} {c:C155} (hs:Sp155 c):EOk 155 (e155 (R:=R) c):=qak fun v=>hs v.1 v.2.1 v.2.2.1
abbrev C154:Type:=Int→L52→Int→L63→Option (Bool×L52×Int×L63)
def e154 {R:Type} (c:C154):Ent R:=eG [.aC (.cP 0),.aC (.cI .i64)] [.oB 0 200 [.cL 52 ty52,.cI .i64,.cO 1002],.oR 1002 63 ty63] fun v k=>ob (c v.1 v.2.1 v.2.2.1 v.2.2.2.1) (K21 k)
abbrev Sp154 (c:C154):Prop:=∀ (p0:Int) (p1:L52) (p2:Int) (p3:L63) (y:Bool×L52×Int×L63),c p0 p1 p2 p3=some y→Spec Tryz.prog gl0 154 [.c (.ptr 0 0),.c (.int .i64 p0)] [(0,.box 200 [.list 52 ty52 p1,.int .i64 p2,.own 1002]),(1002,.row 63 ty63 p3)] (.c (.bool y.1)) [(0,.box 200 [.list 52 ty52 y.2.1,.int .i64 y.2.2.1,.own 1002]),(1002,.row 63 ty63 y.2.2.2)]
theorem ek154 {R:Type} {c:C154} (hs:Sp154 c):EOk 154 (e154 (R:=R) c):=qak fun v=>hs v.1 v.2.1 v.2.2.1 v.2.2.2.1
def X154:Aux:=⟨[(5,(rg 2 48))],[]⟩
inductive S154 where
 | l0 (v1:L52) (v2:Int) (v3:L63)
def T154 {R:Type} (B:Ops) (c155:C155) (c154:C154) (c157:C157) (c156:C156) (p0:Int) (p1:L52) (p2:Int) (p3:L63) (again:S154→Option R) (k:(Bool×L52×Int×L63)→Option R):Option S154→Option R | none=>cond (B.eq p0 5) (ob (c155 p1 p2 p3) fun y0=>k (y0.1,y0.2.1,y0.2.2.1,y0.2.2.2)) (ob (c154 (IntKind.wrap .i64 (p0+1)) p1 p2 p3) fun y0=>cond (!y0.1) (k (false,y0.2.1,y0.2.2.1,y0.2.2.2)) (again (.l0 y0.2.1 y0.2.2.1 y0.2.2.2))) | some (.l0 v1 v2 v3)=>ob (c157 v1 v2 v3) fun y0=>ob (c156 y0.1) fun y1=>cond (!B.eq y1.2 p0) (k (true,y0.2.1,y0.2.2.1,y0.2.2.2)) (ob (c154 (IntKind.wrap .i64 (p0+1)) y0.2.1 (IntKind.wrap .i64 (y0.2.2.1+1)) y0.2.2.2) fun y2=>cond (!y2.1) (k (false,y2.2.1,y2.2.2.1,y2.2.2.2)) (cond (B.lim (List.length (y2.2.2.2)+List.length ((y1.1,0,mt UInt8,mt UInt8)::mt (Ty.den ty63))) 48) (cond (B.eq p0 2) (k ((true,y2.2.1,y2.2.2.1,y2.2.2.2++(y1.1,0,mt UInt8,mt UInt8)::mt (Ty.den ty63)))) (again (.l0 y2.2.1 y2.2.2.1 (y2.2.2.2++(y1.1,0,mt UInt8,mt UInt8)::mt (Ty.den ty63))))) none))
def E154 (p0:Int) (p1:L52) (p2:Int) (p3:L63):S154→List AV×Objs
 | .l0 v1 v2 v3=>(mk 50 [(0,.c (.ptr 0 0)),(1,.c (.int .i64 p0))],[(0,.box 200 [.list 52 ty52 v1,.int .i64 v2,.own 1002]),(1002,.row 63 ty63 v3)])
def I154:S154→Nat
 | .l0 _ _ _=>0
noncomputable abbrev A154 {R:Type} (B:Ops) (c155:C155) (c154:C154) (c157:C157) (c156:C156) (p0:Int) (p1:L52) (p2:Int) (p3:L63) (k:AV→Objs→Option R) (s:S154) (n:Nat):Option R:=aloop tau B gl0 X154 (ent 155 (e155 c155) (ent 154 (e154 c154) (ent 157 (e157 c157) (ent 156 (e156 c156) gnil)))) ow [0] Tryz.f154 k (I154 s) (E154 p0 p1 p2 p3 s) n
theorem eq154 {R:Type} (B:Ops) (c155:C155) (c154:C154) (c157:C157) (c156:C156) (p0:Int) (p1:L52) (p2:Int) (p3:L63) (k:AV→Objs→Option R) (n:Nat):afun tau B gl0 X154 (ent 155 (e155 c155) (ent 154 (e154 c154) (ent 157 (e157 c157) (ent 156 (e156 c156) gnil)))) ow Tryz.f154 [.c (.ptr 0 0),.c (.int .i64 p0)] [(0,.box 200 [.list 52 ty52 p1,.int .i64 p2,.own 1002]),(1002,.row 63 ty63 p3)] k n=T154 B c155 c154 c157 c156 p0 p1 p2 p3 (fun s=>A154 B c155 c154 c157 c156 p0 p1 p2 p3 k s n) (K21 k) none:=by kernel_rfl
theorem el154 {R:Type} (B:Ops) (c155:C155) (c154:C154) (c157:C157) (c156:C156) (p0:Int) (p1:L52) (p2:Int) (p3:L63) (k:AV→Objs→Option R) (n:Nat):∀ s,A154 B c155 c154 c157 c156 p0 p1 p2 p3 k s (n+1)=T154 B c155 c154 c157 c156 p0 p1 p2 p3 (fun s=>A154 B c155 c154 c157 c156 p0 p1 p2 p3 k s n) (K21 k) (some s):=by
 intro s
 cases s<;>kernel_rfl
theorem nt154 {R R':Type} (B:Ops) (c155:C155) (c154:C154) (c157:C157) (c156:C156) (p0:Int) (p1:L52) (p2:Int) (p3:L63) (again:S154→Option R) (again':S154→Option R') (k0:(Bool×L52×Int×L63)→Option R') (k:R'→Option R) (h:∀ s,again s=ob (again' s) k):∀ s,T154 B c155 c154 c157 c156 p0 p1 p2 p3 again (fun y=>ob (k0 y) k) s=ob (T154 B c155 c154 c157 c156 p0 p1 p2 p3 again' k0 s) k:=by
 rintro (_ | x)
 all_goals try cases x
 all_goals (unfold T154;repeat' first | exact rfl | exact h _ | apply qac | (apply qai;intro))
def R154 (c155:C155) (c154:C154) (c157:C157) (c156:C156) (p0:Int) (p1:L52) (p2:Int) (p3:L63):Nat→S154→Option (Bool×L52×Int×L63)
 | 0,_=>none
 | n+1,s=>T154 Ops.std c155 c154 c157 c156 p0 p1 p2 p3 (R154 c155 c154 c157 c156 p0 p1 p2 p3 n) some (some s)
theorem rr154 {R:Type} (c155:C155) (c154:C154) (c157:C157) (c156:C156) (p0:Int) (p1:L52) (p2:Int) (p3:L63) (k:AV→Objs→Option R):∀ (n:Nat) (s:S154),A154 Ops.std c155 c154 c157 c156 p0 p1 p2 p3 k s n=ob (R154 c155 c154 c157 c156 p0 p1 p2 p3 n s) (K21 k)
 | 0,s=>by cases s<;>rfl
 | n+1,s=>by rw [el154];exact nt154 Ops.std c155 c154 c157 c156 p0 p1 p2 p3 _ _ some (K21 k) (rr154 c155 c154 c157 c156 p0 p1 p2 p3 k n) (some s)
def F154 (c155:C155) (c154:C154) (c157:C157) (c156:C156) (p0:Int) (p1:L52) (p2:Int) (p3:L63):Option (Bool×L52×Int×L63):=T154 Ops.std c155 c154 c157 c156 p0 p1 p2 p3 (R154 c155 c154 c157 c156 p0 p1 p2 p3 1000000) some none
theorem sf154 {c155:C155} {c154:C154} {c157:C157} {c156:C156} (h155:Sp155 c155) (h154:Sp154 c154) (h157:Sp157 c157) (h156:Sp156 c156):Sp154 (F154 c155 c154 c157 c156):=fun p0 p1 p2 p3 y hy=>by
 refine qae (qab (ek155 h155) (qab (ek154 h154) (qab (ek157 h157) (qab (ek156 h156) qad)))) 1000000 (fn:=Tryz.f154) (by kernel_rfl) (by kernel_rfl) (X:=X154) (by kernel_rfl) ?_
 rw [eq154]
 exact (nt154 Ops.std c155 c154 c157 c156 p0 p1 p2 p3 _ _ some (K21 k0) (rr154 c155 c154 c157 c156 p0 p1 p2 p3 k0 1000000) none).trans (by show ob (F154 c155 c154 c157 c156 p0 p1 p2 p3) _=_;rw [hy];rfl)
def X155:Aux:=⟨[(3,([0,2]++rg 4 39)),(3000012,([0]++rg 2 27++rg 30 13))],[(12,.lin (rg 0 12))]⟩
inductive S155 where
 | l0 (v0:L52) (v1:Int) (v2:L3) (v3:L63)
 | l1012 (v0:Int) (v1:L52) (v2:Int) (v3:L63) (v4:L3)
def T155 {R:Type} (B:Ops) (c157:C157) (c158:C158) (c115:C115) (p0:L52) (p1:Int) (p2:L63) (again:S155→Option R) (k:(Bool×L52×Int×L63)→Option R):Option S155→Option R | none=>again (.l0 p0 p1 (mt (Ty.den (Ty.int .i64))) p2) | some (.l0 v0 v1 v2 v3)=>ob (c157 v0 v1 v3) fun y0=>cond (y0.1 == ([33]:LB)) (cond (B.lim (List.length v2+List.length (4::mt (Ty.den (Ty.int .i64)))) 8) (again (.l0 y0.2.1 (IntKind.wrap .i64 (y0.2.2.1+1)) (v2++4::mt (Ty.den (Ty.int .i64))) y0.2.2.2)) none) (cond (y0.1 == ([45]:LB)) (cond (B.lim (List.length v2+List.length (5::mt (Ty.den (Ty.int .i64)))) 8) (again (.l0 y0.2.1 (IntKind.wrap .i64 (y0.2.2.1+1)) (v2++5::mt (Ty.den (Ty.int .i64))) y0.2.2.2)) none) (ob (c158 y0.2.1 y0.2.2.1 y0.2.2.2) fun y1=>cond (!y1.1) (k (false,y1.2.1,y1.2.2.1,y1.2.2.2)) (ob (c115 v2) fun y2=>again (.l1012 (Nat.cast y2.length-1) y1.2.1 y1.2.2.1 y1.2.2.2 y2)))) | some (.l1012 v0 v1 v2 v3 v4)=>cond (B.lt v0 0) (k (true,v1,v2,v3)) (cond (B.lt v0 (↑v4.length)) (cond (B.lim (List.length v3+List.length ((v4.getD v0.toNat 0,0,mt UInt8,mt UInt8)::mt (Ty.den ty63))) 48) (again (.l1012 (v0-1) v1 v2 (v3++(v4.getD v0.toNat 0,0,mt UInt8,mt UInt8)::mt (Ty.den ty63)) v4)) none) none)
def E155 (p0:L52) (p1:Int) (p2:L63):S155→List AV×Objs
 | .l0 v0 v1 v2 v3=>(mk 43 [(1,.c (.ptr 1 0)),(3,.c (.own 3))],[(0,.box 200 [.list 52 ty52 v0,.int .i64 v1,.own 1002]),(1,.box 198 [.ptr 0 0]),(3,.row 3 ty3 v2),(1002,.row 63 ty63 v3)])
 | .l1012 v0 v1 v2 v3 v4=>(mk 43 [(1,.c (.ptr 1 0)),(29,.fn 127 [.ptr 30500 0]),(30,.c (.int .i64 v0))],[(0,.box 200 [.list 52 ty52 v1,.int .i64 v2,.own 1002]),(1,.box 198 [.ptr 0 0]),(1002,.row 63 ty63 v3),(30500,.box 22 [.list 3 ty3 v4])])
def I155:S155→Nat
 | .l0 _ _ _ _=>0
 | .l1012 _ _ _ _ _=>1012
noncomputable abbrev A155 {R:Type} (B:Ops) (c157:C157) (c158:C158) (c115:C115) (p0:L52) (p1:Int) (p2:L63) (k:AV→Objs→Option R) (s:S155) (n:Nat):Option R:=aloop tau B gl0 X155 (ent 157 (e157 c157) (ent 158 (e158 c158) (ent 115 (e115 c115) gnil))) ow [0] Tryz.f155 k (I155 s) (E155 p0 p1 p2 s) n
theorem eq155 {R:Type} (B:Ops) (c157:C157) (c158:C158) (c115:C115) (p0:L52) (p1:Int) (p2:L63) (k:AV→Objs→Option R) (n:Nat):afun tau B gl0 X155 (ent 157 (e157 c157) (ent 158 (e158 c158) (ent 115 (e115 c115) gnil))) ow Tryz.f155 [.c (.ptr 0 0)] [(0,.box 200 [.list 52 ty52 p0,.int .i64 p1,.own 1002]),(1002,.row 63 ty63 p2)] k n=T155 B c157 c158 c115 p0 p1 p2 (fun s=>A155 B c157 c158 c115 p0 p1 p2 k s n) (K21 k) none:=by kernel_rfl
theorem el155 {R:Type} (B:Ops) (c157:C157) (c158:C158) (c115:C115) (p0:L52) (p1:Int) (p2:L63) (k:AV→Objs→Option R) (n:Nat):∀ s,A155 B c157 c158 c115 p0 p1 p2 k s (n+1)=T155 B c157 c158 c115 p0 p1 p2 (fun s=>A155 B c157 c158 c115 p0 p1 p2 k s n) (K21 k) (some s):=by
 intro s
 cases s<;>kernel_rfl
theorem nt155 {R R':Type} (B:Ops) (c157:C157) (c158:C158) (c115:C115) (p0:L52) (p1:Int) (p2:L63) (again:S155→Option R) (again':S155→Option R') (k0:(Bool×L52×Int×L63)→Option R') (k:R'→Option R) (h:∀ s,again s=ob (again' s) k):∀ s,T155 B c157 c158 c115 p0 p1 p2 again (fun y=>ob (k0 y) k) s=ob (T155 B c157 c158 c115 p0 p1 p2 again' k0 s) k:=by
 rintro (_ | x)
 all_goals try cases x
 all_goals (unfold T155;repeat' first | exact rfl | exact h _ | apply qac | (apply qai;intro))
def R155 (c157:C157) (c158:C158) (c115:C115) (p0:L52) (p1:Int) (p2:L63):Nat→S155→Option (Bool×L52×Int×L63)
 | 0,_=>none
 | n+1,s=>T155 Ops.std c157 c158 c115 p0 p1 p2 (R155 c157 c158 c115 p0 p1 p2 n) some (some s)
theorem rr155 {R:Type} (c157:C157) (c158:C158) (c115:C115) (p0:L52) (p1:Int) (p2:L63) (k:AV→Objs→Option R):∀ (n:Nat) (s:S155),A155 Ops.std c157 c158 c115 p0 p1 p2 k s n=ob (R155 c157 c158 c115 p0 p1 p2 n s) (K21 k)
 | 0,s=>by cases s<;>rfl
 | n+1,s=>by rw [el155];exact nt155 Ops.std c157 c158 c115 p0 p1 p2 _ _ some (K21 k) (rr155 c157 c158 c115 p0 p1 p2 k n) (some s)
def F155 (c157:C157) (c158:C158) (c115:C115) (p0:L52) (p1:Int) (p2:L63):Option (Bool×L52×Int×L63):=T155 Ops.std c157 c158 c115 p0 p1 p2 (R155 c157 c158 c115 p0 p1 p2 1000000) some none
theorem sf155 {c157:C157} {c158:C158} {c115:C115} (h157:Sp157 c157) (h158:Sp158 c158) (h115:Sp115 c115):Sp155 (F155 c157 c158 c115):=fun p0 p1 p2 y hy=>by
 refine qae (qab (ek157 h157) (qab (ek158 h158) (qab (ek115 h115) qad))) 1000000 (fn:=Tryz.f155) (by kernel_rfl) (by kernel_rfl) (X:=X155) (by kernel_rfl) ?_
 rw [eq155]
 exact (nt155 Ops.std c157 c158 c115 p0 p1 p2 _ _ some (K21 k0) (rr155 c157 c158 c115 p0 p1 p2 k0 1000000) none).trans (by show ob (F155 c157 c158 c115 p0 p1 p2) _=_;rw [hy];rfl)
def X158:Aux:=⟨[],[(1,.lin (rg 0 12)),(3,.lin (rg 0 13))]⟩
def T158 {R:Type} (B:Ops) (c159:C159) (c157:C157) (c154:C154) (p0:L52) (p1:Int) (p2:L63) (k:(Bool×L52×Int×L63)→Option R):Option R:=cond (B.inb p1 p0.length) (cond (B.eq (p0.getD p1.toNat ty52.dflt).1 1) (cond (B.lim (List.length p2+List.length ((1,(((p0.getD p1.toNat ty52.dflt).2).2).1,mt UInt8,mt UInt8)::mt (Ty.den ty63))) 48) (k ((true,p0,IntKind.wrap .i64 (p1+1),p2++(1,(((p0.getD p1.toNat ty52.dflt).2).2).1,mt UInt8,mt UInt8)::mt (Ty.den ty63)))) none) (cond (B.eq (p0.getD p1.toNat ty52.dflt).1 2) (ob (c159 p0 p1 p2) fun y0=>k (y0.1,y0.2.1,y0.2.2.1,y0.2.2.2)) (ob (c157 p0 p1 p2) fun y0=>cond (!y0.1 == ([40]:LB)) (k (false,y0.2.1,y0.2.2.1,y0.2.2.2)) (ob (c154 0 y0.2.1 (IntKind.wrap .i64 (y0.2.2.1+1)) y0.2.2.2) fun y1=>cond (!y1.1) (k (false,y1.2.1,y1.2.2.1,y1.2.2.2)) (ob (c157 y1.2.1 y1.2.2.1 y1.2.2.2) fun y2=>cond (!y2.1 == ([41]:LB)) (k (false,y2.2.1,y2.2.2.1,y2.2.2.2)) (k ((true,y2.2.1,IntKind.wrap .i64 (y2.2.2.1+1),y2.2.2.2)))))))) none
theorem eq158 {R:Type} (B:Ops) (c159:C159) (c157:C157) (c154:C154) (p0:L52) (p1:Int) (p2:L63) (k:AV→Objs→Option R) (n:Nat):afun tau B gl0 X158 (ent 159 (e159 c159) (ent 157 (e157 c157) (ent 154 (e154 c154) gnil))) ow Tryz.f158 [.c (.ptr 0 0)] [(0,.box 200 [.list 52 ty52 p0,.int .i64 p1,.own 1002]),(1002,.row 63 ty63 p2)] k n=T158 B c159 c157 c154 p0 p1 p2 (K21 k):=by kernel_rfl
theorem nt158 {R R':Type} (B:Ops) (c159:C159) (c157:C157) (c154:C154) (p0:L52) (p1:Int) (p2:L63) (k0:(Bool×L52×Int×L63)→Option R') (k:R'→Option R):T158 B c159 c157 c154 p0 p1 p2 (fun y=>ob (k0 y) k)=ob (T158 B c159 c157 c154 p0 p1 p2 k0) k:=by
 unfold T158
 repeat' first | exact rfl | apply qac | (apply qai;intro)
def F158 (c159:C159) (c157:C157) (c154:C154) (p0:L52) (p1:Int) (p2:L63):Option (Bool×L52×Int×L63):=T158 Ops.std c159 c157 c154 p0 p1 p2 some
theorem sf158 {c159:C159} {c157:C157} {c154:C154} (h159:Sp159 c159) (h157:Sp157 c157) (h154:Sp154 c154):Sp158 (F158 c159 c157 c154):=fun p0 p1 p2 y hy=>by
 refine qae (qab (ek159 h159) (qab (ek157 h157) (qab (ek154 h154) qad))) 1000000 (fn:=Tryz.f158) (by kernel_rfl) (by kernel_rfl) (X:=X158) (by kernel_rfl) ?_
 rw [eq158]
 exact (nt158 Ops.std c159 c157 c154 p0 p1 p2 some (K21 k0)).trans (by show ob (F158 c159 c157 c154 p0 p1 p2) _=_;rw [hy];rfl)
noncomputable def Rec154:Nat→(Int→L52→Int→L63→Option (Bool×L52×Int×L63))×(L52→Int→L63→Option (Bool×L52×Int×L63))×(L52→Int→L63→Option (Bool×L52×Int×L63))
 | 0=>(fun _ _ _ _=>none,fun _ _ _=>none,fun _ _ _=>none)
 | d+1=>(F154 (Rec154 d).2.1 (Rec154 d).1 M157 M156,F155 M157 (Rec154 d).2.2 M115,F158 M159 M157 (Rec154 d).1)
theorem rec154:∀ d,Sp154 (Rec154 d).1∧Sp155 (Rec154 d).2.1∧Sp158 (Rec154 d).2.2
 | 0=>⟨(fun p0 p1 p2 p3 y (h:(none:Option (Bool×L52×Int×L63))=some y)=>by cases h),(fun p0 p1 p2 y (h:(none:Option (Bool×L52×Int×L63))=some y)=>by cases h),(fun p0 p1 p2 y (h:(none:Option (Bool×L52×Int×L63))=some y)=>by cases h)⟩
 | d+1=>⟨sf154 (rec154 d).2.1 (rec154 d).1 sm157 sm156,sf155 sm157 (rec154 d).2.2 sm115,sf158 sm159 sm157 (rec154 d).1⟩
noncomputable def M154:C154:=(Rec154 1000000).1
theorem sm154:Sp154 M154:=(rec154 1000000).1
def X152:Aux:=⟨[],[(5,.lin [0,1,2,3,4,5,6]),(8,.lin (rg 0 11))]⟩
def T152 {R:Type} (B:Ops) (c153:C153) (c154:C154) (p0:L52) (p1:Int) (k:(Int×Int×L63)→Option R):Option R:=ob (c153 p0 p1) fun y0=>cond (!y0) (k ((p1,2,mt (Ty.den ty63)))) (ob (c154 0 p0 p1 (mt (Ty.den ty63))) fun y1=>cond (!y1.1) (k ((y1.2.2.1,2,mt (Ty.den ty63)))) (cond (B.lt 30 (Nat.cast (List.length y1.2.2.2))) (k ((p1,13,mt (Ty.den ty63)))) (k (y1.2.2.1,0,y1.2.2.2))))
abbrev K23 {R:Type} (k:AV→Objs→Option R) (y:(Int×Int×L63)):Option R:=k (.tup [(false,[.own 501000]),(false,[.int .i64 y.1]),(false,[.int .i64 y.2.1])]) [(501000,.row 63 ty63 y.2.2)]
theorem eq152 {R:Type} (B:Ops) (c153:C153) (c154:C154) (p0:L52) (p1:Int) (k:AV→Objs→Option R) (n:Nat):afun tau B gl0 X152 (ent 153 (e153 c153) (ent 154 (e154 c154) gnil)) ow Tryz.f152 [.c (.list 52 ty52 p0),.c (.int .i64 p1)] [] k n=T152 B c153 c154 p0 p1 (K23 k):=by kernel_rfl
theorem nt152 {R R':Type} (B:Ops) (c153:C153) (c154:C154) (p0:L52) (p1:Int) (k0:(Int×Int×L63)→Option R') (k:R'→Option R):T152 B c153 c154 p0 p1 (fun y=>ob (k0 y) k)=ob (T152 B c153 c154 p0 p1 k0) k:=by
 unfold T152
 repeat' first | exact rfl | apply qac | (apply qai;intro)
def F152 (c153:C153) (c154:C154) (p0:L52) (p1:Int):Option (Int×Int×L63):=T152 Ops.std c153 c154 p0 p1 some
abbrev C152:Type:=L52→Int→Option (Int×Int×L63)
def e152 {R:Type} (c:C152):Ent R:=eG [.aC (.cL 52 ty52),.aC (.cI .i64)] [] fun v k=>ob (c v.1 v.2.1) (K23 k)
abbrev Sp152 (c:C152):Prop:=∀ (p0:L52) (p1:Int) (y:Int×Int×L63),c p0 p1=some y→Spec Tryz.prog gl0 152 [.c (.list 52 ty52 p0),.c (.int .i64 p1)] [] (.tup [(false,[.own 501000]),(false,[.int .i64 y.1]),(false,[.int .i64 y.2.1])]) [(501000,.row 63 ty63 y.2.2)]
theorem ek152 {R:Type} {c:C152} (hs:Sp152 c):EOk 152 (e152 (R:=R) c):=qak fun v=>hs v.1 v.2.1
theorem sf152 {c153:C153} {c154:C154} (h153:Sp153 c153) (h154:Sp154 c154):Sp152 (F152 c153 c154):=fun p0 p1 y hy=>by
 refine qae (qab (ek153 h153) (qab (ek154 h154) qad)) 1000000 (fn:=Tryz.f152) (by kernel_rfl) (by kernel_rfl) (X:=X152) (by kernel_rfl) ?_
 rw [eq152]
 exact (nt152 Ops.std c153 c154 p0 p1 some (K23 k0)).trans (by show ob (F152 c153 c154 p0 p1) _=_;rw [hy];rfl)
noncomputable def M152:C152:=F152 M153 M154
theorem sm152:Sp152 M152:=sf152 sm153 sm154
def X149:Aux:=⟨[],[]⟩
def T149 {R:Type} (B:Ops) (p0:Int) (p1:L52) (p2 p3:Int) (p4:L61) (k:(Bool×L52×Int×Int×L61)→Option R):Option R:=k (false,p1,p2,p0,p4)
theorem eq149 {R:Type} (B:Ops) (p0:Int) (p1:L52) (p2 p3:Int) (p4:L61) (k:AV→Objs→Option R) (n:Nat):afun tau B gl0 X149 gnil ow Tryz.f149 [.c (.ptr 0 0),.c (.int .i64 p0)] [(0,.box 87 [.list 52 ty52 p1,.int .i64 p2,.own 1002,.int .i64 p3]),(1002,.row 61 ty61 p4)] k n=T149 B p0 p1 p2 p3 p4 (K19 k):=by kernel_rfl
theorem nt149 {R R':Type} (B:Ops) (p0:Int) (p1:L52) (p2 p3:Int) (p4:L61) (k0:(Bool×L52×Int×Int×L61)→Option R') (k:R'→Option R):T149 B p0 p1 p2 p3 p4 (fun y=>ob (k0 y) k)=ob (T149 B p0 p1 p2 p3 p4 k0) k:=by
 unfold T149
 repeat' first | exact rfl | apply qac | (apply qai;intro)
def F149 (p0:Int) (p1:L52) (p2 p3:Int) (p4:L61):Option (Bool×L52×Int×Int×L61):=T149 Ops.std p0 p1 p2 p3 p4 some
abbrev C149:Type:=Int→L52→Int→Int→L61→Option (Bool×L52×Int×Int×L61)
def e149 {R:Type} (c:C149):Ent R:=eG [.aC (.cP 0),.aC (.cI .i64)] [.oB 0 87 [.cL 52 ty52,.cI .i64,.cO 1002,.cI .i64],.oR 1002 61 ty61] fun v k=>ob (c v.1 v.2.1 v.2.2.1 v.2.2.2.1 v.2.2.2.2.1) (K19 k)
abbrev Sp149 (c:C149):Prop:=∀ (p0:Int) (p1:L52) (p2 p3:Int) (p4:L61) (y:Bool×L52×Int×Int×L61),c p0 p1 p2 p3 p4=some y→Spec Tryz.prog gl0 149 [.c (.ptr 0 0),.c (.int .i64 p0)] [(0,.box 87 [.list 52 ty52 p1,.int .i64 p2,.own 1002,.int .i64 p3]),(1002,.row 61 ty61 p4)] (.c (.bool y.1)) [(0,.box 87 [.list 52 ty52 y.2.1,.int .i64 y.2.2.1,.own 1002,.int .i64 y.2.2.2.1]),(1002,.row 61 ty61 y.2.2.2.2)]
theorem ek149 {R:Type} {c:C149} (hs:Sp149 c):EOk 149 (e149 (R:=R) c):=qak fun v=>hs v.1 v.2.1 v.2.2.1 v.2.2.2.1 v.2.2.2.2.1
theorem sf149:Sp149 (F149):=fun p0 p1 p2 p3 p4 y hy=>by
 refine qae qad 1000000 (fn:=Tryz.f149) (by kernel_rfl) (by kernel_rfl) (X:=X149) (by kernel_rfl) ?_
 rw [eq149]
 exact (nt149 Ops.std p0 p1 p2 p3 p4 some (K19 k0)).trans (by show ob (F149 p0 p1 p2 p3 p4) _=_;rw [hy];rfl)
noncomputable def M149:C149:=F149
theorem sm149:Sp149 M149:=sf149
def X147:Aux:=⟨[],[]⟩
def T147 {R:Type} (B:Ops) (c152:C152) (c149:C149) (c114:C114) (p0:L52) (p1 p2:Int) (p3:L61) (k:(Bool×L52×Int×Int×L61)→Option R):Option R:=ob (c152 p0 (IntKind.wrap .i64 (p1+1))) fun y0=>cond (B.eq y0.2.1 13) (ob (c149 y0.2.1 p0 p1 p2 p3) fun y1=>k (y1.1,y1.2.1,y1.2.2.1,y1.2.2.2.1,y1.2.2.2.2)) (cond (!B.eq y0.2.1 0) (ob (c149 y0.2.1 p0 y0.1 p2 p3) fun y1=>k (y1.1,y1.2.1,y1.2.2.1,y1.2.2.2.1,y1.2.2.2.2)) (ob (c114 p0 y0.1 p2 p3) fun y1=>cond (!y1.1 == ([93]:LB)) (ob (c149 2 y1.2.1 y1.2.2.1 y1.2.2.2.1 y1.2.2.2.2) fun y2=>k (y2.1,y2.2.1,y2.2.2.1,y2.2.2.2.1,y2.2.2.2.2)) (cond (B.lim (List.length (y1.2.2.2.2)+List.length ((3,y0.2.2)::mt (Ty.den ty61))) 32) (k ((true,y1.2.1,IntKind.wrap .i64 (y1.2.2.1+1),y1.2.2.2.1,y1.2.2.2.2++(3,y0.2.2)::mt (Ty.den ty61)))) none)))
theorem eq147 {R:Type} (B:Ops) (c152:C152) (c149:C149) (c114:C114) (p0:L52) (p1 p2:Int) (p3:L61) (k:AV→Objs→Option R) (n:Nat):afun tau B gl0 X147 (ent 152 (e152 c152) (ent 149 (e149 c149) (ent 114 (e114 c114) gnil))) ow Tryz.f147 [.c (.ptr 0 0)] [(0,.box 87 [.list 52 ty52 p0,.int .i64 p1,.own 1002,.int .i64 p2]),(1002,.row 61 ty61 p3)] k n=T147 B c152 c149 c114 p0 p1 p2 p3 (K19 k):=by kernel_rfl
theorem nt147 {R R':Type} (B:Ops) (c152:C152) (c149:C149) (c114:C114) (p0:L52) (p1 p2:Int) (p3:L61) (k0:(Bool×L52×Int×Int×L61)→Option R') (k:R'→Option R):T147 B c152 c149 c114 p0 p1 p2 p3 (fun y=>ob (k0 y) k)=ob (T147 B c152 c149 c114 p0 p1 p2 p3 k0) k:=by
 unfold T147
 repeat' first | exact rfl | apply qac | (apply qai;intro)
def F147 (c152:C152) (c149:C149) (c114:C114) (p0:L52) (p1 p2:Int) (p3:L61):Option (Bool×L52×Int×Int×L61):=T147 Ops.std c152 c149 c114 p0 p1 p2 p3 some
abbrev C147:Type:=L52→Int→Int→L61→Option (Bool×L52×Int×Int×L61)
def e147 {R:Type} (c:C147):Ent R:=eG [.aC (.cP 0)] [.oB 0 87 [.cL 52 ty52,.cI .i64,.cO 1002,.cI .i64],.oR 1002 61 ty61] fun v k=>ob (c v.1 v.2.1 v.2.2.1 v.2.2.2.1) (K19 k)
abbrev Sp147 (c:C147):Prop:=∀ (p0:L52) (p1 p2:Int) (p3:L61) (y:Bool×L52×Int×Int×L61),c p0 p1 p2 p3=some y→Spec Tryz.prog gl0 147 [.c (.ptr 0 0)] [(0,.box 87 [.list 52 ty52 p0,.int .i64 p1,.own 1002,.int .i64 p2]),(1002,.row 61 ty61 p3)] (.c (.bool y.1)) [(0,.box 87 [.list 52 ty52 y.2.1,.int .i64 y.2.2.1,.own 1002,.int .i64 y.2.2.2.1]),(1002,.row 61 ty61 y.2.2.2.2)]
theorem ek147 {R:Type} {c:C147} (hs:Sp147 c):EOk 147 (e147 (R:=R) c):=qak fun v=>hs v.1 v.2.1 v.2.2.1 v.2.2.2.1
theorem sf147 {c152:C152} {c149:C149} {c114:C114} (h152:Sp152 c152) (h149:Sp149 c149) (h114:Sp114 c114):Sp147 (F147 c152 c149 c114):=fun p0 p1 p2 p3 y hy=>by
 refine qae (qab (ek152 h152) (qab (ek149 h149) (qab (ek114 h114) qad))) 1000000 (fn:=Tryz.f147) (by kernel_rfl) (by kernel_rfl) (X:=X147) (by kernel_rfl) ?_
 rw [eq147]
 exact (nt147 Ops.std c152 c149 c114 p0 p1 p2 p3 some (K19 k0)).trans (by show ob (F147 c152 c149 c114 p0 p1 p2 p3) _=_;rw [hy];rfl)
noncomputable def M147:C147:=F147 M152 M149 M114
theorem sm147:Sp147 M147:=sf147 sm152 sm149 sm114
def X132:Aux:=⟨[],[]⟩
def T132 {R:Type} (B:Ops) (p0:LB) (k:(Int)→Option R):Option R:=cond (p0 == ([85]:LB)) (k 9) (cond (p0 == ([82]:LB)) (k 10) (k 0))
theorem eq132 {R:Type} (B:Ops) (p0:LB) (k:AV→Objs→Option R) (n:Nat):afun tau B gl0 X132 gnil ow Tryz.f132 [.c (.str p0)] [] k n=T132 B p0 (K1 k):=by kernel_rfl
theorem nt132 {R R':Type} (B:Ops) (p0:LB) (k0:(Int)→Option R') (k:R'→Option R):T132 B p0 (fun y=>ob (k0 y) k)=ob (T132 B p0 k0) k:=by
 unfold T132
 repeat' first | exact rfl | apply qac | (apply qai;intro)
def F132 (p0:LB):Option (Int):=T132 Ops.std p0 some
abbrev C132:Type:=LB→Option (Int)
def e132 {R:Type} (c:C132):Ent R:=eG [.aC .cS] [] fun v k=>ob (c v.1) (K1 k)
abbrev Sp132 (c:C132):Prop:=∀ (p0:LB) (y:Int),c p0=some y→Spec Tryz.prog gl0 132 [.c (.str p0)] [] (.c (.int .i64 y)) []
theorem ek132 {R:Type} {c:C132} (hs:Sp132 c):EOk 132 (e132 (R:=R) c):=qak fun v=>hs v.1
theorem sf132:Sp132 (F132):=fun p0 y hy=>by
 refine qae qad 1000000 (fn:=Tryz.f132) (by kernel_rfl) (by kernel_rfl) (X:=X132) (by kernel_rfl) ?_
 rw [eq132]
 exact (nt132 Ops.std p0 some (K1 k0)).trans (by show ob (F132 p0) _=_;rw [hy];rfl)
noncomputable def M132:C132:=F132
theorem sm132:Sp132 M132:=sf132
def X80:Aux:=⟨[],[]⟩
def T80 {R:Type} (B:Ops) (p0:LB) (k:(Int)→Option R):Option R:=cond (p0 == ([45,62]:LB)) (k 7) (k 0)
theorem eq80 {R:Type} (B:Ops) (p0:LB) (k:AV→Objs→Option R) (n:Nat):afun tau B gl0 X80 gnil ow Tryz.f80 [.c (.str p0)] [] k n=T80 B p0 (K1 k):=by kernel_rfl
theorem nt80 {R R':Type} (B:Ops) (p0:LB) (k0:(Int)→Option R') (k:R'→Option R):T80 B p0 (fun y=>ob (k0 y) k)=ob (T80 B p0 k0) k:=by
 unfold T80
 repeat' first | exact rfl | apply qac | (apply qai;intro)
def F80 (p0:LB):Option (Int):=T80 Ops.std p0 some
abbrev C80:Type:=LB→Option (Int)
def e80 {R:Type} (c:C80):Ent R:=eG [.aC .cS] [] fun v k=>ob (c v.1) (K1 k)
abbrev Sp80 (c:C80):Prop:=∀ (p0:LB) (y:Int),c p0=some y→Spec Tryz.prog gl0 80 [.c (.str p0)] [] (.c (.int .i64 y)) []
theorem ek80 {R:Type} {c:C80} (hs:Sp80 c):EOk 80 (e80 (R:=R) c):=qak fun v=>hs v.1
theorem sf80:Sp80 (F80):=fun p0 y hy=>by
 refine qae qad 1000000 (fn:=Tryz.f80) (by kernel_rfl) (by kernel_rfl) (X:=X80) (by kernel_rfl) ?_
 rw [eq80]
 exact (nt80 Ops.std p0 some (K1 k0)).trans (by show ob (F80 p0) _=_;rw [hy];rfl)
noncomputable def M80:C80:=F80
theorem sm80:Sp80 M80:=sf80
abbrev C141:Type:=L52→Int→Int→L61→Option (Bool×L52×Int×Int×L61)
def e141 {R:Type} (c:C141):Ent R:=eG [.aC (.cP 0)] [.oB 0 87 [.cL 52 ty52,.cI .i64,.cO 1002,.cI .i64],.oR 1002 61 ty61] fun v k=>ob (c v.1 v.2.1 v.2.2.1 v.2.2.2.1) (K19 k)
abbrev Sp141 (c:C141):Prop:=∀ (p0:L52) (p1 p2:Int) (p3:L61) (y:Bool×L52×Int×Int×L61),c p0 p1 p2 p3=some y→Spec Tryz.prog gl0 141 [.c (.ptr 0 0)] [(0,.box 87 [.list 52 ty52 p0,.int .i64 p1,.own 1002,.int .i64 p2]),(1002,.row 61 ty61 p3)] (.c (.bool y.1)) [(0,.box 87 [.list 52 ty52 y.2.1,.int .i64 y.2.2.1,.own 1002,.int .i64 y.2.2.2.1]),(1002,.row 61 ty61 y.2.2.2.2)]
theorem ek141 {R:Type} {c:C141} (hs:Sp141 c):EOk 141 (e141 (R:=R) c):=qak fun v=>hs v.1 v.2.1 v.2.2.1 v.2.2.2.1
abbrev C133:Type:=L52→Int→Int→L61→Option (Bool×L52×Int×Int×L61)
def e133 {R:Type} (c:C133):Ent R:=eG [.aC (.cP 0)] [.oB 0 87 [.cL 52 ty52,.cI .i64,.cO 1002,.cI .i64],.oR 1002 61 ty61] fun v k=>ob (c v.1 v.2.1 v.2.2.1 v.2.2.2.1) (K19 k)
abbrev Sp133 (c:C133):Prop:=∀ (p0:L52) (p1 p2:Int) (p3:L61) (y:Bool×L52×Int×Int×L61),c p0 p1 p2 p3=some y→Spec Tryz.prog gl0 133 [.c (.ptr 0 0)] [(0,.box 87 [.list 52 ty52 p0,.int .i64 p1,.own 1002,.int .i64 p2]),(1002,.row 61 ty61 p3)] (.c (.bool y.1)) [(0,.box 87 [.list 52 ty52 y.2.1,.int .i64 y.2.2.1,.own 1002,.int .i64 y.2.2.2.1]),(1002,.row 61 ty61 y.2.2.2.2)]
theorem ek133 {R:Type} {c:C133} (hs:Sp133 c):EOk 133 (e133 (R:=R) c):=qak fun v=>hs v.1 v.2.1 v.2.2.1 v.2.2.2.1
abbrev C186:Type:=L52→Int→Int→L61→Option (Bool×L52×Int×Int×L61)
def e186 {R:Type} (c:C186):Ent R:=eG [.aC (.cP 0),.aF 132 [],.aM 133 [.cP 0]] [.oB 0 87 [.cL 52 ty52,.cI .i64,.cO 1002,.cI .i64],.oR 1002 61 ty61] fun v k=>ob (c v.1 v.2.1 v.2.2.1 v.2.2.2.1) (K19 k)
abbrev Sp186 (c:C186):Prop:=∀ (p0:L52) (p1 p2:Int) (p3:L61) (y:Bool×L52×Int×Int×L61),c p0 p1 p2 p3=some y→Spec Tryz.prog gl0 79 [.c (.ptr 0 0),.fn 132 [],.bm 133 [.ptr 0 0]] [(0,.box 87 [.list 52 ty52 p0,.int .i64 p1,.own 1002,.int .i64 p2]),(1002,.row 61 ty61 p3)] (.c (.bool y.1)) [(0,.box 87 [.list 52 ty52 y.2.1,.int .i64 y.2.2.1,.own 1002,.int .i64 y.2.2.2.1]),(1002,.row 61 ty61 y.2.2.2.2)]
theorem ek186 {R:Type} {c:C186} (hs:Sp186 c):EOk 79 (e186 (R:=R) c):=qak fun v=>hs v.1 v.2.1 v.2.2.1 v.2.2.2.1
abbrev C128:Type:=L52→Int→Int→L61→Option (Bool×L52×Int×Int×L61)
def e128 {R:Type} (c:C128):Ent R:=eG [.aC (.cP 0)] [.oB 0 87 [.cL 52 ty52,.cI .i64,.cO 1002,.cI .i64],.oR 1002 61 ty61] fun v k=>ob (c v.1 v.2.1 v.2.2.1 v.2.2.2.1) (K19 k)
abbrev Sp128 (c:C128):Prop:=∀ (p0:L52) (p1 p2:Int) (p3:L61) (y:Bool×L52×Int×Int×L61),c p0 p1 p2 p3=some y→Spec Tryz.prog gl0 128 [.c (.ptr 0 0)] [(0,.box 87 [.list 52 ty52 p0,.int .i64 p1,.own 1002,.int .i64 p2]),(1002,.row 61 ty61 p3)] (.c (.bool y.1)) [(0,.box 87 [.list 52 ty52 y.2.1,.int .i64 y.2.2.1,.own 1002,.int .i64 y.2.2.2.1]),(1002,.row 61 ty61 y.2.2.2.2)]
theorem ek128 {R:Type} {c:C128} (hs:Sp128 c):EOk 128 (e128 (R:=R) c):=qak fun v=>hs v.1 v.2.1 v.2.2.1 v.2.2.2.1
abbrev C187:Type:=LB→Int→L52→Int→Int→L61→Option (Bool×L52×Int×Int×L61)
def e187 {R:Type} (c:C187):Ent R:=eG [.aC (.cP 0),.aC .cS,.aC (.cI .i64),.aM 128 [.cP 0]] [.oB 0 87 [.cL 52 ty52,.cI .i64,.cO 1002,.cI .i64],.oR 1002 61 ty61] fun v k=>ob (c v.1 v.2.1 v.2.2.1 v.2.2.2.1 v.2.2.2.2.1 v.2.2.2.2.2.1) (K19 k)
abbrev Sp187 (c:C187):Prop:=∀ (p0:LB) (p1:Int) (p2:L52) (p3 p4:Int) (p5:L61) (y:Bool×L52×Int×Int×L61),c p0 p1 p2 p3 p4 p5=some y→Spec Tryz.prog gl0 117 [.c (.ptr 0 0),.c (.str p0),.c (.int .i64 p1),.bm 128 [.ptr 0 0]] [(0,.box 87 [.list 52 ty52 p2,.int .i64 p3,.own 1002,.int .i64 p4]),(1002,.row 61 ty61 p5)] (.c (.bool y.1)) [(0,.box 87 [.list 52 ty52 y.2.1,.int .i64 y.2.2.1,.own 1002,.int .i64 y.2.2.2.1]),(1002,.row 61 ty61 y.2.2.2.2)]
theorem ek187 {R:Type} {c:C187} (hs:Sp187 c):EOk 117 (e187 (R:=R) c):=qak fun v=>hs v.1 v.2.1 v.2.2.1 v.2.2.2.1 v.2.2.2.2.1 v.2.2.2.2.2.1
abbrev C118:Type:=L52→Int→Int→L61→Option (Bool×L52×Int×Int×L61)
def e118 {R:Type} (c:C118):Ent R:=eG [.aC (.cP 0)] [.oB 0 87 [.cL 52 ty52,.cI .i64,.cO 1002,.cI .i64],.oR 1002 61 ty61] fun v k=>ob (c v.1 v.2.1 v.2.2.1 v.2.2.2.1) (K19 k)
abbrev Sp118 (c:C118):Prop:=∀ (p0:L52) (p1 p2:Int) (p3:L61) (y:Bool×L52×Int×Int×L61),c p0 p1 p2 p3=some y→Spec Tryz.prog gl0 118 [.c (.ptr 0 0)] [(0,.box 87 [.list 52 ty52 p0,.int .i64 p1,.own 1002,.int .i64 p2]),(1002,.row 61 ty61 p3)] (.c (.bool y.1)) [(0,.box 87 [.list 52 ty52 y.2.1,.int .i64 y.2.2.1,.own 1002,.int .i64 y.2.2.2.1]),(1002,.row 61 ty61 y.2.2.2.2)]
theorem ek118 {R:Type} {c:C118} (hs:Sp118 c):EOk 118 (e118 (R:=R) c):=qak fun v=>hs v.1 v.2.1 v.2.2.1 v.2.2.2.1
abbrev C117:Type:=LB→Int→L52→Int→Int→L61→Option (Bool×L52×Int×Int×L61)
def e117 {R:Type} (c:C117):Ent R:=eG [.aC (.cP 0),.aC .cS,.aC (.cI .i64),.aM 118 [.cP 0]] [.oB 0 87 [.cL 52 ty52,.cI .i64,.cO 1002,.cI .i64],.oR 1002 61 ty61] fun v k=>ob (c v.1 v.2.1 v.2.2.1 v.2.2.2.1 v.2.2.2.2.1 v.2.2.2.2.2.1) (K19 k)
abbrev Sp117 (c:C117):Prop:=∀ (p0:LB) (p1:Int) (p2:L52) (p3 p4:Int) (p5:L61) (y:Bool×L52×Int×Int×L61),c p0 p1 p2 p3 p4 p5=some y→Spec Tryz.prog gl0 117 [.c (.ptr 0 0),.c (.str p0),.c (.int .i64 p1),.bm 118 [.ptr 0 0]] [(0,.box 87 [.list 52 ty52 p2,.int .i64 p3,.own 1002,.int .i64 p4]),(1002,.row 61 ty61 p5)] (.c (.bool y.1)) [(0,.box 87 [.list 52 ty52 y.2.1,.int .i64 y.2.2.1,.own 1002,.int .i64 y.2.2.2.1]),(1002,.row 61 ty61 y.2.2.2.2)]
theorem ek117 {R:Type} {c:C117} (hs:Sp117 c):EOk 117 (e117 (R:=R) c):=qak fun v=>hs v.1 v.2.1 v.2.2.1 v.2.2.2.1 v.2.2.2.2.1 v.2.2.2.2.2.1
abbrev C81:Type:=L52→Int→Int→L61→Option (Bool×L52×Int×Int×L61)
def e81 {R:Type} (c:C81):Ent R:=eG [.aC (.cP 0)] [.oB 0 87 [.cL 52 ty52,.cI .i64,.cO 1002,.cI .i64],.oR 1002 61 ty61] fun v k=>ob (c v.1 v.2.1 v.2.2.1 v.2.2.2.1) (K19 k)
abbrev Sp81 (c:C81):Prop:=∀ (p0:L52) (p1 p2:Int) (p3:L61) (y:Bool×L52×Int×Int×L61),c p0 p1 p2 p3=some y→Spec Tryz.prog gl0 81 [.c (.ptr 0 0)] [(0,.box 87 [.list 52 ty52 p0,.int .i64 p1,.own 1002,.int .i64 p2]),(1002,.row 61 ty61 p3)] (.c (.bool y.1)) [(0,.box 87 [.list 52 ty52 y.2.1,.int .i64 y.2.2.1,.own 1002,.int .i64 y.2.2.2.1]),(1002,.row 61 ty61 y.2.2.2.2)]
theorem ek81 {R:Type} {c:C81} (hs:Sp81 c):EOk 81 (e81 (R:=R) c):=qak fun v=>hs v.1 v.2.1 v.2.2.1 v.2.2.2.1
abbrev C79:Type:=L52→Int→Int→L61→Option (Bool×L52×Int×Int×L61)
def e79 {R:Type} (c:C79):Ent R:=eG [.aC (.cP 0),.aF 80 [],.aM 81 [.cP 0]] [.oB 0 87 [.cL 52 ty52,.cI .i64,.cO 1002,.cI .i64],.oR 1002 61 ty61] fun v k=>ob (c v.1 v.2.1 v.2.2.1 v.2.2.2.1) (K19 k)
abbrev Sp79 (c:C79):Prop:=∀ (p0:L52) (p1 p2:Int) (p3:L61) (y:Bool×L52×Int×Int×L61),c p0 p1 p2 p3=some y→Spec Tryz.prog gl0 79 [.c (.ptr 0 0),.fn 80 [],.bm 81 [.ptr 0 0]] [(0,.box 87 [.list 52 ty52 p0,.int .i64 p1,.own 1002,.int .i64 p2]),(1002,.row 61 ty61 p3)] (.c (.bool y.1)) [(0,.box 87 [.list 52 ty52 y.2.1,.int .i64 y.2.2.1,.own 1002,.int .i64 y.2.2.2.1]),(1002,.row 61 ty61 y.2.2.2.2)]
theorem ek79 {R:Type} {c:C79} (hs:Sp79 c):EOk 79 (e79 (R:=R) c):=qak fun v=>hs v.1 v.2.1 v.2.2.1 v.2.2.2.1
abbrev C44:Type:=L52→Int→Int→L61→Option (Bool×L52×Int×Int×L61)
def e44 {R:Type} (c:C44):Ent R:=eG [.aC (.cP 0)] [.oB 0 87 [.cL 52 ty52,.cI .i64,.cO 1002,.cI .i64],.oR 1002 61 ty61] fun v k=>ob (c v.1 v.2.1 v.2.2.1 v.2.2.2.1) (K19 k)
abbrev Sp44 (c:C44):Prop:=∀ (p0:L52) (p1 p2:Int) (p3:L61) (y:Bool×L52×Int×Int×L61),c p0 p1 p2 p3=some y→Spec Tryz.prog gl0 44 [.c (.ptr 0 0)] [(0,.box 87 [.list 52 ty52 p0,.int .i64 p1,.own 1002,.int .i64 p2]),(1002,.row 61 ty61 p3)] (.c (.bool y.1)) [(0,.box 87 [.list 52 ty52 y.2.1,.int .i64 y.2.2.1,.own 1002,.int .i64 y.2.2.2.1]),(1002,.row 61 ty61 y.2.2.2.2)]
theorem ek44 {R:Type} {c:C44} (hs:Sp44 c):EOk 44 (e44 (R:=R) c):=qak fun v=>hs v.1 v.2.1 v.2.2.1 v.2.2.2.1
abbrev C148:Type:=L52→Int→Int→L61→Option (Bool×L52×Int×Int×L61)
def e148 {R:Type} (c:C148):Ent R:=eG [.aC (.cP 0)] [.oB 0 87 [.cL 52 ty52,.cI .i64,.cO 1002,.cI .i64],.oR 1002 61 ty61] fun v k=>ob (c v.1 v.2.1 v.2.2.1 v.2.2.2.1) (K19 k)
abbrev Sp148 (c:C148):Prop:=∀ (p0:L52) (p1 p2:Int) (p3:L61) (y:Bool×L52×Int×Int×L61),c p0 p1 p2 p3=some y→Spec Tryz.prog gl0 148 [.c (.ptr 0 0)] [(0,.box 87 [.list 52 ty52 p0,.int .i64 p1,.own 1002,.int .i64 p2]),(1002,.row 61 ty61 p3)] (.c (.bool y.1)) [(0,.box 87 [.list 52 ty52 y.2.1,.int .i64 y.2.2.1,.own 1002,.int .i64 y.2.2.2.1]),(1002,.row 61 ty61 y.2.2.2.2)]
theorem ek148 {R:Type} {c:C148} (hs:Sp148 c):EOk 148 (e148 (R:=R) c):=qak fun v=>hs v.1 v.2.1 v.2.2.1 v.2.2.2.1
def X44:Aux:=⟨[],[]⟩
def T44 {R:Type} (B:Ops) (c81:C81) (c79:C79) (c80:C80) (p0:L52) (p1 p2:Int) (p3:L61) (k:(Bool×L52×Int×Int×L61)→Option R):Option R:=ob (c79 p0 p1 p2 p3) fun y0=>k (y0.1,y0.2.1,y0.2.2.1,y0.2.2.2.1,y0.2.2.2.2)
theorem eq44 {R:Type} (B:Ops) (c81:C81) (c79:C79) (c80:C80) (p0:L52) (p1 p2:Int) (p3:L61) (k:AV→Objs→Option R) (n:Nat):afun tau B gl0 X44 (ent 81 (e81 c81) (ent 79 (e79 c79) (ent 80 (e80 c80) gnil))) ow Tryz.f44 [.c (.ptr 0 0)] [(0,.box 87 [.list 52 ty52 p0,.int .i64 p1,.own 1002,.int .i64 p2]),(1002,.row 61 ty61 p3)] k n=T44 B c81 c79 c80 p0 p1 p2 p3 (K19 k):=by kernel_rfl
theorem nt44 {R R':Type} (B:Ops) (c81:C81) (c79:C79) (c80:C80) (p0:L52) (p1 p2:Int) (p3:L61) (k0:(Bool×L52×Int×Int×L61)→Option R') (k:R'→Option R):T44 B c81 c79 c80 p0 p1 p2 p3 (fun y=>ob (k0 y) k)=ob (T44 B c81 c79 c80 p0 p1 p2 p3 k0) k:=by
 unfold T44
 repeat' first | exact rfl | apply qac | (apply qai;intro)
def F44 (c81:C81) (c79:C79) (c80:C80) (p0:L52) (p1 p2:Int) (p3:L61):Option (Bool×L52×Int×Int×L61):=T44 Ops.std c81 c79 c80 p0 p1 p2 p3 some
theorem sf44 {c81:C81} {c79:C79} {c80:C80} (h81:Sp81 c81) (h79:Sp79 c79) (h80:Sp80 c80):Sp44 (F44 c81 c79 c80):=fun p0 p1 p2 p3 y hy=>by
 refine qae (qab (ek81 h81) (qab (ek79 h79) (qab (ek80 h80) qad))) 1000000 (fn:=Tryz.f44) (by kernel_rfl) (by kernel_rfl) (X:=X44) (by kernel_rfl) ?_
 rw [eq44]
 exact (nt44 Ops.std c81 c79 c80 p0 p1 p2 p3 some (K19 k0)).trans (by show ob (F44 c81 c79 c80 p0 p1 p2 p3) _=_;rw [hy];rfl)
def X81:Aux:=⟨[],[]⟩
def T81 {R:Type} (B:Ops) (c118:C118) (c117:C117) (p0:L52) (p1 p2:Int) (p3:L61) (k:(Bool×L52×Int×Int×L61)→Option R):Option R:=ob (c117 ([124,124]:LB) 6 p0 p1 p2 p3) fun y0=>k (y0.1,y0.2.1,y0.2.2.1,y0.2.2.2.1,y0.2.2.2.2)
theorem eq81 {R:Type} (B:Ops) (c118:C118) (c117:C117) (p0:L52) (p1 p2:Int) (p3:L61) (k:AV→Objs→Option R) (n:Nat):afun tau B gl0 X81 (ent 118 (e118 c118) (ent 117 (e117 c117) gnil)) ow Tryz.f81 [.c (.ptr 0 0)] [(0,.box 87 [.list 52 ty52 p0,.int .i64 p1,.own 1002,.int .i64 p2]),(1002,.row 61 ty61 p3)] k n=T81 B c118 c117 p0 p1 p2 p3 (K19 k):=by kernel_rfl
theorem nt81 {R R':Type} (B:Ops) (c118:C118) (c117:C117) (p0:L52) (p1 p2:Int) (p3:L61) (k0:(Bool×L52×Int×Int×L61)→Option R') (k:R'→Option R):T81 B c118 c117 p0 p1 p2 p3 (fun y=>ob (k0 y) k)=ob (T81 B c118 c117 p0 p1 p2 p3 k0) k:=by
 unfold T81
 repeat' first | exact rfl | apply qac | (apply qai;intro)
def F81 (c118:C118) (c117:C117) (p0:L52) (p1 p2:Int) (p3:L61):Option (Bool×L52×Int×Int×L61):=T81 Ops.std c118 c117 p0 p1 p2 p3 some
theorem sf81 {c118:C118} {c117:C117} (h118:Sp118 c118) (h117:Sp117 c117):Sp81 (F81 c118 c117):=fun p0 p1 p2 p3 y hy=>by
 refine qae (qab (ek118 h118) (qab (ek117 h117) qad)) 1000000 (fn:=Tryz.f81) (by kernel_rfl) (by kernel_rfl) (X:=X81) (by kernel_rfl) ?_
 rw [eq81]
 exact (nt81 Ops.std c118 c117 p0 p1 p2 p3 some (K19 k0)).trans (by show ob (F81 c118 c117 p0 p1 p2 p3) _=_;rw [hy];rfl)
def X118:Aux:=⟨[],[]⟩
def T118 {R:Type} (B:Ops) (c128:C128) (c187:C187) (p0:L52) (p1 p2:Int) (p3:L61) (k:(Bool×L52×Int×Int×L61)→Option R):Option R:=ob (c187 ([38,38]:LB) 5 p0 p1 p2 p3) fun y0=>k (y0.1,y0.2.1,y0.2.2.1,y0.2.2.2.1,y0.2.2.2.2)
theorem eq118 {R:Type} (B:Ops) (c128:C128) (c187:C187) (p0:L52) (p1 p2:Int) (p3:L61) (k:AV→Objs→Option R) (n:Nat):afun tau B gl0 X118 (ent 128 (e128 c128) (ent 117 (e187 c187) gnil)) ow Tryz.f118 [.c (.ptr 0 0)] [(0,.box 87 [.list 52 ty52 p0,.int .i64 p1,.own 1002,.int .i64 p2]),(1002,.row 61 ty61 p3)] k n=T118 B c128 c187 p0 p1 p2 p3 (K19 k):=by kernel_rfl
theorem nt118 {R R':Type} (B:Ops) (c128:C128) (c187:C187) (p0:L52) (p1 p2:Int) (p3:L61) (k0:(Bool×L52×Int×Int×L61)→Option R') (k:R'→Option R):T118 B c128 c187 p0 p1 p2 p3 (fun y=>ob (k0 y) k)=ob (T118 B c128 c187 p0 p1 p2 p3 k0) k:=by
 unfold T118
 repeat' first | exact rfl | apply qac | (apply qai;intro)
def F118 (c128:C128) (c187:C187) (p0:L52) (p1 p2:Int) (p3:L61):Option (Bool×L52×Int×Int×L61):=T118 Ops.std c128 c187 p0 p1 p2 p3 some
theorem sf118 {c128:C128} {c187:C187} (h128:Sp128 c128) (h187:Sp187 c187):Sp118 (F118 c128 c187):=fun p0 p1 p2 p3 y hy=>by
 refine qae (qab (ek128 h128) (qab (ek187 h187) qad)) 1000000 (fn:=Tryz.f118) (by kernel_rfl) (by kernel_rfl) (X:=X118) (by kernel_rfl) ?_
 rw [eq118]
 exact (nt118 Ops.std c128 c187 p0 p1 p2 p3 some (K19 k0)).trans (by show ob (F118 c128 c187 p0 p1 p2 p3) _=_;rw [hy];rfl)
def X128:Aux:=⟨[],[]⟩
def T128 {R:Type} (B:Ops) (c133:C133) (c186:C186) (c132:C132) (p0:L52) (p1 p2:Int) (p3:L61) (k:(Bool×L52×Int×Int×L61)→Option R):Option R:=ob (c186 p0 p1 p2 p3) fun y0=>k (y0.1,y0.2.1,y0.2.2.1,y0.2.2.2.1,y0.2.2.2.2)
theorem eq128 {R:Type} (B:Ops) (c133:C133) (c186:C186) (c132:C132) (p0:L52) (p1 p2:Int) (p3:L61) (k:AV→Objs→Option R) (n:Nat):afun tau B gl0 X128 (ent 133 (e133 c133) (ent 79 (e186 c186) (ent 132 (e132 c132) gnil))) ow Tryz.f128 [.c (.ptr 0 0)] [(0,.box 87 [.list 52 ty52 p0,.int .i64 p1,.own 1002,.int .i64 p2]),(1002,.row 61 ty61 p3)] k n=T128 B c133 c186 c132 p0 p1 p2 p3 (K19 k):=by kernel_rfl
theorem nt128 {R R':Type} (B:Ops) (c133:C133) (c186:C186) (c132:C132) (p0:L52) (p1 p2:Int) (p3:L61) (k0:(Bool×L52×Int×Int×L61)→Option R') (k:R'→Option R):T128 B c133 c186 c132 p0 p1 p2 p3 (fun y=>ob (k0 y) k)=ob (T128 B c133 c186 c132 p0 p1 p2 p3 k0) k:=by
 unfold T128
 repeat' first | exact rfl | apply qac | (apply qai;intro)
def F128 (c133:C133) (c186:C186) (c132:C132) (p0:L52) (p1 p2:Int) (p3:L61):Option (Bool×L52×Int×Int×L61):=T128 Ops.std c133 c186 c132 p0 p1 p2 p3 some
theorem sf128 {c133:C133} {c186:C186} {c132:C132} (h133:Sp133 c133) (h186:Sp186 c186) (h132:Sp132 c132):Sp128 (F128 c133 c186 c132):=fun p0 p1 p2 p3 y hy=>by
 refine qae (qab (ek133 h133) (qab (ek186 h186) (qab (ek132 h132) qad))) 1000000 (fn:=Tryz.f128) (by kernel_rfl) (by kernel_rfl) (X:=X128) (by kernel_rfl) ?_
 rw [eq128]
 exact (nt128 Ops.std c133 c186 c132 p0 p1 p2 p3 some (K19 k0)).trans (by show ob (F128 c133 c186 c132 p0 p1 p2 p3) _=_;rw [hy];rfl)
def X133:Aux:=⟨[(3,([0,2]++rg 5 31)),(3000011,([0]++rg 2 28++[31,32,33,34,35]))],[]⟩
inductive S133 where
 | l0 (v0:Int) (v1:L52) (v2 v3:Int) (v4:L3) (v5:L61)
 | l1011 (v0:Int) (v1:L52) (v2 v3:Int) (v4:L61) (v5:L3)
def T133 {R:Type} (B:Ops) (c114:C114) (c140:C140) (c141:C141) (c115:C115) (c116:C116) (p0:L52) (p1 p2:Int) (p3:L61) (again:S133→Option R) (k:(Bool×L52×Int×Int×L61)→Option R):Option S133→Option R | none=>ob (c114 p0 p1 p2 p3) fun y0=>ob (c140 y0.1) fun y1=>again (.l0 y1 y0.2.1 y0.2.2.1 y0.2.2.2.1 (mt (Ty.den (Ty.int .i64))) y0.2.2.2.2) | some (.l0 v0 v1 v2 v3 v4 v5)=>cond (!B.eq v0 0) (cond (B.lim (List.length v4+List.length (v0::mt (Ty.den (Ty.int .i64)))) 8) (ob (c114 v1 (IntKind.wrap .i64 (v2+1)) v3 v5) fun y0=>ob (c140 y0.1) fun y1=>again (.l0 y1 y0.2.1 y0.2.2.1 y0.2.2.2.1 (v4++v0::mt (Ty.den (Ty.int .i64))) y0.2.2.2.2)) none) (ob (c141 v1 v2 v3 v5) fun y0=>cond (!y0.1) (k (false,y0.2.1,y0.2.2.1,y0.2.2.2.1,y0.2.2.2.2)) (ob (c115 v4) fun y1=>again (.l1011 (Nat.cast y1.length-1) y0.2.1 y0.2.2.1 y0.2.2.2.1 y0.2.2.2.2 y1))) | some (.l1011 v0 v1 v2 v3 v4 v5)=>cond (B.lt v0 0) (k (true,v1,v2,v3,v4)) (cond (B.lt v0 (↑v5.length)) (ob (c116 (v5.getD v0.toNat 0) v1 v2 v3 v4) fun y0=>again (.l1011 (v0-1) y0.2.1 y0.2.2.1 y0.2.2.2.1 y0.2.2.2.2 v5)) none)
def E133 (p0:L52) (p1 p2:Int) (p3:L61):S133→List AV×Objs
 | .l0 v0 v1 v2 v3 v4 v5=>(mk 36 [(1,.c (.ptr 1 0)),(3,.c (.own 3)),(4,.c (.int .i64 v0))],[(0,.box 87 [.list 52 ty52 v1,.int .i64 v2,.own 1002,.int .i64 v3]),(1,.box 85 [.ptr 0 0]),(3,.row 3 ty3 v4),(1002,.row 61 ty61 v5)])
 | .l1011 v0 v1 v2 v3 v4 v5=>(mk 36 [(1,.c (.ptr 1 0)),(30,.fn 127 [.ptr 31500 0]),(31,.c (.int .i64 v0))],[(0,.box 87 [.list 52 ty52 v1,.int .i64 v2,.own 1002,.int .i64 v3]),(1,.box 85 [.ptr 0 0]),(1002,.row 61 ty61 v4),(31500,.box 22 [.list 3 ty3 v5])])
def I133:S133→Nat
 | .l0 _ _ _ _ _ _=>0
 | .l1011 _ _ _ _ _ _=>1011
noncomputable abbrev A133 {R:Type} (B:Ops) (c114:C114) (c140:C140) (c141:C141) (c115:C115) (c116:C116) (p0:L52) (p1 p2:Int) (p3:L61) (k:AV→Objs→Option R) (s:S133) (n:Nat):Option R:=aloop tau B gl0 X133 (ent 114 (e114 c114) (ent 140 (e140 c140) (ent 141 (e141 c141) (ent 115 (e115 c115) (ent 116 (e116 c116) gnil))))) ow [0] Tryz.f133 k (I133 s) (E133 p0 p1 p2 p3 s) n
theorem eq133 {R:Type} (B:Ops) (c114:C114) (c140:C140) (c141:C141) (c115:C115) (c116:C116) (p0:L52) (p1 p2:Int) (p3:L61) (k:AV→Objs→Option R) (n:Nat):afun tau B gl0 X133 (ent 114 (e114 c114) (ent 140 (e140 c140) (ent 141 (e141 c141) (ent 115 (e115 c115) (ent 116 (e116 c116) gnil))))) ow Tryz.f133 [.c (.ptr 0 0)] [(0,.box 87 [.list 52 ty52 p0,.int .i64 p1,.own 1002,.int .i64 p2]),(1002,.row 61 ty61 p3)] k n=T133 B c114 c140 c141 c115 c116 p0 p1 p2 p3 (fun s=>A133 B c114 c140 c141 c115 c116 p0 p1 p2 p3 k s n) (K19 k) none:=by kernel_rfl
theorem el133 {R:Type} (B:Ops) (c114:C114) (c140:C140) (c141:C141) (c115:C115) (c116:C116) (p0:L52) (p1 p2:Int) (p3:L61) (k:AV→Objs→Option R) (n:Nat):∀ s,A133 B c114 c140 c141 c115 c116 p0 p1 p2 p3 k s (n+1)=T133 B c114 c140 c141 c115 c116 p0 p1 p2 p3 (fun s=>A133 B c114 c140 c141 c115 c116 p0 p1 p2 p3 k s n) (K19 k) (some s):=by
 intro s
 cases s<;>kernel_rfl
theorem nt133 {R R':Type} (B:Ops) (c114:C114) (c140:C140) (c141:C141) (c115:C115) (c116:C116) (p0:L52) (p1 p2:Int) (p3:L61) (again:S133→Option R) (again':S133→Option R') (k0:(Bool×L52×Int×Int×L61)→Option R') (k:R'→Option R) (h:∀ s,again s=ob (again' s) k):∀ s,T133 B c114 c140 c141 c115 c116 p0 p1 p2 p3 again (fun y=>ob (k0 y) k) s=ob (T133 B c114 c140 c141 c115 c116 p0 p1 p2 p3 again' k0 s) k:=by
 rintro (_ | x)
 all_goals try cases x
 all_goals (unfold T133;repeat' first | exact rfl | exact h _ | apply qac | (apply qai;intro))
def R133 (c114:C114) (c140:C140) (c141:C141) (c115:C115) (c116:C116) (p0:L52) (p1 p2:Int) (p3:L61):Nat→S133→Option (Bool×L52×Int×Int×L61)
 | 0,_=>none
 | n+1,s=>T133 Ops.std c114 c140 c141 c115 c116 p0 p1 p2 p3 (R133 c114 c140 c141 c115 c116 p0 p1 p2 p3 n) some (some s)
theorem rr133 {R:Type} (c114:C114) (c140:C140) (c141:C141) (c115:C115) (c116:C116) (p0:L52) (p1 p2:Int) (p3:L61) (k:AV→Objs→Option R):∀ (n:Nat) (s:S133),A133 Ops.std c114 c140 c141 c115 c116 p0 p1 p2 p3 k s n=ob (R133 c114 c140 c141 c115 c116 p0 p1 p2 p3 n s) (K19 k)
 | 0,s=>by cases s<;>rfl
 | n+1,s=>by rw [el133];exact nt133 Ops.std c114 c140 c141 c115 c116 p0 p1 p2 p3 _ _ some (K19 k) (rr133 c114 c140 c141 c115 c116 p0 p1 p2 p3 k n) (some s)
def F133 (c114:C114) (c140:C140) (c141:C141) (c115:C115) (c116:C116) (p0:L52) (p1 p2:Int) (p3:L61):Option (Bool×L52×Int×Int×L61):=T133 Ops.std c114 c140 c141 c115 c116 p0 p1 p2 p3 (R133 c114 c140 c141 c115 c116 p0 p1 p2 p3 1000000) some none
theorem sf133 {c114:C114} {c140:C140} {c141:C141} {c115:C115} {c116:C116} (h114:Sp114 c114) (h140:Sp140 c140) (h141:Sp141 c141) (h115:Sp115 c115) (h116:Sp116 c116):Sp133 (F133 c114 c140 c141 c115 c116):=fun p0 p1 p2 p3 y hy=>by
 refine qae (qab (ek114 h114) (qab (ek140 h140) (qab (ek141 h141) (qab (ek115 h115) (qab (ek116 h116) qad))))) 1000000 (fn:=Tryz.f133) (by kernel_rfl) (by kernel_rfl) (X:=X133) (by kernel_rfl) ?_
 rw [eq133]
 exact (nt133 Ops.std c114 c140 c141 c115 c116 p0 p1 p2 p3 _ _ some (K19 k0) (rr133 c114 c140 c141 c115 c116 p0 p1 p2 p3 k0 1000000) none).trans (by show ob (F133 c114 c140 c141 c115 c116 p0 p1 p2 p3) _=_;rw [hy];rfl)
def X141:Aux:=⟨[],[]⟩
def T141 {R:Type} (B:Ops) (c114:C114) (c116:C116) (c147:C147) (c148:C148) (c149:C149) (p0:L52) (p1 p2:Int) (p3:L61) (k:(Bool×L52×Int×Int×L61)→Option R):Option R:=ob (c114 p0 p1 p2 p3) fun y0=>cond (y0.1 == ([116,114,117,101]:LB)) (ob (c116 1 y0.2.1 (IntKind.wrap .i64 (y0.2.2.1+1)) y0.2.2.2.1 y0.2.2.2.2) fun y1=>k (y1.1,y1.2.1,y1.2.2.1,y1.2.2.2.1,y1.2.2.2.2)) (cond (y0.1 == ([102,97,108,115,101]:LB)) (ob (c116 2 y0.2.1 (IntKind.wrap .i64 (y0.2.2.1+1)) y0.2.2.2.1 y0.2.2.2.2) fun y1=>k (y1.1,y1.2.1,y1.2.2.1,y1.2.2.2.1,y1.2.2.2.2)) (cond (y0.1 == ([91]:LB)) (ob (c147 y0.2.1 y0.2.2.1 y0.2.2.2.1 y0.2.2.2.2) fun y1=>k (y1.1,y1.2.1,y1.2.2.1,y1.2.2.2.1,y1.2.2.2.2)) (cond (y0.1 == ([40]:LB)) (ob (c148 y0.2.1 y0.2.2.1 y0.2.2.2.1 y0.2.2.2.2) fun y1=>k (y1.1,y1.2.1,y1.2.2.1,y1.2.2.2.1,y1.2.2.2.2)) (ob (c149 2 y0.2.1 y0.2.2.1 y0.2.2.2.1 y0.2.2.2.2) fun y1=>k (y1.1,y1.2.1,y1.2.2.1,y1.2.2.2.1,y1.2.2.2.2)))))
theorem eq141 {R:Type} (B:Ops) (c114:C114) (c116:C116) (c147:C147) (c148:C148) (c149:C149) (p0:L52) (p1 p2:Int) (p3:L61) (k:AV→Objs→Option R) (n:Nat):afun tau B gl0 X141 (ent 114 (e114 c114) (ent 116 (e116 c116) (ent 147 (e147 c147) (ent 148 (e148 c148) (ent 149 (e149 c149) gnil))))) ow Tryz.f141 [.c (.ptr 0 0)] [(0,.box 87 [.list 52 ty52 p0,.int .i64 p1,.own 1002,.int .i64 p2]),(1002,.row 61 ty61 p3)] k n=T141 B c114 c116 c147 c148 c149 p0 p1 p2 p3 (K19 k):=by kernel_rfl
theorem nt141 {R R':Type} (B:Ops) (c114:C114) (c116:C116) (c147:C147) (c148:C148) (c149:C149) (p0:L52) (p1 p2:Int) (p3:L61) (k0:(Bool×L52×Int×Int×L61)→Option R') (k:R'→Option R):T141 B c114 c116 c147 c148 c149 p0 p1 p2 p3 (fun y=>ob (k0 y) k)=ob (T141 B c114 c116 c147 c148 c149 p0 p1 p2 p3 k0) k:=by
 unfold T141
 repeat' first | exact rfl | apply qac | (apply qai;intro)
def F141 (c114:C114) (c116:C116) (c147:C147) (c148:C148) (c149:C149) (p0:L52) (p1 p2:Int) (p3:L61):Option (Bool×L52×Int×Int×L61):=T141 Ops.std c114 c116 c147 c148 c149 p0 p1 p2 p3 some
theorem sf141 {c114:C114} {c116:C116} {c147:C147} {c148:C148} {c149:C149} (h114:Sp114 c114) (h116:Sp116 c116) (h147:Sp147 c147) (h148:Sp148 c148) (h149:Sp149 c149):Sp141 (F141 c114 c116 c147 c148 c149):=fun p0 p1 p2 p3 y hy=>by
 refine qae (qab (ek114 h114) (qab (ek116 h116) (qab (ek147 h147) (qab (ek148 h148) (qab (ek149 h149) qad))))) 1000000 (fn:=Tryz.f141) (by kernel_rfl) (by kernel_rfl) (X:=X141) (by kernel_rfl) ?_
 rw [eq141]
 exact (nt141 Ops.std c114 c116 c147 c148 c149 p0 p1 p2 p3 some (K19 k0)).trans (by show ob (F141 c114 c116 c147 c148 c149 p0 p1 p2 p3) _=_;rw [hy];rfl)
def X148:Aux:=⟨[],[]⟩
def T148 {R:Type} (B:Ops) (c44:C44) (c114:C114) (c149:C149) (p0:L52) (p1 p2:Int) (p3:L61) (k:(Bool×L52×Int×Int×L61)→Option R):Option R:=ob (c44 p0 (IntKind.wrap .i64 (p1+1)) p2 p3) fun y0=>cond (!y0.1) (k (false,y0.2.1,y0.2.2.1,y0.2.2.2.1,y0.2.2.2.2)) (ob (c114 y0.2.1 y0.2.2.1 y0.2.2.2.1 y0.2.2.2.2) fun y1=>cond (!y1.1 == ([41]:LB)) (ob (c149 2 y1.2.1 y1.2.2.1 y1.2.2.2.1 y1.2.2.2.2) fun y2=>k (y2.1,y2.2.1,y2.2.2.1,y2.2.2.2.1,y2.2.2.2.2)) (k ((true,y1.2.1,IntKind.wrap .i64 (y1.2.2.1+1),y1.2.2.2.1,y1.2.2.2.2))))
theorem eq148 {R:Type} (B:Ops) (c44:C44) (c114:C114) (c149:C149) (p0:L52) (p1 p2:Int) (p3:L61) (k:AV→Objs→Option R) (n:Nat):afun tau B gl0 X148 (ent 44 (e44 c44) (ent 114 (e114 c114) (ent 149 (e149 c149) gnil))) ow Tryz.f148 [.c (.ptr 0 0)] [(0,.box 87 [.list 52 ty52 p0,.int .i64 p1,.own 1002,.int .i64 p2]),(1002,.row 61 ty61 p3)] k n=T148 B c44 c114 c149 p0 p1 p2 p3 (K19 k):=by kernel_rfl
theorem nt148 {R R':Type} (B:Ops) (c44:C44) (c114:C114) (c149:C149) (p0:L52) (p1 p2:Int) (p3:L61) (k0:(Bool×L52×Int×Int×L61)→Option R') (k:R'→Option R):T148 B c44 c114 c149 p0 p1 p2 p3 (fun y=>ob (k0 y) k)=ob (T148 B c44 c114 c149 p0 p1 p2 p3 k0) k:=by
 unfold T148
 repeat' first | exact rfl | apply qac | (apply qai;intro)
def F148 (c44:C44) (c114:C114) (c149:C149) (p0:L52) (p1 p2:Int) (p3:L61):Option (Bool×L52×Int×Int×L61):=T148 Ops.std c44 c114 c149 p0 p1 p2 p3 some
theorem sf148 {c44:C44} {c114:C114} {c149:C149} (h44:Sp44 c44) (h114:Sp114 c114) (h149:Sp149 c149):Sp148 (F148 c44 c114 c149):=fun p0 p1 p2 p3 y hy=>by
 refine qae (qab (ek44 h44) (qab (ek114 h114) (qab (ek149 h149) qad))) 1000000 (fn:=Tryz.f148) (by kernel_rfl) (by kernel_rfl) (X:=X148) (by kernel_rfl) ?_
 rw [eq148]
 exact (nt148 Ops.std c44 c114 c149 p0 p1 p2 p3 some (K19 k0)).trans (by show ob (F148 c44 c114 c149 p0 p1 p2 p3) _=_;rw [hy];rfl)
def X186:Aux:=⟨[(2,([0,4,5,6]++rg 8 30)),(3000010,([0,1,2]++rg 4 28++[33,34,35,36,37]))],[]⟩
inductive S186 where
 | l0 (v0:L52) (v1 v2:Int) (v3:L3) (v4:L61)
 | l1010 (v0:Int) (v1:L52) (v2 v3:Int) (v4:L61) (v5:L3)
def T186 {R:Type} (B:Ops) (c114:C114) (c115:C115) (c116:C116) (c132:C132) (c133:C133) (p0:L52) (p1 p2:Int) (p3:L61) (again:S186→Option R) (k:(Bool×L52×Int×Int×L61)→Option R):Option S186→Option R | none=>again (.l0 p0 p1 p2 (mt (Ty.den (Ty.int .i64))) p3) | some (.l0 v0 v1 v2 v3 v4)=>ob (c133 v0 v1 v2 v4) fun y0=>cond (!y0.1) (k (false,y0.2.1,y0.2.2.1,y0.2.2.2.1,y0.2.2.2.2)) (ob (c114 y0.2.1 y0.2.2.1 y0.2.2.2.1 y0.2.2.2.2) fun y1=>ob (c132 y1.1) fun y2=>cond (B.eq y2 0) (ob (c115 v3) fun y3=>again (.l1010 (Nat.cast y3.length-1) y1.2.1 y1.2.2.1 y1.2.2.2.1 y1.2.2.2.2 y3)) (cond (B.lim (List.length v3+List.length (y2::mt (Ty.den (Ty.int .i64)))) 8) (again (.l0 y1.2.1 (IntKind.wrap .i64 (y1.2.2.1+1)) y1.2.2.2.1 (v3++y2::mt (Ty.den (Ty.int .i64))) y1.2.2.2.2)) none)) | some (.l1010 v0 v1 v2 v3 v4 v5)=>cond (B.lt v0 0) (k (true,v1,v2,v3,v4)) (cond (B.lt v0 (↑v5.length)) (ob (c116 (v5.getD v0.toNat 0) v1 v2 v3 v4) fun y0=>again (.l1010 (v0-1) y0.2.1 y0.2.2.1 y0.2.2.2.1 y0.2.2.2.2 v5)) none)
def E186 (p0:L52) (p1 p2:Int) (p3:L61):S186→List AV×Objs
 | .l0 v0 v1 v2 v3 v4=>(mk 38 [(1,.fn 132 []),(2,.bm 133 [.ptr 0 0]),(3,.c (.ptr 3 0)),(7,.c (.own 7))],[(0,.box 87 [.list 52 ty52 v0,.int .i64 v1,.own 1002,.int .i64 v2]),(3,.box 85 [.ptr 0 0]),(7,.row 3 ty3 v3),(1002,.row 61 ty61 v4)])
 | .l1010 v0 v1 v2 v3 v4 v5=>(mk 38 [(3,.c (.ptr 3 0)),(32,.fn 127 [.ptr 33500 0]),(33,.c (.int .i64 v0))],[(0,.box 87 [.list 52 ty52 v1,.int .i64 v2,.own 1002,.int .i64 v3]),(3,.box 85 [.ptr 0 0]),(1002,.row 61 ty61 v4),(33500,.box 22 [.list 3 ty3 v5])])
def I186:S186→Nat
 | .l0 _ _ _ _ _=>0
 | .l1010 _ _ _ _ _ _=>1010
noncomputable abbrev A186 {R:Type} (B:Ops) (c114:C114) (c115:C115) (c116:C116) (c132:C132) (c133:C133) (p0:L52) (p1 p2:Int) (p3:L61) (k:AV→Objs→Option R) (s:S186) (n:Nat):Option R:=aloop tau B gl0 X186 (ent 114 (e114 c114) (ent 115 (e115 c115) (ent 116 (e116 c116) (ent 132 (e132 c132) (ent 133 (e133 c133) gnil))))) ow [0] Tryz.f79 k (I186 s) (E186 p0 p1 p2 p3 s) n
theorem eq186 {R:Type} (B:Ops) (c114:C114) (c115:C115) (c116:C116) (c132:C132) (c133:C133) (p0:L52) (p1 p2:Int) (p3:L61) (k:AV→Objs→Option R) (n:Nat):afun tau B gl0 X186 (ent 114 (e114 c114) (ent 115 (e115 c115) (ent 116 (e116 c116) (ent 132 (e132 c132) (ent 133 (e133 c133) gnil))))) ow Tryz.f79 [.c (.ptr 0 0),.fn 132 [],.bm 133 [.ptr 0 0]] [(0,.box 87 [.list 52 ty52 p0,.int .i64 p1,.own 1002,.int .i64 p2]),(1002,.row 61 ty61 p3)] k n=T186 B c114 c115 c116 c132 c133 p0 p1 p2 p3 (fun s=>A186 B c114 c115 c116 c132 c133 p0 p1 p2 p3 k s n) (K19 k) none:=by kernel_rfl
theorem el186 {R:Type} (B:Ops) (c114:C114) (c115:C115) (c116:C116) (c132:C132) (c133:C133) (p0:L52) (p1 p2:Int) (p3:L61) (k:AV→Objs→Option R) (n:Nat):∀ s,A186 B c114 c115 c116 c132 c133 p0 p1 p2 p3 k s (n+1)=T186 B c114 c115 c116 c132 c133 p0 p1 p2 p3 (fun s=>A186 B c114 c115 c116 c132 c133 p0 p1 p2 p3 k s n) (K19 k) (some s):=by
 intro s
 cases s<;>kernel_rfl
theorem nt186 {R R':Type} (B:Ops) (c114:C114) (c115:C115) (c116:C116) (c132:C132) (c133:C133) (p0:L52) (p1 p2:Int) (p3:L61) (again:S186→Option R) (again':S186→Option R') (k0:(Bool×L52×Int×Int×L61)→Option R') (k:R'→Option R) (h:∀ s,again s=ob (again' s) k):∀ s,T186 B c114 c115 c116 c132 c133 p0 p1 p2 p3 again (fun y=>ob (k0 y) k) s=ob (T186 B c114 c115 c116 c132 c133 p0 p1 p2 p3 again' k0 s) k:=by
 rintro (_ | x)
 all_goals try cases x
 all_goals (unfold T186;repeat' first | exact rfl | exact h _ | apply qac | (apply qai;intro))
def R186 (c114:C114) (c115:C115) (c116:C116) (c132:C132) (c133:C133) (p0:L52) (p1 p2:Int) (p3:L61):Nat→S186→Option (Bool×L52×Int×Int×L61)
 | 0,_=>none
 | n+1,s=>T186 Ops.std c114 c115 c116 c132 c133 p0 p1 p2 p3 (R186 c114 c115 c116 c132 c133 p0 p1 p2 p3 n) some (some s)
theorem rr186 {R:Type} (c114:C114) (c115:C115) (c116:C116) (c132:C132) (c133:C133) (p0:L52) (p1 p2:Int) (p3:L61) (k:AV→Objs→Option R):∀ (n:Nat) (s:S186),A186 Ops.std c114 c115 c116 c132 c133 p0 p1 p2 p3 k s n=ob (R186 c114 c115 c116 c132 c133 p0 p1 p2 p3 n s) (K19 k)
 | 0,s=>by cases s<;>rfl
 | n+1,s=>by rw [el186];exact nt186 Ops.std c114 c115 c116 c132 c133 p0 p1 p2 p3 _ _ some (K19 k) (rr186 c114 c115 c116 c132 c133 p0 p1 p2 p3 k n) (some s)
def F186 (c114:C114) (c115:C115) (c116:C116) (c132:C132) (c133:C133) (p0:L52) (p1 p2:Int) (p3:L61):Option (Bool×L52×Int×Int×L61):=T186 Ops.std c114 c115 c116 c132 c133 p0 p1 p2 p3 (R186 c114 c115 c116 c132 c133 p0 p1 p2 p3 1000000) some none
theorem sf186 {c114:C114} {c115:C115} {c116:C116} {c132:C132} {c133:C133} (h114:Sp114 c114) (h115:Sp115 c115) (h116:Sp116 c116) (h132:Sp132 c132) (h133:Sp133 c133):Sp186 (F186 c114 c115 c116 c132 c133):=fun p0 p1 p2 p3 y hy=>by
 refine qae (qab (ek114 h114) (qab (ek115 h115) (qab (ek116 h116) (qab (ek132 h132) (qab (ek133 h133) qad))))) 1000000 (fn:=Tryz.f79) (by kernel_rfl) (by kernel_rfl) (X:=X186) (by kernel_rfl) ?_
 rw [eq186]
 exact (nt186 Ops.std c114 c115 c116 c132 c133 p0 p1 p2 p3 _ _ some (K19 k0) (rr186 c114 c115 c116 c132 c133 p0 p1 p2 p3 k0 1000000) none).trans (by show ob (F186 c114 c115 c116 c132 c133 p0 p1 p2 p3) _=_;rw [hy];rfl)
def X187:Aux:=⟨[(3,(rg 4 25))],[]⟩
inductive S187 where
 | l0 (v2:L52) (v3 v4:Int) (v5:L61)
def T187 {R:Type} (B:Ops) (c114:C114) (c116:C116) (c128:C128) (p0:LB) (p1:Int) (p2:L52) (p3 p4:Int) (p5:L61) (again:S187→Option R) (k:(Bool×L52×Int×Int×L61)→Option R):Option S187→Option R | none=>ob (c128 p2 p3 p4 p5) fun y0=>cond (!y0.1) (k (false,y0.2.1,y0.2.2.1,y0.2.2.2.1,y0.2.2.2.2)) (again (.l0 y0.2.1 y0.2.2.1 y0.2.2.2.1 y0.2.2.2.2)) | some (.l0 v2 v3 v4 v5)=>ob (c114 v2 v3 v4 v5) fun y0=>cond (y0.1 == p0) (ob (c128 y0.2.1 (IntKind.wrap .i64 (y0.2.2.1+1)) y0.2.2.2.1 y0.2.2.2.2) fun y1=>cond (!y1.1) (k (false,y1.2.1,y1.2.2.1,y1.2.2.2.1,y1.2.2.2.2)) (ob (c116 p1 y1.2.1 y1.2.2.1 y1.2.2.2.1 y1.2.2.2.2) fun y2=>again (.l0 y2.2.1 y2.2.2.1 y2.2.2.2.1 y2.2.2.2.2))) (k (true,y0.2.1,y0.2.2.1,y0.2.2.2.1,y0.2.2.2.2))
def E187 (p0:LB) (p1:Int) (p2:L52) (p3 p4:Int) (p5:L61):S187→List AV×Objs
 | .l0 v2 v3 v4 v5=>(mk 29 [(0,.c (.ptr 0 0)),(1,.c (.str p0)),(2,.c (.int .i64 p1)),(3,.bm 128 [.ptr 0 0])],[(0,.box 87 [.list 52 ty52 v2,.int .i64 v3,.own 1002,.int .i64 v4]),(1002,.row 61 ty61 v5)])
def I187:S187→Nat
 | .l0 _ _ _ _=>0
noncomputable abbrev A187 {R:Type} (B:Ops) (c114:C114) (c116:C116) (c128:C128) (p0:LB) (p1:Int) (p2:L52) (p3 p4:Int) (p5:L61) (k:AV→Objs→Option R) (s:S187) (n:Nat):Option R:=aloop tau B gl0 X187 (ent 114 (e114 c114) (ent 116 (e116 c116) (ent 128 (e128 c128) gnil))) ow [0] Tryz.f117 k (I187 s) (E187 p0 p1 p2 p3 p4 p5 s) n
theorem eq187 {R:Type} (B:Ops) (c114:C114) (c116:C116) (c128:C128) (p0:LB) (p1:Int) (p2:L52) (p3 p4:Int) (p5:L61) (k:AV→Objs→Option R) (n:Nat):afun tau B gl0 X187 (ent 114 (e114 c114) (ent 116 (e116 c116) (ent 128 (e128 c128) gnil))) ow Tryz.f117 [.c (.ptr 0 0),.c (.str p0),.c (.int .i64 p1),.bm 128 [.ptr 0 0]] [(0,.box 87 [.list 52 ty52 p2,.int .i64 p3,.own 1002,.int .i64 p4]),(1002,.row 61 ty61 p5)] k n=T187 B c114 c116 c128 p0 p1 p2 p3 p4 p5 (fun s=>A187 B c114 c116 c128 p0 p1 p2 p3 p4 p5 k s n) (K19 k) none:=by kernel_rfl
theorem el187 {R:Type} (B:Ops) (c114:C114) (c116:C116) (c128:C128) (p0:LB) (p1:Int) (p2:L52) (p3 p4:Int) (p5:L61) (k:AV→Objs→Option R) (n:Nat):∀ s,A187 B c114 c116 c128 p0 p1 p2 p3 p4 p5 k s (n+1)=T187 B c114 c116 c128 p0 p1 p2 p3 p4 p5 (fun s=>A187 B c114 c116 c128 p0 p1 p2 p3 p4 p5 k s n) (K19 k) (some s):=by
 intro s
 cases s<;>kernel_rfl
theorem nt187 {R R':Type} (B:Ops) (c114:C114) (c116:C116) (c128:C128) (p0:LB) (p1:Int) (p2:L52) (p3 p4:Int) (p5:L61) (again:S187→Option R) (again':S187→Option R') (k0:(Bool×L52×Int×Int×L61)→Option R') (k:R'→Option R) (h:∀ s,again s=ob (again' s) k):∀ s,T187 B c114 c116 c128 p0 p1 p2 p3 p4 p5 again (fun y=>ob (k0 y) k) s=ob (T187 B c114 c116 c128 p0 p1 p2 p3 p4 p5 again' k0 s) k:=by
 rintro (_ | x)
 all_goals try cases x
 all_goals (unfold T187;repeat' first | exact rfl | exact h _ | apply qac | (apply qai;intro))
def R187 (c114:C114) (c116:C116) (c128:C128) (p0:LB) (p1:Int) (p2:L52) (p3 p4:Int) (p5:L61):Nat→S187→Option (Bool×L52×Int×Int×L61)
 | 0,_=>none
 | n+1,s=>T187 Ops.std c114 c116 c128 p0 p1 p2 p3 p4 p5 (R187 c114 c116 c128 p0 p1 p2 p3 p4 p5 n) some (some s)
theorem rr187 {R:Type} (c114:C114) (c116:C116) (c128:C128) (p0:LB) (p1:Int) (p2:L52) (p3 p4:Int) (p5:L61) (k:AV→Objs→Option R):∀ (n:Nat) (s:S187),A187 Ops.std c114 c116 c128 p0 p1 p2 p3 p4 p5 k s n=ob (R187 c114 c116 c128 p0 p1 p2 p3 p4 p5 n s) (K19 k)
 | 0,s=>by cases s<;>rfl
 | n+1,s=>by rw [el187];exact nt187 Ops.std c114 c116 c128 p0 p1 p2 p3 p4 p5 _ _ some (K19 k) (rr187 c114 c116 c128 p0 p1 p2 p3 p4 p5 k n) (some s)
def F187 (c114:C114) (c116:C116) (c128:C128) (p0:LB) (p1:Int) (p2:L52) (p3 p4:Int) (p5:L61):Option (Bool×L52×Int×Int×L61):=T187 Ops.std c114 c116 c128 p0 p1 p2 p3 p4 p5 (R187 c114 c116 c128 p0 p1 p2 p3 p4 p5 1000000) some none
theorem sf187 {c114:C114} {c116:C116} {c128:C128} (h114:Sp114 c114) (h116:Sp116 c116) (h128:Sp128 c128):Sp187 (F187 c114 c116 c128):=fun p0 p1 p2 p3 p4 p5 y hy=>by
 refine qae (qab (ek114 h114) (qab (ek116 h116) (qab (ek128 h128) qad))) 1000000 (fn:=Tryz.f117) (by kernel_rfl) (by kernel_rfl) (X:=X187) (by kernel_rfl) ?_
 rw [eq187]
 exact (nt187 Ops.std c114 c116 c128 p0 p1 p2 p3 p4 p5 _ _ some (K19 k0) (rr187 c114 c116 c128 p0 p1 p2 p3 p4 p5 k0 1000000) none).trans (by show ob (F187 c114 c116 c128 p0 p1 p2 p3 p4 p5) _=_;rw [hy];rfl)
def X117:Aux:=⟨[(3,(rg 4 25))],[]⟩
inductive S117 where
 | l0 (v2:L52) (v3 v4:Int) (v5:L61)
def T117 {R:Type} (B:Ops) (c114:C114) (c116:C116) (c118:C118) (p0:LB) (p1:Int) (p2:L52) (p3 p4:Int) (p5:L61) (again:S117→Option R) (k:(Bool×L52×Int×Int×L61)→Option R):Option S117→Option R | none=>ob (c118 p2 p3 p4 p5) fun y0=>cond (!y0.1) (k (false,y0.2.1,y0.2.2.1,y0.2.2.2.1,y0.2.2.2.2)) (again (.l0 y0.2.1 y0.2.2.1 y0.2.2.2.1 y0.2.2.2.2)) | some (.l0 v2 v3 v4 v5)=>ob (c114 v2 v3 v4 v5) fun y0=>cond (y0.1 == p0) (ob (c118 y0.2.1 (IntKind.wrap .i64 (y0.2.2.1+1)) y0.2.2.2.1 y0.2.2.2.2) fun y1=>cond (!y1.1) (k (false,y1.2.1,y1.2.2.1,y1.2.2.2.1,y1.2.2.2.2)) (ob (c116 p1 y1.2.1 y1.2.2.1 y1.2.2.2.1 y1.2.2.2.2) fun y2=>again (.l0 y2.2.1 y2.2.2.1 y2.2.2.2.1 y2.2.2.2.2))) (k (true,y0.2.1,y0.2.2.1,y0.2.2.2.1,y0.2.2.2.2))
def E117 (p0:LB) (p1:Int) (p2:L52) (p3 p4:Int) (p5:L61):S117→List AV×Objs
 | .l0 v2 v3 v4 v5=>(mk 29 [(0,.c (.ptr 0 0)),(1,.c (.str p0)),(2,.c (.int .i64 p1)),(3,.bm 118 [.ptr 0 0])],[(0,.box 87 [.list 52 ty52 v2,.int .i64 v3,.own 1002,.int .i64 v4]),(1002,.row 61 ty61 v5)])
def I117:S117→Nat
 | .l0 _ _ _ _=>0
noncomputable abbrev A117 {R:Type} (B:Ops) (c114:C114) (c116:C116) (c118:C118) (p0:LB) (p1:Int) (p2:L52) (p3 p4:Int) (p5:L61) (k:AV→Objs→Option R) (s:S117) (n:Nat):Option R:=aloop tau B gl0 X117 (ent 114 (e114 c114) (ent 116 (e116 c116) (ent 118 (e118 c118) gnil))) ow [0] Tryz.f117 k (I117 s) (E117 p0 p1 p2 p3 p4 p5 s) n
theorem eq117 {R:Type} (B:Ops) (c114:C114) (c116:C116) (c118:C118) (p0:LB) (p1:Int) (p2:L52) (p3 p4:Int) (p5:L61) (k:AV→Objs→Option R) (n:Nat):afun tau B gl0 X117 (ent 114 (e114 c114) (ent 116 (e116 c116) (ent 118 (e118 c118) gnil))) ow Tryz.f117 [.c (.ptr 0 0),.c (.str p0),.c (.int .i64 p1),.bm 118 [.ptr 0 0]] [(0,.box 87 [.list 52 ty52 p2,.int .i64 p3,.own 1002,.int .i64 p4]),(1002,.row 61 ty61 p5)] k n=T117 B c114 c116 c118 p0 p1 p2 p3 p4 p5 (fun s=>A117 B c114 c116 c118 p0 p1 p2 p3 p4 p5 k s n) (K19 k) none:=by kernel_rfl
theorem el117 {R:Type} (B:Ops) (c114:C114) (c116:C116) (c118:C118) (p0:LB) (p1:Int) (p2:L52) (p3 p4:Int) (p5:L61) (k:AV→Objs→Option R) (n:Nat):∀ s,A117 B c114 c116 c118 p0 p1 p2 p3 p4 p5 k s (n+1)=T117 B c114 c116 c118 p0 p1 p2 p3 p4 p5 (fun s=>A117 B c114 c116 c118 p0 p1 p2 p3 p4 p5 k s n) (K19 k) (some s):=by
 intro s
 cases s<;>kernel_rfl
theorem nt117 {R R':Type} (B:Ops) (c114:C114) (c116:C116) (c118:C118) (p0:LB) (p1:Int) (p2:L52) (p3 p4:Int) (p5:L61) (again:S117→Option R) (again':S117→Option R') (k0:(Bool×L52×Int×Int×L61)→Option R') (k:R'→Option R) (h:∀ s,again s=ob (again' s) k):∀ s,T117 B c114 c116 c118 p0 p1 p2 p3 p4 p5 again (fun y=>ob (k0 y) k) s=ob (T117 B c114 c116 c118 p0 p1 p2 p3 p4 p5 again' k0 s) k:=by
 rintro (_ | x)
 all_goals try cases x
 all_goals (unfold T117;repeat' first | exact rfl | exact h _ | apply qac | (apply qai;intro))
def R117 (c114:C114) (c116:C116) (c118:C118) (p0:LB) (p1:Int) (p2:L52) (p3 p4:Int) (p5:L61):Nat→S117→Option (Bool×L52×Int×Int×L61)
 | 0,_=>none
 | n+1,s=>T117 Ops.std c114 c116 c118 p0 p1 p2 p3 p4 p5 (R117 c114 c116 c118 p0 p1 p2 p3 p4 p5 n) some (some s)
theorem rr117 {R:Type} (c114:C114) (c116:C116) (c118:C118) (p0:LB) (p1:Int) (p2:L52) (p3 p4:Int) (p5:L61) (k:AV→Objs→Option R):∀ (n:Nat) (s:S117),A117 Ops.std c114 c116 c118 p0 p1 p2 p3 p4 p5 k s n=ob (R117 c114 c116 c118 p0 p1 p2 p3 p4 p5 n s) (K19 k)
 | 0,s=>by cases s<;>rfl
 | n+1,s=>by rw [el117];exact nt117 Ops.std c114 c116 c118 p0 p1 p2 p3 p4 p5 _ _ some (K19 k) (rr117 c114 c116 c118 p0 p1 p2 p3 p4 p5 k n) (some s)
def F117 (c114:C114) (c116:C116) (c118:C118) (p0:LB) (p1:Int) (p2:L52) (p3 p4:Int) (p5:L61):Option (Bool×L52×Int×Int×L61):=T117 Ops.std c114 c116 c118 p0 p1 p2 p3 p4 p5 (R117 c114 c116 c118 p0 p1 p2 p3 p4 p5 1000000) some none
theorem sf117 {c114:C114} {c116:C116} {c118:C118} (h114:Sp114 c114) (h116:Sp116 c116) (h118:Sp118 c118):Sp117 (F117 c114 c116 c118):=fun p0 p1 p2 p3 p4 p5 y hy=>by
 refine qae (qab (ek114 h114) (qab (ek116 h116) (qab (ek118 h118) qad))) 1000000 (fn:=Tryz.f117) (by kernel_rfl) (by kernel_rfl) (X:=X117) (by kernel_rfl) ?_
 rw [eq117]
 exact (nt117 Ops.std c114 c116 c118 p0 p1 p2 p3 p4 p5 _ _ some (K19 k0) (rr117 c114 c116 c118 p0 p1 p2 p3 p4 p5 k0 1000000) none).trans (by show ob (F117 c114 c116 c118 p0 p1 p2 p3 p4 p5) _=_;rw [hy];rfl)
def X79:Aux:=⟨[(2,([0,4,5,6]++rg 8 30)),(3000010,([0,1,2]++rg 4 28++[33,34,35,36,37]))],[]⟩
inductive S79 where
 | l0 (v0:L52) (v1 v2:Int) (v3:L3) (v4:L61)
 | l1010 (v0:Int) (v1:L52) (v2 v3:Int) (v4:L61) (v5:L3)
def T79 {R:Type} (B:Ops) (c114:C114) (c115:C115) (c116:C116) (c80:C80) (c81:C81) (p0:L52) (p1 p2:Int) (p3:L61) (again:S79→Option R) (k:(Bool×L52×Int×Int×L61)→Option R):Option S79→Option R | none=>again (.l0 p0 p1 p2 (mt (Ty.den (Ty.int .i64))) p3) | some (.l0 v0 v1 v2 v3 v4)=>ob (c81 v0 v1 v2 v4) fun y0=>cond (!y0.1) (k (false,y0.2.1,y0.2.2.1,y0.2.2.2.1,y0.2.2.2.2)) (ob (c114 y0.2.1 y0.2.2.1 y0.2.2.2.1 y0.2.2.2.2) fun y1=>ob (c80 y1.1) fun y2=>cond (B.eq y2 0) (ob (c115 v3) fun y3=>again (.l1010 (Nat.cast y3.length-1) y1.2.1 y1.2.2.1 y1.2.2.2.1 y1.2.2.2.2 y3)) (cond (B.lim (List.length v3+List.length (y2::mt (Ty.den (Ty.int .i64)))) 8) (again (.l0 y1.2.1 (IntKind.wrap .i64 (y1.2.2.1+1)) y1.2.2.2.1 (v3++y2::mt (Ty.den (Ty.int .i64))) y1.2.2.2.2)) none)) | some (.l1010 v0 v1 v2 v3 v4 v5)=>cond (B.lt v0 0) (k (true,v1,v2,v3,v4)) (cond (B.lt v0 (↑v5.length)) (ob (c116 (v5.getD v0.toNat 0) v1 v2 v3 v4) fun y0=>again (.l1010 (v0-1) y0.2.1 y0.2.2.1 y0.2.2.2.1 y0.2.2.2.2 v5)) none)
def E79 (p0:L52) (p1 p2:Int) (p3:L61):S79→List AV×Objs
 | .l0 v0 v1 v2 v3 v4=>(mk 38 [(1,.fn 80 []),(2,.bm 81 [.ptr 0 0]),(3,.c (.ptr 3 0)),(7,.c (.own 7))],[(0,.box 87 [.list 52 ty52 v0,.int .i64 v1,.own 1002,.int .i64 v2]),(3,.box 85 [.ptr 0 0]),(7,.row 3 ty3 v3),(1002,.row 61 ty61 v4)])
 | .l1010 v0 v1 v2 v3 v4 v5=>(mk 38 [(3,.c (.ptr 3 0)),(32,.fn 127 [.ptr 33500 0]),(33,.c (.int .i64 v0))],[(0,.box 87 [.list 52 ty52 v1,.int .i64 v2,.own 1002,.int .i64 v3]),(3,.box 85 [.ptr 0 0]),(1002,.row 61 ty61 v4),(33500,.box 22 [.list 3 ty3 v5])])
def I79:S79→Nat
 | .l0 _ _ _ _ _=>0
 | .l1010 _ _ _ _ _ _=>1010
noncomputable abbrev A79 {R:Type} (B:Ops) (c114:C114) (c115:C115) (c116:C116) (c80:C80) (c81:C81) (p0:L52) (p1 p2:Int) (p3:L61) (k:AV→Objs→Option R) (s:S79) (n:Nat):Option R:=aloop tau B gl0 X79 (ent 114 (e114 c114) (ent 115 (e115 c115) (ent 116 (e116 c116) (ent 80 (e80 c80) (ent 81 (e81 c81) gnil))))) ow [0] Tryz.f79 k (I79 s) (E79 p0 p1 p2 p3 s) n
theorem eq79 {R:Type} (B:Ops) (c114:C114) (c115:C115) (c116:C116) (c80:C80) (c81:C81) (p0:L52) (p1 p2:Int) (p3:L61) (k:AV→Objs→Option R) (n:Nat):afun tau B gl0 X79 (ent 114 (e114 c114) (ent 115 (e115 c115) (ent 116 (e116 c116) (ent 80 (e80 c80) (ent 81 (e81 c81) gnil))))) ow Tryz.f79 [.c (.ptr 0 0),.fn 80 [],.bm 81 [.ptr 0 0]] [(0,.box 87 [.list 52 ty52 p0,.int .i64 p1,.own 1002,.int .i64 p2]),(1002,.row 61 ty61 p3)] k n=T79 B c114 c115 c116 c80 c81 p0 p1 p2 p3 (fun s=>A79 B c114 c115 c116 c80 c81 p0 p1 p2 p3 k s n) (K19 k) none:=by kernel_rfl
theorem el79 {R:Type} (B:Ops) (c114:C114) (c115:C115) (c116:C116) (c80:C80) (c81:C81) (p0:L52) (p1 p2:Int) (p3:L61) (k:AV→Objs→Option R) (n:Nat):∀ s,A79 B c114 c115 c116 c80 c81 p0 p1 p2 p3 k s (n+1)=T79 B c114 c115 c116 c80 c81 p0 p1 p2 p3 (fun s=>A79 B c114 c115 c116 c80 c81 p0 p1 p2 p3 k s n) (K19 k) (some s):=by
 intro s
 cases s<;>kernel_rfl
theorem nt79 {R R':Type} (B:Ops) (c114:C114) (c115:C115) (c116:C116) (c80:C80) (c81:C81) (p0:L52) (p1 p2:Int) (p3:L61) (again:S79→Option R) (again':S79→Option R') (k0:(Bool×L52×Int×Int×L61)→Option R') (k:R'→Option R) (h:∀ s,again s=ob (again' s) k):∀ s,T79 B c114 c115 c116 c80 c81 p0 p1 p2 p3 again (fun y=>ob (k0 y) k) s=ob (T79 B c114 c115 c116 c80 c81 p0 p1 p2 p3 again' k0 s) k:=by
 rintro (_ | x)
 all_goals try cases x
 all_goals (unfold T79;repeat' first | exact rfl | exact h _ | apply qac | (apply qai;intro))
def R79 (c114:C114) (c115:C115) (c116:C116) (c80:C80) (c81:C81) (p0:L52) (p1 p2:Int) (p3:L61):Nat→S79→Option (Bool×L52×Int×Int×L61)
 | 0,_=>none
 | n+1,s=>T79 Ops.std c114 c115 c116 c80 c81 p0 p1 p2 p3 (R79 c114 c115 c116 c80 c81 p0 p1 p2 p3 n) some (some s)
theorem rr79 {R:Type} (c114:C114) (c115:C115) (c116:C116) (c80:C80) (c81:C81) (p0:L52) (p1 p2:Int) (p3:L61) (k:AV→Objs→Option R):∀ (n:Nat) (s:S79),A79 Ops.std c114 c115 c116 c80 c81 p0 p1 p2 p3 k s n=ob (R79 c114 c115 c116 c80 c81 p0 p1 p2 p3 n s) (K19 k)
 | 0,s=>by cases s<;>rfl
 | n+1,s=>by rw [el79];exact nt79 Ops.std c114 c115 c116 c80 c81 p0 p1 p2 p3 _ _ some (K19 k) (rr79 c114 c115 c116 c80 c81 p0 p1 p2 p3 k n) (some s)
def F79 (c114:C114) (c115:C115) (c116:C116) (c80:C80) (c81:C81) (p0:L52) (p1 p2:Int) (p3:L61):Option (Bool×L52×Int×Int×L61):=T79 Ops.std c114 c115 c116 c80 c81 p0 p1 p2 p3 (R79 c114 c115 c116 c80 c81 p0 p1 p2 p3 1000000) some none
theorem sf79 {c114:C114} {c115:C115} {c116:C116} {c80:C80} {c81:C81} (h114:Sp114 c114) (h115:Sp115 c115) (h116:Sp116 c116) (h80:Sp80 c80) (h81:Sp81 c81):Sp79 (F79 c114 c115 c116 c80 c81):=fun p0 p1 p2 p3 y hy=>by
 refine qae (qab (ek114 h114) (qab (ek115 h115) (qab (ek116 h116) (qab (ek80 h80) (qab (ek81 h81) qad))))) 1000000 (fn:=Tryz.f79) (by kernel_rfl) (by kernel_rfl) (X:=X79) (by kernel_rfl) ?_
 rw [eq79]
 exact (nt79 Ops.std c114 c115 c116 c80 c81 p0 p1 p2 p3 _ _ some (K19 k0) (rr79 c114 c115 c116 c80 c81 p0 p1 p2 p3 k0 1000000) none).trans (by show ob (F79 c114 c115 c116 c80 c81 p0 p1 p2 p3) _=_;rw [hy];rfl)
noncomputable def Rec44:Nat→(L52→Int→Int→L61→Option (Bool×L52×Int×Int×L61))×(L52→Int→Int→L61→Option (Bool×L52×Int×Int×L61))×(L52→Int→Int→L61→Option (Bool×L52×Int×Int×L61))×(L52→Int→Int→L61→Option (Bool×L52×Int×Int×L61))×(L52→Int→Int→L61→Option (Bool×L52×Int×Int×L61))×(L52→Int→Int→L61→Option (Bool×L52×Int×Int×L61))×(L52→Int→Int→L61→Option (Bool×L52×Int×Int×L61))×(L52→Int→Int→L61→Option (Bool×L52×Int×Int×L61))×(LB→Int→L52→Int→Int→L61→Option (Bool×L52×Int×Int×L61))×(LB→Int→L52→Int→Int→L61→Option (Bool×L52×Int×Int×L61))×(L52→Int→Int→L61→Option (Bool×L52×Int×Int×L61))
 | 0=>(fun _ _ _ _=>none,fun _ _ _ _=>none,fun _ _ _ _=>none,fun _ _ _ _=>none,fun _ _ _ _=>none,fun _ _ _ _=>none,fun _ _ _ _=>none,fun _ _ _ _=>none,fun _ _ _ _ _ _=>none,fun _ _ _ _ _ _=>none,fun _ _ _ _=>none)
 | d+1=>(F44 (Rec44 d).2.1 (Rec44 d).2.2.2.2.2.2.2.2.2.2 M80,F81 (Rec44 d).2.2.1 (Rec44 d).2.2.2.2.2.2.2.2.2.1,F118 (Rec44 d).2.2.2.1 (Rec44 d).2.2.2.2.2.2.2.2.1,F128 (Rec44 d).2.2.2.2.1 (Rec44 d).2.2.2.2.2.2.2.1 M132,F133 M114 M140 (Rec44 d).2.2.2.2.2.1 M115 M116,F141 M114 M116 M147 (Rec44 d).2.2.2.2.2.2.1 M149,F148 (Rec44 d).1 M114 M149,F186 M114 M115 M116 M132 (Rec44 d).2.2.2.2.1,F187 M114 M116 (Rec44 d).2.2.2.1,F117 M114 M116 (Rec44 d).2.2.1,F79 M114 M115 M116 M80 (Rec44 d).2.1)
theorem rec44:∀ d,Sp44 (Rec44 d).1∧Sp81 (Rec44 d).2.1∧Sp118 (Rec44 d).2.2.1∧Sp128 (Rec44 d).2.2.2.1∧Sp133 (Rec44 d).2.2.2.2.1∧Sp141 (Rec44 d).2.2.2.2.2.1∧Sp148 (Rec44 d).2.2.2.2.2.2.1∧Sp186 (Rec44 d).2.2.2.2.2.2.2.1∧Sp187 (Rec44 d).2.2.2.2.2.2.2.2.1∧Sp117 (Rec44 d).2.2.2.2.2.2.2.2.2.1∧Sp79 (Rec44 d).2.2.2.2.2.2.2.2.2.2
 | 0=>⟨(fun p0 p1 p2 p3 y (h:(none:Option (Bool×L52×Int×Int×L61))=some y)=>by cases h),(fun p0 p1 p2 p3 y (h:(none:Option (Bool×L52×Int×Int×L61))=some y)=>by cases h),(fun p0 p1 p2 p3 y (h:(none:Option (Bool×L52×Int×Int×L61))=some y)=>by cases h),(fun p0 p1 p2 p3 y (h:(none:Option (Bool×L52×Int×Int×L61))=some y)=>by cases h),(fun p0 p1 p2 p3 y (h:(none:Option (Bool×L52×Int×Int×L61))=some y)=>by cases h),(fun p0 p1 p2 p3 y (h:(none:Option (Bool×L52×Int×Int×L61))=some y)=>by cases h),(fun p0 p1 p2 p3 y (h:(none:Option (Bool×L52×Int×Int×L61))=some y)=>by cases h),(fun p0 p1 p2 p3 y (h:(none:Option (Bool×L52×Int×Int×L61))=some y)=>by cases h),(fun p0 p1 p2 p3 p4 p5 y (h:(none:Option (Bool×L52×Int×Int×L61))=some y)=>by cases h),(fun p0 p1 p2 p3 p4 p5 y (h:(none:Option (Bool×L52×Int×Int×L61))=some y)=>by cases h),(fun p0 p1 p2 p3 y (h:(none:Option (Bool×L52×Int×Int×L61))=some y)=>by cases h)⟩
 | d+1=>⟨sf44 (rec44 d).2.1 (rec44 d).2.2.2.2.2.2.2.2.2.2 sm80,sf81 (rec44 d).2.2.1 (rec44 d).2.2.2.2.2.2.2.2.2.1,sf118 (rec44 d).2.2.2.1 (rec44 d).2.2.2.2.2.2.2.2.1,sf128 (rec44 d).2.2.2.2.1 (rec44 d).2.2.2.2.2.2.2.1 sm132,sf133 sm114 sm140 (rec44 d).2.2.2.2.2.1 sm115 sm116,sf141 sm114 sm116 sm147 (rec44 d).2.2.2.2.2.2.1 sm149,sf148 (rec44 d).1 sm114 sm149,sf186 sm114 sm115 sm116 sm132 (rec44 d).2.2.2.2.1,sf187 sm114 sm116 (rec44 d).2.2.2.1,sf117 sm114 sm116 (rec44 d).2.2.1,sf79 sm114 sm115 sm116 sm80 (rec44 d).2.1⟩
noncomputable def M44:C44:=(Rec44 1000000).1
theorem sm44:Sp44 M44:=(rec44 1000000).1
end Go.Proofs.YtkmpkebaloejhaaGreatDoor.Av
