/- Twins of functions,printed by gen.py. Conditions: none. -/
import Derived.Test.YtkmpkebaloejhaaGreatDoorFr2
import Derived.KernelRfl
set_option linter.unusedSimpArgs false
set_option linter.unusedVariables false
set_option maxRecDepth 100000
set_option maxHeartbeats 8000000
namespace Go.Proofs.YtkmpkebaloejhaaGreatDoor.Av
open Go
def X17:Aux:=⟨[],[(6,.lin (rg 0 15)),(8,.lin (rg 0 11))]⟩
def T17 {R:Type} (B:Ops) (c43:C43) (c44:C44) (p0:LB) (k:(Int×Int×L61)→Option R):Option R:=ob (c43 p0) fun y0=>cond (!B.eq y0.1 0) (k ((y0.1,y0.2.1,mt (Ty.den ty61)))) (ob (c44 y0.2.2 0 0 (mt (Ty.den ty61))) fun y1=>cond (!y1.1) (cond (B.inb y1.2.2.1 (List.length y0.2.2)) (k ((y1.2.2.2.1,(((List.getD y0.2.2 (Int.toNat y1.2.2.1) ty52.dflt).2).2).2,mt (Ty.den ty61)))) none) (cond (B.inb y1.2.2.1 (List.length y0.2.2)) (cond (!B.eq (List.getD y0.2.2 (Int.toNat y1.2.2.1) ty52.dflt).1 5) (cond (B.inb y1.2.2.1 (List.length y0.2.2)) (k ((2,(((List.getD y0.2.2 (Int.toNat y1.2.2.1) ty52.dflt).2).2).2,mt (Ty.den ty61)))) none) (cond (B.lt 24 (Nat.cast (List.length y1.2.2.2.2))) (k ((13,0,mt (Ty.den ty61)))) (k (0,0,y1.2.2.2.2)))) none))
abbrev K24 {R:Type} (k:AV→Objs→Option R) (y:(Int×Int×L61)):Option R:=k (.tup [(false,[.own 501000]),(false,[.int .i64 y.1]),(false,[.int .i64 y.2.1])]) [(501000,.row 61 ty61 y.2.2)]
theorem eq17 {R:Type} (B:Ops) (c43:C43) (c44:C44) (p0:LB) (k:AV→Objs→Option R) (n:Nat):afun tau B gl0 X17 (ent 43 (e43 c43) (ent 44 (e44 c44) gnil)) ow Tryz.f17 [.c (.str p0)] [] k n=T17 B c43 c44 p0 (K24 k):=by kernel_rfl
theorem nt17 {R R':Type} (B:Ops) (c43:C43) (c44:C44) (p0:LB) (k0:(Int×Int×L61)→Option R') (k:R'→Option R):T17 B c43 c44 p0 (fun y=>ob (k0 y) k)=ob (T17 B c43 c44 p0 k0) k:=by
 unfold T17
 repeat' first | exact rfl | apply qac | (apply qai;intro)
def F17 (c43:C43) (c44:C44) (p0:LB):Option (Int×Int×L61):=T17 Ops.std c43 c44 p0 some
abbrev C17:Type:=LB→Option (Int×Int×L61)
def e17 {R:Type} (c:C17):Ent R:=eG [.aC .cS] [] fun v k=>ob (c v.1) (K24 k)
abbrev Sp17 (c:C17):Prop:=∀ (p0:LB) (y:Int×Int×L61),c p0=some y→Spec Tryz.prog gl0 17 [.c (.str p0)] [] (.tup [(false,[.own 501000]),(false,[.int .i64 y.1]),(false,[.int .i64 y.2.1])]) [(501000,.row 61 ty61 y.2.2)]
theorem ek17 {R:Type} {c:C17} (hs:Sp17 c):EOk 17 (e17 (R:=R) c):=qak fun v=>hs v.1
theorem sf17 {c43:C43} {c44:C44} (h43:Sp43 c43) (h44:Sp44 c44):Sp17 (F17 c43 c44):=fun p0 y hy=>by
 refine qae (qab (ek43 h43) (qab (ek44 h44) qad)) 1000000 (fn:=Tryz.f17) (by kernel_rfl) (by kernel_rfl) (X:=X17) (by kernel_rfl) ?_
 rw [eq17]
 exact (nt17 Ops.std c43 c44 p0 some (K24 k0)).trans (by show ob (F17 c43 c44 p0) _=_;rw [hy];rfl)
noncomputable def M17:C17:=F17 M43 M44
theorem sm17:Sp17 M17:=sf17 sm43 sm44
def X82:Aux:=⟨[],[(1,.lin (rg 0 28))]⟩
def T82 {R:Type} (B:Ops) (p0:LB) (p1:L52) (p2 p3 p4:Int) (p5:L61) (k:(Bool×L52×Int×Int×Int×L61)→Option R):Option R:=cond (B.inb p2 p1.length) (cond (B.eq (p1.getD p2.toNat ty52.dflt).1 4) (cond (B.inb p2 p1.length) (k ((((p1.getD p2.toNat ty52.dflt).2).1 == p0,p1,p2,p3,p4,p5))) none) (k (false,p1,p2,p3,p4,p5))) none
abbrev K25 {R:Type} (k:AV→Objs→Option R) (y:(Bool×L52×Int×Int×Int×L61)):Option R:=k (.c (.bool y.1)) [(0,.box 49 [.list 52 ty52 y.2.1,.int .i64 y.2.2.1,.own 1002,.int .i64 y.2.2.2.1,.int .i64 y.2.2.2.2.1]),(1002,.row 61 ty61 y.2.2.2.2.2)]
theorem eq82 {R:Type} (B:Ops) (p0:LB) (p1:L52) (p2 p3 p4:Int) (p5:L61) (k:AV→Objs→Option R) (n:Nat):afun tau B gl0 X82 gnil ow Tryz.f82 [.c (.ptr 0 0),.c (.str p0)] [(0,.box 49 [.list 52 ty52 p1,.int .i64 p2,.own 1002,.int .i64 p3,.int .i64 p4]),(1002,.row 61 ty61 p5)] k n=T82 B p0 p1 p2 p3 p4 p5 (K25 k):=by kernel_rfl
theorem nt82 {R R':Type} (B:Ops) (p0:LB) (p1:L52) (p2 p3 p4:Int) (p5:L61) (k0:(Bool×L52×Int×Int×Int×L61)→Option R') (k:R'→Option R):T82 B p0 p1 p2 p3 p4 p5 (fun y=>ob (k0 y) k)=ob (T82 B p0 p1 p2 p3 p4 p5 k0) k:=by
 unfold T82
 repeat' first | exact rfl | apply qac | (apply qai;intro)
def F82 (p0:LB) (p1:L52) (p2 p3 p4:Int) (p5:L61):Option (Bool×L52×Int×Int×Int×L61):=T82 Ops.std p0 p1 p2 p3 p4 p5 some
abbrev C82:Type:=LB→L52→Int→Int→Int→L61→Option (Bool×L52×Int×Int×Int×L61)
def e82 {R:Type} (c:C82):Ent R:=eG [.aC (.cP 0),.aC .cS] [.oB 0 49 [.cL 52 ty52,.cI .i64,.cO 1002,.cI .i64,.cI .i64],.oR 1002 61 ty61] fun v k=>ob (c v.1 v.2.1 v.2.2.1 v.2.2.2.1 v.2.2.2.2.1 v.2.2.2.2.2.1) (K25 k)
abbrev Sp82 (c:C82):Prop:=∀ (p0:LB) (p1:L52) (p2 p3 p4:Int) (p5:L61) (y:Bool×L52×Int×Int×Int×L61),c p0 p1 p2 p3 p4 p5=some y→Spec Tryz.prog gl0 82 [.c (.ptr 0 0),.c (.str p0)] [(0,.box 49 [.list 52 ty52 p1,.int .i64 p2,.own 1002,.int .i64 p3,.int .i64 p4]),(1002,.row 61 ty61 p5)] (.c (.bool y.1)) [(0,.box 49 [.list 52 ty52 y.2.1,.int .i64 y.2.2.1,.own 1002,.int .i64 y.2.2.2.1,.int .i64 y.2.2.2.2.1]),(1002,.row 61 ty61 y.2.2.2.2.2)]
theorem ek82 {R:Type} {c:C82} (hs:Sp82 c):EOk 82 (e82 (R:=R) c):=qak fun v=>hs v.1 v.2.1 v.2.2.1 v.2.2.2.1 v.2.2.2.2.1 v.2.2.2.2.2.1
theorem sf82:Sp82 (F82):=fun p0 p1 p2 p3 p4 p5 y hy=>by
 refine qae qad 1000000 (fn:=Tryz.f82) (by kernel_rfl) (by kernel_rfl) (X:=X82) (by kernel_rfl) ?_
 rw [eq82]
 exact (nt82 Ops.std p0 p1 p2 p3 p4 p5 some (K25 k0)).trans (by show ob (F82 p0 p1 p2 p3 p4 p5) _=_;rw [hy];rfl)
noncomputable def M82:C82:=F82
theorem sm82:Sp82 M82:=sf82
def X20:Aux:=⟨[],[]⟩
def T20 {R:Type} (B:Ops) (p0 p1:Int) (p2:L52) (p3 p4 p5:Int) (p6:L61) (k:(L52×Int×Int×Int×L61)→Option R):Option R:=cond (B.eq p4 0) (k (p2,p3,p0,p1,p6)) (k (p2,p3,p4,p5,p6))
abbrev K26 {R:Type} (k:AV→Objs→Option R) (y:(L52×Int×Int×Int×L61)):Option R:=k (.tup []) [(0,.box 49 [.list 52 ty52 y.1,.int .i64 y.2.1,.own 1002,.int .i64 y.2.2.1,.int .i64 y.2.2.2.1]),(1002,.row 61 ty61 y.2.2.2.2)]
theorem eq20 {R:Type} (B:Ops) (p0 p1:Int) (p2:L52) (p3 p4 p5:Int) (p6:L61) (k:AV→Objs→Option R) (n:Nat):afun tau B gl0 X20 gnil ow Tryz.f20 [.c (.ptr 0 0),.c (.int .i64 p0),.c (.int .i64 p1)] [(0,.box 49 [.list 52 ty52 p2,.int .i64 p3,.own 1002,.int .i64 p4,.int .i64 p5]),(1002,.row 61 ty61 p6)] k n=T20 B p0 p1 p2 p3 p4 p5 p6 (K26 k):=by kernel_rfl
theorem nt20 {R R':Type} (B:Ops) (p0 p1:Int) (p2:L52) (p3 p4 p5:Int) (p6:L61) (k0:(L52×Int×Int×Int×L61)→Option R') (k:R'→Option R):T20 B p0 p1 p2 p3 p4 p5 p6 (fun y=>ob (k0 y) k)=ob (T20 B p0 p1 p2 p3 p4 p5 p6 k0) k:=by
 unfold T20
 repeat' first | exact rfl | apply qac | (apply qai;intro)
def F20 (p0 p1:Int) (p2:L52) (p3 p4 p5:Int) (p6:L61):Option (L52×Int×Int×Int×L61):=T20 Ops.std p0 p1 p2 p3 p4 p5 p6 some
abbrev C20:Type:=Int→Int→L52→Int→Int→Int→L61→Option (L52×Int×Int×Int×L61)
def e20 {R:Type} (c:C20):Ent R:=eG [.aC (.cP 0),.aC (.cI .i64),.aC (.cI .i64)] [.oB 0 49 [.cL 52 ty52,.cI .i64,.cO 1002,.cI .i64,.cI .i64],.oR 1002 61 ty61] fun v k=>ob (c v.1 v.2.1 v.2.2.1 v.2.2.2.1 v.2.2.2.2.1 v.2.2.2.2.2.1 v.2.2.2.2.2.2.1) (K26 k)
abbrev Sp20 (c:C20):Prop:=∀ (p0 p1:Int) (p2:L52) (p3 p4 p5:Int) (p6:L61) (y:L52×Int×Int×Int×L61),c p0 p1 p2 p3 p4 p5 p6=some y→Spec Tryz.prog gl0 20 [.c (.ptr 0 0),.c (.int .i64 p0),.c (.int .i64 p1)] [(0,.box 49 [.list 52 ty52 p2,.int .i64 p3,.own 1002,.int .i64 p4,.int .i64 p5]),(1002,.row 61 ty61 p6)] (.tup []) [(0,.box 49 [.list 52 ty52 y.1,.int .i64 y.2.1,.own 1002,.int .i64 y.2.2.1,.int .i64 y.2.2.2.1]),(1002,.row 61 ty61 y.2.2.2.2)]
theorem ek20 {R:Type} {c:C20} (hs:Sp20 c):EOk 20 (e20 (R:=R) c):=qak fun v=>hs v.1 v.2.1 v.2.2.1 v.2.2.2.1 v.2.2.2.2.1 v.2.2.2.2.2.1 v.2.2.2.2.2.2.1
theorem sf20:Sp20 (F20):=fun p0 p1 p2 p3 p4 p5 p6 y hy=>by
 refine qae qad 1000000 (fn:=Tryz.f20) (by kernel_rfl) (by kernel_rfl) (X:=X20) (by kernel_rfl) ?_
 rw [eq20]
 exact (nt20 Ops.std p0 p1 p2 p3 p4 p5 p6 some (K26 k0)).trans (by show ob (F20 p0 p1 p2 p3 p4 p5 p6) _=_;rw [hy];rfl)
noncomputable def M20:C20:=F20
theorem sm20:Sp20 M20:=sf20
def X83:Aux:=⟨[],[]⟩
def T83 {R:Type} (B:Ops) (c82:C82) (c20:C20) (p0:LB) (p1:L52) (p2 p3 p4:Int) (p5:L61) (k:(L52×Int×Int×Int×L61)→Option R):Option R:=cond (!B.eq p3 0) (k (p1,p2,p3,p4,p5)) (ob (c82 p0 p1 p2 p3 p4 p5) fun y0=>cond (!y0.1) (ob (c20 2 y0.2.2.1 y0.2.1 y0.2.2.1 y0.2.2.2.1 y0.2.2.2.2.1 y0.2.2.2.2.2) fun y1=>k (y1.1,y1.2.1,y1.2.2.1,y1.2.2.2.1,y1.2.2.2.2)) (k ((y0.2.1,IntKind.wrap .i64 (y0.2.2.1+1),y0.2.2.2.1,y0.2.2.2.2.1,y0.2.2.2.2.2))))
theorem eq83 {R:Type} (B:Ops) (c82:C82) (c20:C20) (p0:LB) (p1:L52) (p2 p3 p4:Int) (p5:L61) (k:AV→Objs→Option R) (n:Nat):afun tau B gl0 X83 (ent 82 (e82 c82) (ent 20 (e20 c20) gnil)) ow Tryz.f83 [.c (.ptr 0 0),.c (.str p0)] [(0,.box 49 [.list 52 ty52 p1,.int .i64 p2,.own 1002,.int .i64 p3,.int .i64 p4]),(1002,.row 61 ty61 p5)] k n=T83 B c82 c20 p0 p1 p2 p3 p4 p5 (K26 k):=by kernel_rfl
theorem nt83 {R R':Type} (B:Ops) (c82:C82) (c20:C20) (p0:LB) (p1:L52) (p2 p3 p4:Int) (p5:L61) (k0:(L52×Int×Int×Int×L61)→Option R') (k:R'→Option R):T83 B c82 c20 p0 p1 p2 p3 p4 p5 (fun y=>ob (k0 y) k)=ob (T83 B c82 c20 p0 p1 p2 p3 p4 p5 k0) k:=by
 unfold T83
 repeat' first | exact rfl | apply qac | (apply qai;intro)
def F83 (c82:C82) (c20:C20) (p0:LB) (p1:L52) (p2 p3 p4:Int) (p5:L61):Option (L52×Int×Int×Int×L61):=T83 Ops.std c82 c20 p0 p1 p2 p3 p4 p5 some
abbrev C83:Type:=LB→L52→Int→Int→Int→L61→Option (L52×Int×Int×Int×L61)
def e83 {R:Type} (c:C83):Ent R:=eG [.aC (.cP 0),.aC .cS] [.oB 0 49 [.cL 52 ty52,.cI .i64,.cO 1002,.cI .i64,.cI .i64],.oR 1002 61 ty61] fun v k=>ob (c v.1 v.2.1 v.2.2.1 v.2.2.2.1 v.2.2.2.2.1 v.2.2.2.2.2.1) (K26 k)
abbrev Sp83 (c:C83):Prop:=∀ (p0:LB) (p1:L52) (p2 p3 p4:Int) (p5:L61) (y:L52×Int×Int×Int×L61),c p0 p1 p2 p3 p4 p5=some y→Spec Tryz.prog gl0 83 [.c (.ptr 0 0),.c (.str p0)] [(0,.box 49 [.list 52 ty52 p1,.int .i64 p2,.own 1002,.int .i64 p3,.int .i64 p4]),(1002,.row 61 ty61 p5)] (.tup []) [(0,.box 49 [.list 52 ty52 y.1,.int .i64 y.2.1,.own 1002,.int .i64 y.2.2.1,.int .i64 y.2.2.2.1]),(1002,.row 61 ty61 y.2.2.2.2)]
theorem ek83 {R:Type} {c:C83} (hs:Sp83 c):EOk 83 (e83 (R:=R) c):=qak fun v=>hs v.1 v.2.1 v.2.2.1 v.2.2.2.1 v.2.2.2.2.1 v.2.2.2.2.2.1
theorem sf83 {c82:C82} {c20:C20} (h82:Sp82 c82) (h20:Sp20 c20):Sp83 (F83 c82 c20):=fun p0 p1 p2 p3 p4 p5 y hy=>by
 refine qae (qab (ek82 h82) (qab (ek20 h20) qad)) 1000000 (fn:=Tryz.f83) (by kernel_rfl) (by kernel_rfl) (X:=X83) (by kernel_rfl) ?_
 rw [eq83]
 exact (nt83 Ops.std c82 c20 p0 p1 p2 p3 p4 p5 some (K26 k0)).trans (by show ob (F83 c82 c20 p0 p1 p2 p3 p4 p5) _=_;rw [hy];rfl)
noncomputable def M83:C83:=F83 M82 M20
theorem sm83:Sp83 M83:=sf83 sm82 sm20
def X49:Aux:=⟨[(1000012,(rg 0 63))],[(1,.lin (rg 0 12))]⟩
inductive S49 where
 | l1012 (v0:L52) (v1 v2 v3:Int) (v4:L61)
def T49 {R:Type} (B:Ops) (c82:C82) (p0:Int) (p1:L52) (p2 p3 p4:Int) (p5:L61) (again:S49→Option R) (k:(Int×L52×Int×Int×Int×L61)→Option R):Option S49→Option R | none=>cond (B.inb p2 p1.length) (cond (B.eq p0 1) (ob (c82 ([45,62]:LB) p1 p2 p3 p4 p5) fun y0=>cond y0.1 (k (7,y0.2.1,y0.2.2.1,y0.2.2.2.1,y0.2.2.2.2.1,y0.2.2.2.2.2)) (cond (B.eq p0 2) (ob (c82 ([124,124]:LB) y0.2.1 y0.2.2.1 y0.2.2.2.1 y0.2.2.2.2.1 y0.2.2.2.2.2) fun y1=>cond y1.1 (k (6,y1.2.1,y1.2.2.1,y1.2.2.2.1,y1.2.2.2.2.1,y1.2.2.2.2.2)) (cond (B.eq p0 3) (ob (c82 ([38,38]:LB) y1.2.1 y1.2.2.1 y1.2.2.2.1 y1.2.2.2.2.1 y1.2.2.2.2.2) fun y2=>cond y2.1 (k (5,y2.2.1,y2.2.2.1,y2.2.2.2.1,y2.2.2.2.2.1,y2.2.2.2.2.2)) (cond (B.eq p0 4) (cond (B.eq (p1.getD p2.toNat ty52.dflt).1 3) (cond (((p1.getD p2.toNat ty52.dflt).2).1 == ([85]:LB)) (k (9,y2.2.1,y2.2.2.1,y2.2.2.2.1,y2.2.2.2.2.1,y2.2.2.2.2.2)) (cond (B.eq p0 4) (cond (B.eq (p1.getD p2.toNat ty52.dflt).1 3) (cond (((p1.getD p2.toNat ty52.dflt).2).1 == ([82]:LB)) (k (10,y2.2.1,y2.2.2.1,y2.2.2.2.1,y2.2.2.2.2.1,y2.2.2.2.2.2)) (again (.l1012 y2.2.1 y2.2.2.1 y2.2.2.2.1 y2.2.2.2.2.1 y2.2.2.2.2.2))) (again (.l1012 y2.2.1 y2.2.2.1 y2.2.2.2.1 y2.2.2.2.2.1 y2.2.2.2.2.2))) (again (.l1012 y2.2.1 y2.2.2.1 y2.2.2.2.1 y2.2.2.2.2.1 y2.2.2.2.2.2)))) (cond (B.eq p0 4) (cond (B.eq (p1.getD p2.toNat ty52.dflt).1 3) (cond (((p1.getD p2.toNat ty52.dflt).2).1 == ([82]:LB)) (k (10,y2.2.1,y2.2.2.1,y2.2.2.2.1,y2.2.2.2.2.1,y2.2.2.2.2.2)) (again (.l1012 y2.2.1 y2.2.2.1 y2.2.2.2.1 y2.2.2.2.2.1 y2.2.2.2.2.2))) (again (.l1012 y2.2.1 y2.2.2.1 y2.2.2.2.1 y2.2.2.2.2.1 y2.2.2.2.2.2))) (again (.l1012 y2.2.1 y2.2.2.1 y2.2.2.2.1 y2.2.2.2.2.1 y2.2.2.2.2.2)))) (cond (B.eq p0 4) (cond (B.eq (p1.getD p2.toNat ty52.dflt).1 3) (cond (((p1.getD p2.toNat ty52.dflt).2).1 == ([82]:LB)) (k (10,y2.2.1,y2.2.2.1,y2.2.2.2.1,y2.2.2.2.2.1,y2.2.2.2.2.2)) (again (.l1012 y2.2.1 y2.2.2.1 y2.2.2.2.1 y2.2.2.2.2.1 y2.2.2.2.2.2))) (again (.l1012 y2.2.1 y2.2.2.1 y2.2.2.2.1 y2.2.2.2.2.1 y2.2.2.2.2.2))) (again (.l1012 y2.2.1 y2.2.2.1 y2.2.2.2.1 y2.2.2.2.2.1 y2.2.2.2.2.2))))) (cond (B.eq p0 4) (cond (B.eq (p1.getD p2.toNat ty52.dflt).1 3) (cond (((p1.getD p2.toNat ty52.dflt).2).1 == ([85]:LB)) (k (9,y1.2.1,y1.2.2.1,y1.2.2.2.1,y1.2.2.2.2.1,y1.2.2.2.2.2)) (cond (B.eq p0 4) (cond (B.eq (p1.getD p2.toNat ty52.dflt).1 3) (cond (((p1.getD p2.toNat ty52.dflt).2).1 == ([82]:LB)) (k (10,y1.2.1,y1.2.2.1,y1.2.2.2.1,y1.2.2.2.2.1,y1.2.2.2.2.2)) (again (.l1012 y1.2.1 y1.2.2.1 y1.2.2.2.1 y1.2.2.2.2.1 y1.2.2.2.2.2))) (again (.l1012 y1.2.1 y1.2.2.1 y1.2.2.2.1 y1.2.2.2.2.1 y1.2.2.2.2.2))) (again (.l1012 y1.2.1 y1.2.2.1 y1.2.2.2.1 y1.2.2.2.2.1 y1.2.2.2.2.2)))) (cond (B.eq p0 4) (cond (B.eq (p1.getD p2.toNat ty52.dflt).1 3) (cond (((p1.getD p2.toNat ty52.dflt).2).1 == ([82]:LB)) (k (10,y1.2.1,y1.2.2.1,y1.2.2.2.1,y1.2.2.2.2.1,y1.2.2.2.2.2)) (again (.l1012 y1.2.1 y1.2.2.1 y1.2.2.2.1 y1.2.2.2.2.1 y1.2.2.2.2.2))) (again (.l1012 y1.2.1 y1.2.2.1 y1.2.2.2.1 y1.2.2.2.2.1 y1.2.2.2.2.2))) (again (.l1012 y1.2.1 y1.2.2.1 y1.2.2.2.1 y1.2.2.2.2.1 y1.2.2.2.2.2)))) (cond (B.eq p0 4) (cond (B.eq (p1.getD p2.toNat ty52.dflt).1 3) (cond (((p1.getD p2.toNat ty52.dflt).2).1 == ([82]:LB)) (k (10,y1.2.1,y1.2.2.1,y1.2.2.2.1,y1.2.2.2.2.1,y1.2.2.2.2.2)) (again (.l1012 y1.2.1 y1.2.2.1 y1.2.2.2.1 y1.2.2.2.2.1 y1.2.2.2.2.2))) (again (.l1012 y1.2.1 y1.2.2.1 y1.2.2.2.1 y1.2.2.2.2.1 y1.2.2.2.2.2))) (again (.l1012 y1.2.1 y1.2.2.1 y1.2.2.2.1 y1.2.2.2.2.1 y1.2.2.2.2.2)))))) (cond (B.eq p0 3) (ob (c82 ([38,38]:LB) y0.2.1 y0.2.2.1 y0.2.2.2.1 y0.2.2.2.2.1 y0.2.2.2.2.2) fun y1=>cond y1.1 (k (5,y1.2.1,y1.2.2.1,y1.2.2.2.1,y1.2.2.2.2.1,y1.2.2.2.2.2)) (cond (B.eq p0 4) (cond (B.eq (p1.getD p2.toNat ty52.dflt).1 3) (cond (((p1.getD p2.toNat ty52.dflt).2).1 == ([85]:LB)) (k (9,y1.2.1,y1.2.2.1,y1.2.2.2.1,y1.2.2.2.2.1,y1.2.2.2.2.2)) (cond (B.eq p0 4) (cond (B.eq (p1.getD p2.toNat ty52.dflt).1 3) (cond (((p1.getD p2.toNat ty52.dflt).2).1 == ([82]:LB)) (k (10,y1.2.1,y1.2.2.1,y1.2.2.2.1,y1.2.2.2.2.1,y1.2.2.2.2.2)) (again (.l1012 y1.2.1 y1.2.2.1 y1.2.2.2.1 y1.2.2.2.2.1 y1.2.2.2.2.2))) (again (.l1012 y1.2.1 y1.2.2.1 y1.2.2.2.1 y1.2.2.2.2.1 y1.2.2.2.2.2))) (again (.l1012 y1.2.1 y1.2.2.1 y1.2.2.2.1 y1.2.2.2.2.1 y1.2.2.2.2.2)))) (cond (B.eq p0 4) (cond (B.eq (p1.getD p2.toNat ty52.dflt).1 3) (cond (((p1.getD p2.toNat ty52.dflt).2).1 == ([82]:LB)) (k (10,y1.2.1,y1.2.2.1,y1.2.2.2.1,y1.2.2.2.2.1,y1.2.2.2.2.2)) (again (.l1012 y1.2.1 y1.2.2.1 y1.2.2.2.1 y1.2.2.2.2.1 y1.2.2.2.2.2))) (again (.l1012 y1.2.1 y1.2.2.1 y1.2.2.2.1 y1.2.2.2.2.1 y1.2.2.2.2.2))) (again (.l1012 y1.2.1 y1.2.2.1 y1.2.2.2.1 y1.2.2.2.2.1 y1.2.2.2.2.2)))) (cond (B.eq p0 4) (cond (B.eq (p1.getD p2.toNat ty52.dflt).1 3) (cond (((p1.getD p2.toNat ty52.dflt).2).1 == ([82]:LB)) (k (10,y1.2.1,y1.2.2.1,y1.2.2.2.1,y1.2.2.2.2.1,y1.2.2.2.2.2)) (again (.l1012 y1.2.1 y1.2.2.1 y1.2.2.2.1 y1.2.2.2.2.1 y1.2.2.2.2.2))) (again (.l1012 y1.2.1 y1.2.2.1 y1.2.2.2.1 y1.2.2.2.2.1 y1.2.2.2.2.2))) (again (.l1012 y1.2.1 y1.2.2.1 y1.2.2.2.1 y1.2.2.2.2.1 y1.2.2.2.2.2))))) (cond (B.eq p0 4) (cond (B.eq (p1.getD p2.toNat ty52.dflt).1 3) (cond (((p1.getD p2.toNat ty52.dflt).2).1 == ([85]:LB)) (k (9,y0.2.1,y0.2.2.1,y0.2.2.2.1,y0.2.2.2.2.1,y0.2.2.2.2.2)) (cond (B.eq p0 4) (cond (B.eq (p1.getD p2.toNat ty52.dflt).1 3) (cond (((p1.getD p2.toNat ty52.dflt).2).1 == ([82]:LB)) (k (10,y0.2.1,y0.2.2.1,y0.2.2.2.1,y0.2.2.2.2.1,y0.2.2.2.2.2)) (again (.l1012 y0.2.1 y0.2.2.1 y0.2.2.2.1 y0.2.2.2.2.1 y0.2.2.2.2.2))) (again (.l1012 y0.2.1 y0.2.2.1 y0.2.2.2.1 y0.2.2.2.2.1 y0.2.2.2.2.2))) (again (.l1012 y0.2.1 y0.2.2.1 y0.2.2.2.1 y0.2.2.2.2.1 y0.2.2.2.2.2)))) (cond (B.eq p0 4) (cond (B.eq (p1.getD p2.toNat ty52.dflt).1 3) (cond (((p1.getD p2.toNat ty52.dflt).2).1 == ([82]:LB)) (k (10,y0.2.1,y0.2.2.1,y0.2.2.2.1,y0.2.2.2.2.1,y0.2.2.2.2.2)) (again (.l1012 y0.2.1 y0.2.2.1 y0.2.2.2.1 y0.2.2.2.2.1 y0.2.2.2.2.2))) (again (.l1012 y0.2.1 y0.2.2.1 y0.2.2.2.1 y0.2.2.2.2.1 y0.2.2.2.2.2))) (again (.l1012 y0.2.1 y0.2.2.1 y0.2.2.2.1 y0.2.2.2.2.1 y0.2.2.2.2.2)))) (cond (B.eq p0 4) (cond (B.eq (p1.getD p2.toNat ty52.dflt).1 3) (cond (((p1.getD p2.toNat ty52.dflt).2).1 == ([82]:LB)) (k (10,y0.2.1,y0.2.2.1,y0.2.2.2.1,y0.2.2.2.2.1,y0.2.2.2.2.2)) (again (.l1012 y0.2.1 y0.2.2.1 y0.2.2.2.1 y0.2.2.2.2.1 y0.2.2.2.2.2))) (again (.l1012 y0.2.1 y0.2.2.1 y0.2.2.2.1 y0.2.2.2.2.1 y0.2.2.2.2.2))) (again (.l1012 y0.2.1 y0.2.2.1 y0.2.2.2.1 y0.2.2.2.2.1 y0.2.2.2.2.2))))))) (cond (B.eq p0 2) (ob (c82 ([124,124]:LB) p1 p2 p3 p4 p5) fun y0=>cond y0.1 (k (6,y0.2.1,y0.2.2.1,y0.2.2.2.1,y0.2.2.2.2.1,y0.2.2.2.2.2)) (cond (B.eq p0 3) (ob (c82 ([38,38]:LB) y0.2.1 y0.2.2.1 y0.2.2.2.1 y0.2.2.2.2.1 y0.2.2.2.2.2) fun y1=>cond y1.1 (k (5,y1.2.1,y1.2.2.1,y1.2.2.2.1,y1.2.2.2.2.1,y1.2.2.2.2.2)) (cond (B.eq p0 4) (cond (B.eq (p1.getD p2.toNat ty52.dflt).1 3) (cond (((p1.getD p2.toNat ty52.dflt).2).1 == ([85]:LB)) (k (9,y1.2.1,y1.2.2.1,y1.2.2.2.1,y1.2.2.2.2.1,y1.2.2.2.2.2)) (cond (B.eq p0 4) (cond (B.eq (p1.getD p2.toNat ty52.dflt).1 3) (cond (((p1.getD p2.toNat ty52.dflt).2).1 == ([82]:LB)) (k (10,y1.2.1,y1.2.2.1,y1.2.2.2.1,y1.2.2.2.2.1,y1.2.2.2.2.2)) (again (.l1012 y1.2.1 y1.2.2.1 y1.2.2.2.1 y1.2.2.2.2.1 y1.2.2.2.2.2))) (again (.l1012 y1.2.1 y1.2.2.1 y1.2.2.2.1 y1.2.2.2.2.1 y1.2.2.2.2.2))) (again (.l1012 y1.2.1 y1.2.2.1 y1.2.2.2.1 y1.2.2.2.2.1 y1.2.2.2.2.2)))) (cond (B.eq p0 4) (cond (B.eq (p1.getD p2.toNat ty52.dflt).1 3) (cond (((p1.getD p2.toNat ty52.dflt).2).1 == ([82]:LB)) (k (10,y1.2.1,y1.2.2.1,y1.2.2.2.1,y1.2.2.2.2.1,y1.2.2.2.2.2)) (again (.l1012 y1.2.1 y1.2.2.1 y1.2.2.2.1 y1.2.2.2.2.1 y1.2.2.2.2.2))) (again (.l1012 y1.2.1 y1.2.2.1 y1.2.2.2.1 y1.2.2.2.2.1 y1.2.2.2.2.2))) (again (.l1012 y1.2.1 y1.2.2.1 y1.2.2.2.1 y1.2.2.2.2.1 y1.2.2.2.2.2)))) (cond (B.eq p0 4) (cond (B.eq (p1.getD p2.toNat ty52.dflt).1 3) (cond (((p1.getD p2.toNat ty52.dflt).2).1 == ([82]:LB)) (k (10,y1.2.1,y1.2.2.1,y1.2.2.2.1,y1.2.2.2.2.1,y1.2.2.2.2.2)) (again (.l1012 y1.2.1 y1.2.2.1 y1.2.2.2.1 y1.2.2.2.2.1 y1.2.2.2.2.2))) (again (.l1012 y1.2.1 y1.2.2.1 y1.2.2.2.1 y1.2.2.2.2.1 y1.2.2.2.2.2))) (again (.l1012 y1.2.1 y1.2.2.1 y1.2.2.2.1 y1.2.2.2.2.1 y1.2.2.2.2.2))))) (cond (B.eq p0 4) (cond (B.eq (p1.getD p2.toNat ty52.dflt).1 3) (cond (((p1.getD p2.toNat ty52.dflt).2).1 == ([85]:LB)) (k (9,y0.2.1,y0.2.2.1,y0.2.2.2.1,y0.2.2.2.2.1,y0.2.2.2.2.2)) (cond (B.eq p0 4) (cond (B.eq (p1.getD p2.toNat ty52.dflt).1 3) (cond (((p1.getD p2.toNat ty52.dflt).2).1 == ([82]:LB)) (k (10,y0.2.1,y0.2.2.1,y0.2.2.2.1,y0.2.2.2.2.1,y0.2.2.2.2.2)) (again (.l1012 y0.2.1 y0.2.2.1 y0.2.2.2.1 y0.2.2.2.2.1 y0.2.2.2.2.2))) (again (.l1012 y0.2.1 y0.2.2.1 y0.2.2.2.1 y0.2.2.2.2.1 y0.2.2.2.2.2))) (again (.l1012 y0.2.1 y0.2.2.1 y0.2.2.2.1 y0.2.2.2.2.1 y0.2.2.2.2.2)))) (cond (B.eq p0 4) (cond (B.eq (p1.getD p2.toNat ty52.dflt).1 3) (cond (((p1.getD p2.toNat ty52.dflt).2).1 == ([82]:LB)) (k (10,y0.2.1,y0.2.2.1,y0.2.2.2.1,y0.2.2.2.2.1,y0.2.2.2.2.2)) (again (.l1012 y0.2.1 y0.2.2.1 y0.2.2.2.1 y0.2.2.2.2.1 y0.2.2.2.2.2))) (again (.l1012 y0.2.1 y0.2.2.1 y0.2.2.2.1 y0.2.2.2.2.1 y0.2.2.2.2.2))) (again (.l1012 y0.2.1 y0.2.2.1 y0.2.2.2.1 y0.2.2.2.2.1 y0.2.2.2.2.2)))) (cond (B.eq p0 4) (cond (B.eq (p1.getD p2.toNat ty52.dflt).1 3) (cond (((p1.getD p2.toNat ty52.dflt).2).1 == ([82]:LB)) (k (10,y0.2.1,y0.2.2.1,y0.2.2.2.1,y0.2.2.2.2.1,y0.2.2.2.2.2)) (again (.l1012 y0.2.1 y0.2.2.1 y0.2.2.2.1 y0.2.2.2.2.1 y0.2.2.2.2.2))) (again (.l1012 y0.2.1 y0.2.2.1 y0.2.2.2.1 y0.2.2.2.2.1 y0.2.2.2.2.2))) (again (.l1012 y0.2.1 y0.2.2.1 y0.2.2.2.1 y0.2.2.2.2.1 y0.2.2.2.2.2)))))) (cond (B.eq p0 3) (ob (c82 ([38,38]:LB) p1 p2 p3 p4 p5) fun y0=>cond y0.1 (k (5,y0.2.1,y0.2.2.1,y0.2.2.2.1,y0.2.2.2.2.1,y0.2.2.2.2.2)) (cond (B.eq p0 4) (cond (B.eq (p1.getD p2.toNat ty52.dflt).1 3) (cond (((p1.getD p2.toNat ty52.dflt).2).1 == ([85]:LB)) (k (9,y0.2.1,y0.2.2.1,y0.2.2.2.1,y0.2.2.2.2.1,y0.2.2.2.2.2)) (cond (B.eq p0 4) (cond (B.eq (p1.getD p2.toNat ty52.dflt).1 3) (cond (((p1.getD p2.toNat ty52.dflt).2).1 == ([82]:LB)) (k (10,y0.2.1,y0.2.2.1,y0.2.2.2.1,y0.2.2.2.2.1,y0.2.2.2.2.2)) (again (.l1012 y0.2.1 y0.2.2.1 y0.2.2.2.1 y0.2.2.2.2.1 y0.2.2.2.2.2))) (again (.l1012 y0.2.1 y0.2.2.1 y0.2.2.2.1 y0.2.2.2.2.1 y0.2.2.2.2.2))) (again (.l1012 y0.2.1 y0.2.2.1 y0.2.2.2.1 y0.2.2.2.2.1 y0.2.2.2.2.2)))) (cond (B.eq p0 4) (cond (B.eq (p1.getD p2.toNat ty52.dflt).1 3) (cond (((p1.getD p2.toNat ty52.dflt).2).1 == ([82]:LB)) (k (10,y0.2.1,y0.2.2.1,y0.2.2.2.1,y0.2.2.2.2.1,y0.2.2.2.2.2)) (again (.l1012 y0.2.1 y0.2.2.1 y0.2.2.2.1 y0.2.2.2.2.1 y0.2.2.2.2.2))) (again (.l1012 y0.2.1 y0.2.2.1 y0.2.2.2.1 y0.2.2.2.2.1 y0.2.2.2.2.2))) (again (.l1012 y0.2.1 y0.2.2.1 y0.2.2.2.1 y0.2.2.2.2.1 y0.2.2.2.2.2)))) (cond (B.eq p0 4) (cond (B.eq (p1.getD p2.toNat ty52.dflt).1 3) (cond (((p1.getD p2.toNat ty52.dflt).2).1 == ([82]:LB)) (k (10,y0.2.1,y0.2.2.1,y0.2.2.2.1,y0.2.2.2.2.1,y0.2.2.2.2.2)) (again (.l1012 y0.2.1 y0.2.2.1 y0.2.2.2.1 y0.2.2.2.2.1 y0.2.2.2.2.2))) (again (.l1012 y0.2.1 y0.2.2.1 y0.2.2.2.1 y0.2.2.2.2.1 y0.2.2.2.2.2))) (again (.l1012 y0.2.1 y0.2.2.1 y0.2.2.2.1 y0.2.2.2.2.1 y0.2.2.2.2.2))))) (cond (B.eq p0 4) (cond (B.eq (p1.getD p2.toNat ty52.dflt).1 3) (cond (((p1.getD p2.toNat ty52.dflt).2).1 == ([85]:LB)) (k (9,p1,p2,p3,p4,p5)) (cond (B.eq p0 4) (cond (B.eq (p1.getD p2.toNat ty52.dflt).1 3) (cond (((p1.getD p2.toNat ty52.dflt).2).1 == ([82]:LB)) (k (10,p1,p2,p3,p4,p5)) (again (.l1012 p1 p2 p3 p4 p5))) (again (.l1012 p1 p2 p3 p4 p5))) (again (.l1012 p1 p2 p3 p4 p5)))) (cond (B.eq p0 4) (cond (B.eq (p1.getD p2.toNat ty52.dflt).1 3) (cond (((p1.getD p2.toNat ty52.dflt).2).1 == ([82]:LB)) (k (10,p1,p2,p3,p4,p5)) (again (.l1012 p1 p2 p3 p4 p5))) (again (.l1012 p1 p2 p3 p4 p5))) (again (.l1012 p1 p2 p3 p4 p5)))) (cond (B.eq p0 4) (cond (B.eq (p1.getD p2.toNat ty52.dflt).1 3) (cond (((p1.getD p2.toNat ty52.dflt).2).1 == ([82]:LB)) (k (10,p1,p2,p3,p4,p5)) (again (.l1012 p1 p2 p3 p4 p5))) (again (.l1012 p1 p2 p3 p4 p5))) (again (.l1012 p1 p2 p3 p4 p5))))))) none | some (.l1012 v0 v1 v2 v3 v4)=>k (0,v0,v1,v2,v3,v4)
def E49 (p0:Int) (p1:L52) (p2 p3 p4:Int) (p5:L61):S49→List AV×Objs
 | .l1012 v0 v1 v2 v3 v4=>(mk 63 [],[(0,.box 49 [.list 52 ty52 v0,.int .i64 v1,.own 1002,.int .i64 v2,.int .i64 v3]),(1002,.row 61 ty61 v4)])
def I49:S49→Nat
 | .l1012 _ _ _ _ _=>1012
abbrev K27 {R:Type} (k:AV→Objs→Option R) (y:(Int×L52×Int×Int×Int×L61)):Option R:=k (.c (.int .i64 y.1)) [(0,.box 49 [.list 52 ty52 y.2.1,.int .i64 y.2.2.1,.own 1002,.int .i64 y.2.2.2.1,.int .i64 y.2.2.2.2.1]),(1002,.row 61 ty61 y.2.2.2.2.2)]
noncomputable abbrev A49 {R:Type} (B:Ops) (c82:C82) (p0:Int) (p1:L52) (p2 p3 p4:Int) (p5:L61) (k:AV→Objs→Option R) (s:S49) (n:Nat):Option R:=aloop tau B gl0 X49 (ent 82 (e82 c82) gnil) ow [0] Tryz.f49 k (I49 s) (E49 p0 p1 p2 p3 p4 p5 s) n
theorem eq49 {R:Type} (B:Ops) (c82:C82) (p0:Int) (p1:L52) (p2 p3 p4:Int) (p5:L61) (k:AV→Objs→Option R) (n:Nat):afun tau B gl0 X49 (ent 82 (e82 c82) gnil) ow Tryz.f49 [.c (.ptr 0 0),.c (.int .i64 p0)] [(0,.box 49 [.list 52 ty52 p1,.int .i64 p2,.own 1002,.int .i64 p3,.int .i64 p4]),(1002,.row 61 ty61 p5)] k n=T49 B c82 p0 p1 p2 p3 p4 p5 (fun s=>A49 B c82 p0 p1 p2 p3 p4 p5 k s n) (K27 k) none:=by kernel_rfl
theorem el49 {R:Type} (B:Ops) (c82:C82) (p0:Int) (p1:L52) (p2 p3 p4:Int) (p5:L61) (k:AV→Objs→Option R) (n:Nat):∀ s,A49 B c82 p0 p1 p2 p3 p4 p5 k s (n+1)=T49 B c82 p0 p1 p2 p3 p4 p5 (fun s=>A49 B c82 p0 p1 p2 p3 p4 p5 k s n) (K27 k) (some s):=by
 intro s
 cases s<;>kernel_rfl
theorem nt49 {R R':Type} (B:Ops) (c82:C82) (p0:Int) (p1:L52) (p2 p3 p4:Int) (p5:L61) (again:S49→Option R) (again':S49→Option R') (k0:(Int×L52×Int×Int×Int×L61)→Option R') (k:R'→Option R) (h:∀ s,again s=ob (again' s) k):∀ s,T49 B c82 p0 p1 p2 p3 p4 p5 again (fun y=>ob (k0 y) k) s=ob (T49 B c82 p0 p1 p2 p3 p4 p5 again' k0 s) k:=by
 rintro (_ | x)
 all_goals try cases x
 all_goals (unfold T49;repeat' first | exact rfl | exact h _ | apply qac | (apply qai;intro))
def R49 (c82:C82) (p0:Int) (p1:L52) (p2 p3 p4:Int) (p5:L61):Nat→S49→Option (Int×L52×Int×Int×Int×L61)
 | 0,_=>none
 | n+1,s=>T49 Ops.std c82 p0 p1 p2 p3 p4 p5 (R49 c82 p0 p1 p2 p3 p4 p5 n) some (some s)
theorem rr49 {R:Type} (c82:C82) (p0:Int) (p1:L52) (p2 p3 p4:Int) (p5:L61) (k:AV→Objs→Option R):∀ (n:Nat) (s:S49),A49 Ops.std c82 p0 p1 p2 p3 p4 p5 k s n=ob (R49 c82 p0 p1 p2 p3 p4 p5 n s) (K27 k)
 | 0,s=>by cases s<;>rfl
 | n+1,s=>by rw [el49];exact nt49 Ops.std c82 p0 p1 p2 p3 p4 p5 _ _ some (K27 k) (rr49 c82 p0 p1 p2 p3 p4 p5 k n) (some s)
def F49 (c82:C82) (p0:Int) (p1:L52) (p2 p3 p4:Int) (p5:L61):Option (Int×L52×Int×Int×Int×L61):=T49 Ops.std c82 p0 p1 p2 p3 p4 p5 (R49 c82 p0 p1 p2 p3 p4 p5 1000000) some none
abbrev C49:Type:=Int→L52→Int→Int→Int→L61→Option (Int×L52×Int×Int×Int×L61)
def e49 {R:Type} (c:C49):Ent R:=eG [.aC (.cP 0),.aC (.cI .i64)] [.oB 0 49 [.cL 52 ty52,.cI .i64,.cO 1002,.cI .i64,.cI .i64],.oR 1002 61 ty61] fun v k=>ob (c v.1 v.2.1 v.2.2.1 v.2.2.2.1 v.2.2.2.2.1 v.2.2.2.2.2.1) (K27 k)
abbrev Sp49 (c:C49):Prop:=∀ (p0:Int) (p1:L52) (p2 p3 p4:Int) (p5:L61) (y:Int×L52×Int×Int×Int×L61),c p0 p1 p2 p3 p4 p5=some y→Spec Tryz.prog gl0 49 [.c (.ptr 0 0),.c (.int .i64 p0)] [(0,.box 49 [.list 52 ty52 p1,.int .i64 p2,.own 1002,.int .i64 p3,.int .i64 p4]),(1002,.row 61 ty61 p5)] (.c (.int .i64 y.1)) [(0,.box 49 [.list 52 ty52 y.2.1,.int .i64 y.2.2.1,.own 1002,.int .i64 y.2.2.2.1,.int .i64 y.2.2.2.2.1]),(1002,.row 61 ty61 y.2.2.2.2.2)]
theorem ek49 {R:Type} {c:C49} (hs:Sp49 c):EOk 49 (e49 (R:=R) c):=qak fun v=>hs v.1 v.2.1 v.2.2.1 v.2.2.2.1 v.2.2.2.2.1 v.2.2.2.2.2.1
theorem sf49 {c82:C82} (h82:Sp82 c82):Sp49 (F49 c82):=fun p0 p1 p2 p3 p4 p5 y hy=>by
 refine qae (qab (ek82 h82) qad) 1000000 (fn:=Tryz.f49) (by kernel_rfl) (by kernel_rfl) (X:=X49) (by kernel_rfl) ?_
 rw [eq49]
 exact (nt49 Ops.std c82 p0 p1 p2 p3 p4 p5 _ _ some (K27 k0) (rr49 c82 p0 p1 p2 p3 p4 p5 k0 1000000) none).trans (by show ob (F49 c82 p0 p1 p2 p3 p4 p5) _=_;rw [hy];rfl)
noncomputable def M49:C49:=F49 M82
theorem sm49:Sp49 M49:=sf49 sm82
def X134:Aux:=⟨[],[(1,.lin (rg 0 28))]⟩
def T134 {R:Type} (B:Ops) (p0:LB) (p1:L52) (p2 p3:Int) (p4:L63) (k:(Bool×L52×Int×Int×L63)→Option R):Option R:=cond (B.inb p2 p1.length) (cond (B.eq (p1.getD p2.toNat ty52.dflt).1 4) (cond (B.inb p2 p1.length) (k ((((p1.getD p2.toNat ty52.dflt).2).1 == p0,p1,p2,p3,p4))) none) (k (false,p1,p2,p3,p4))) none
abbrev K28 {R:Type} (k:AV→Objs→Option R) (y:(Bool×L52×Int×Int×L63)):Option R:=k (.c (.bool y.1)) [(0,.box 170 [.list 52 ty52 y.2.1,.int .i64 y.2.2.1,.own 1002,.int .i64 y.2.2.2.1]),(1002,.row 63 ty63 y.2.2.2.2)]
theorem eq134 {R:Type} (B:Ops) (p0:LB) (p1:L52) (p2 p3:Int) (p4:L63) (k:AV→Objs→Option R) (n:Nat):afun tau B gl0 X134 gnil ow Tryz.f134 [.c (.ptr 0 0),.c (.str p0)] [(0,.box 170 [.list 52 ty52 p1,.int .i64 p2,.own 1002,.int .i64 p3]),(1002,.row 63 ty63 p4)] k n=T134 B p0 p1 p2 p3 p4 (K28 k):=by kernel_rfl
theorem nt134 {R R':Type} (B:Ops) (p0:LB) (p1:L52) (p2 p3:Int) (p4:L63) (k0:(Bool×L52×Int×Int×L63)→Option R') (k:R'→Option R):T134 B p0 p1 p2 p3 p4 (fun y=>ob (k0 y) k)=ob (T134 B p0 p1 p2 p3 p4 k0) k:=by
 unfold T134
 repeat' first | exact rfl | apply qac | (apply qai;intro)
def F134 (p0:LB) (p1:L52) (p2 p3:Int) (p4:L63):Option (Bool×L52×Int×Int×L63):=T134 Ops.std p0 p1 p2 p3 p4 some
abbrev C134:Type:=LB→L52→Int→Int→L63→Option (Bool×L52×Int×Int×L63)
def e134 {R:Type} (c:C134):Ent R:=eG [.aC (.cP 0),.aC .cS] [.oB 0 170 [.cL 52 ty52,.cI .i64,.cO 1002,.cI .i64],.oR 1002 63 ty63] fun v k=>ob (c v.1 v.2.1 v.2.2.1 v.2.2.2.1 v.2.2.2.2.1) (K28 k)
abbrev Sp134 (c:C134):Prop:=∀ (p0:LB) (p1:L52) (p2 p3:Int) (p4:L63) (y:Bool×L52×Int×Int×L63),c p0 p1 p2 p3 p4=some y→Spec Tryz.prog gl0 134 [.c (.ptr 0 0),.c (.str p0)] [(0,.box 170 [.list 52 ty52 p1,.int .i64 p2,.own 1002,.int .i64 p3]),(1002,.row 63 ty63 p4)] (.c (.bool y.1)) [(0,.box 170 [.list 52 ty52 y.2.1,.int .i64 y.2.2.1,.own 1002,.int .i64 y.2.2.2.1]),(1002,.row 63 ty63 y.2.2.2.2)]
theorem ek134 {R:Type} {c:C134} (hs:Sp134 c):EOk 134 (e134 (R:=R) c):=qak fun v=>hs v.1 v.2.1 v.2.2.1 v.2.2.2.1 v.2.2.2.2.1
theorem sf134:Sp134 (F134):=fun p0 p1 p2 p3 p4 y hy=>by
 refine qae qad 1000000 (fn:=Tryz.f134) (by kernel_rfl) (by kernel_rfl) (X:=X134) (by kernel_rfl) ?_
 rw [eq134]
 exact (nt134 Ops.std p0 p1 p2 p3 p4 some (K28 k0)).trans (by show ob (F134 p0 p1 p2 p3 p4) _=_;rw [hy];rfl)
noncomputable def M134:C134:=F134
theorem sm134:Sp134 M134:=sf134
def X135:Aux:=⟨[],[]⟩
def T135 {R:Type} (B:Ops) (p0:L52) (p1 p2:Int) (p3:L63) (k:(L52×Int×Int×L63)→Option R):Option R:=cond (B.lt p2 0) (k (p0,p1,p1,p3)) (k (p0,p1,p2,p3))
abbrev K29 {R:Type} (k:AV→Objs→Option R) (y:(L52×Int×Int×L63)):Option R:=k (.tup []) [(0,.box 170 [.list 52 ty52 y.1,.int .i64 y.2.1,.own 1002,.int .i64 y.2.2.1]),(1002,.row 63 ty63 y.2.2.2)]
theorem eq135 {R:Type} (B:Ops) (p0:L52) (p1 p2:Int) (p3:L63) (k:AV→Objs→Option R) (n:Nat):afun tau B gl0 X135 gnil ow Tryz.f135 [.c (.ptr 0 0)] [(0,.box 170 [.list 52 ty52 p0,.int .i64 p1,.own 1002,.int .i64 p2]),(1002,.row 63 ty63 p3)] k n=T135 B p0 p1 p2 p3 (K29 k):=by kernel_rfl
theorem nt135 {R R':Type} (B:Ops) (p0:L52) (p1 p2:Int) (p3:L63) (k0:(L52×Int×Int×L63)→Option R') (k:R'→Option R):T135 B p0 p1 p2 p3 (fun y=>ob (k0 y) k)=ob (T135 B p0 p1 p2 p3 k0) k:=by
 unfold T135
 repeat' first | exact rfl | apply qac | (apply qai;intro)
def F135 (p0:L52) (p1 p2:Int) (p3:L63):Option (L52×Int×Int×L63):=T135 Ops.std p0 p1 p2 p3 some
abbrev C135:Type:=L52→Int→Int→L63→Option (L52×Int×Int×L63)
def e135 {R:Type} (c:C135):Ent R:=eG [.aC (.cP 0)] [.oB 0 170 [.cL 52 ty52,.cI .i64,.cO 1002,.cI .i64],.oR 1002 63 ty63] fun v k=>ob (c v.1 v.2.1 v.2.2.1 v.2.2.2.1) (K29 k)
abbrev Sp135 (c:C135):Prop:=∀ (p0:L52) (p1 p2:Int) (p3:L63) (y:L52×Int×Int×L63),c p0 p1 p2 p3=some y→Spec Tryz.prog gl0 135 [.c (.ptr 0 0)] [(0,.box 170 [.list 52 ty52 p0,.int .i64 p1,.own 1002,.int .i64 p2]),(1002,.row 63 ty63 p3)] (.tup []) [(0,.box 170 [.list 52 ty52 y.1,.int .i64 y.2.1,.own 1002,.int .i64 y.2.2.1]),(1002,.row 63 ty63 y.2.2.2)]
theorem ek135 {R:Type} {c:C135} (hs:Sp135 c):EOk 135 (e135 (R:=R) c):=qak fun v=>hs v.1 v.2.1 v.2.2.1 v.2.2.2.1
theorem sf135:Sp135 (F135):=fun p0 p1 p2 p3 y hy=>by
 refine qae qad 1000000 (fn:=Tryz.f135) (by kernel_rfl) (by kernel_rfl) (X:=X135) (by kernel_rfl) ?_
 rw [eq135]
 exact (nt135 Ops.std p0 p1 p2 p3 some (K29 k0)).trans (by show ob (F135 p0 p1 p2 p3) _=_;rw [hy];rfl)
noncomputable def M135:C135:=F135
theorem sm135:Sp135 M135:=sf135
def X74:Aux:=⟨[],[]⟩
def T74 {R:Type} (B:Ops) (p0:Int) (k:(Int)→Option R):Option R:=cond (B.eq p0 16) (k 1) (cond (B.eq p0 15) (k 2) (cond (B.eq p0 9) (k 3) (cond (B.eq p0 10) (k 3) (cond (B.eq p0 11) (k 3) (cond (B.eq p0 12) (k 3) (cond (B.eq p0 13) (k 3) (cond (B.eq p0 14) (k 3) (cond (B.eq p0 7) (k 4) (cond (B.eq p0 8) (k 4) (cond (B.eq p0 6) (k 5) (cond (B.eq p0 4) (k 6) (cond (B.eq p0 5) (k 6) (k 7)))))))))))))
theorem eq74 {R:Type} (B:Ops) (p0:Int) (k:AV→Objs→Option R) (n:Nat):afun tau B gl0 X74 gnil ow Tryz.f74 [.c (.int .i64 p0)] [] k n=T74 B p0 (K1 k):=by kernel_rfl
theorem nt74 {R R':Type} (B:Ops) (p0:Int) (k0:(Int)→Option R') (k:R'→Option R):T74 B p0 (fun y=>ob (k0 y) k)=ob (T74 B p0 k0) k:=by
 unfold T74
 repeat' first | exact rfl | apply qac | (apply qai;intro)
def F74 (p0:Int):Option (Int):=T74 Ops.std p0 some
abbrev C74:Type:=Int→Option (Int)
def e74 {R:Type} (c:C74):Ent R:=eG [.aC (.cI .i64)] [] fun v k=>ob (c v.1) (K1 k)
abbrev Sp74 (c:C74):Prop:=∀ (p0 y:Int),c p0=some y→Spec Tryz.prog gl0 74 [.c (.int .i64 p0)] [] (.c (.int .i64 y)) []
theorem ek74 {R:Type} {c:C74} (hs:Sp74 c):EOk 74 (e74 (R:=R) c):=qak fun v=>hs v.1
theorem sf74:Sp74 (F74):=fun p0 y hy=>by
 refine qae qad 1000000 (fn:=Tryz.f74) (by kernel_rfl) (by kernel_rfl) (X:=X74) (by kernel_rfl) ?_
 rw [eq74]
 exact (nt74 Ops.std p0 some (K1 k0)).trans (by show ob (F74 p0) _=_;rw [hy];rfl)
noncomputable def M74:C74:=F74
theorem sm74:Sp74 M74:=sf74
def X130:Aux:=⟨[(5,([0,3,4]++rg 7 21))],[(7,.lin ([0,1,2,3,4,5,6,7,9,8,10,11]))]⟩
inductive S130 where
 | l0 (v1:Int)
def T130 {R:Type} (B:Ops) (c74:C74) (p0:Int) (p1:LB) (p2 p3 p4:Int) (again:S130→Option R) (k:(Int)→Option R):Option S130→Option R | none=>cond (!B.eq p0 4) (k 0) (again (.l0 6)) | some (.l0 v1)=>cond (B.le v1 16) (cond (B.inb v1 17) (cond (List.getD ((mt UInt8)::(mt UInt8)::(mt UInt8)::(mt UInt8)::(mt UInt8)::(mt UInt8)::([42]:LB)::([43]:LB)::([45]:LB)::([60]:LB)::([60,61]:LB)::([62]:LB)::([62,61]:LB)::([61,61]:LB)::([33,61]:LB)::([38,38]:LB)::([124,124]:LB)::mt LB) v1.toNat (mt UInt8) == p1) (ob (c74 v1) fun y0=>cond (B.eq y0 p4) (k v1) (again (.l0 (IntKind.wrap .i64 (v1+1))))) (again (.l0 (IntKind.wrap .i64 (v1+1))))) none) (k 0)
def E130 (p0:Int) (p1:LB) (p2 p3 p4:Int):S130→List AV×Objs
 | .l0 v1=>(mk 28 [(1,.c (.int .i64 p4)),(2,.c (.ptr 2 0)),(5,.c (.ptr 5 0)),(6,.c (.int .i64 v1))],[(2,.box 52 [.int .i64 p0,.str p1,.int .i64 p2,.int .i64 p3]),(5,.box 120 [.str (mt UInt8),.str (mt UInt8),.str (mt UInt8),.str (mt UInt8),.str (mt UInt8),.str (mt UInt8),.str ([42]:LB),.str ([43]:LB),.str ([45]:LB),.str ([60]:LB),.str ([60,61]:LB),.str ([62]:LB),.str ([62,61]:LB),.str ([61,61]:LB),.str ([33,61]:LB),.str ([38,38]:LB),.str ([124,124]:LB)])])
def I130:S130→Nat
 | .l0 _=>0
noncomputable abbrev A130 {R:Type} (B:Ops) (c74:C74) (p0:Int) (p1:LB) (p2 p3 p4:Int) (k:AV→Objs→Option R) (s:S130) (n:Nat):Option R:=aloop tau B gl0 X130 (ent 74 (e74 c74) gnil) ow [] Tryz.f130 k (I130 s) (E130 p0 p1 p2 p3 p4 s) n
theorem eq130 {R:Type} (B:Ops) (c74:C74) (p0:Int) (p1:LB) (p2 p3 p4:Int) (k:AV→Objs→Option R) (n:Nat):afun tau B gl0 X130 (ent 74 (e74 c74) gnil) ow Tryz.f130 [.agg [.int .i64 p0,.str p1,.int .i64 p2,.int .i64 p3],.c (.int .i64 p4)] [] k n=T130 B c74 p0 p1 p2 p3 p4 (fun s=>A130 B c74 p0 p1 p2 p3 p4 k s n) (K1 k) none:=by kernel_rfl
theorem el130 {R:Type} (B:Ops) (c74:C74) (p0:Int) (p1:LB) (p2 p3 p4:Int) (k:AV→Objs→Option R) (n:Nat):∀ s,A130 B c74 p0 p1 p2 p3 p4 k s (n+1)=T130 B c74 p0 p1 p2 p3 p4 (fun s=>A130 B c74 p0 p1 p2 p3 p4 k s n) (K1 k) (some s):=by
 intro s
 cases s<;>kernel_rfl
theorem nt130 {R R':Type} (B:Ops) (c74:C74) (p0:Int) (p1:LB) (p2 p3 p4:Int) (again:S130→Option R) (again':S130→Option R') (k0:(Int)→Option R') (k:R'→Option R) (h:∀ s,again s=ob (again' s) k):∀ s,T130 B c74 p0 p1 p2 p3 p4 again (fun y=>ob (k0 y) k) s=ob (T130 B c74 p0 p1 p2 p3 p4 again' k0 s) k:=by
 rintro (_ | x)
 all_goals try cases x
 all_goals (unfold T130;repeat' first | exact rfl | exact h _ | apply qac | (apply qai;intro))
def R130 (c74:C74) (p0:Int) (p1:LB) (p2 p3 p4:Int):Nat→S130→Option (Int)
 | 0,_=>none
 | n+1,s=>T130 Ops.std c74 p0 p1 p2 p3 p4 (R130 c74 p0 p1 p2 p3 p4 n) some (some s)
theorem rr130 {R:Type} (c74:C74) (p0:Int) (p1:LB) (p2 p3 p4:Int) (k:AV→Objs→Option R):∀ (n:Nat) (s:S130),A130 Ops.std c74 p0 p1 p2 p3 p4 k s n=ob (R130 c74 p0 p1 p2 p3 p4 n s) (K1 k)
 | 0,s=>by cases s<;>rfl
 | n+1,s=>by rw [el130];exact nt130 Ops.std c74 p0 p1 p2 p3 p4 _ _ some (K1 k) (rr130 c74 p0 p1 p2 p3 p4 k n) (some s)
def F130 (c74:C74) (p0:Int) (p1:LB) (p2 p3 p4:Int):Option (Int):=T130 Ops.std c74 p0 p1 p2 p3 p4 (R130 c74 p0 p1 p2 p3 p4 1000000) some none
abbrev C130:Type:=Int→LB→Int→Int→Int→Option (Int)
def e130 {R:Type} (c:C130):Ent R:=eG [.aG [.cI .i64,.cS,.cI .i64,.cI .i64],.aC (.cI .i64)] [] fun v k=>ob (c v.1 v.2.1 v.2.2.1 v.2.2.2.1 v.2.2.2.2.1) (K1 k)
abbrev Sp130 (c:C130):Prop:=∀ (p0:Int) (p1:LB) (p2 p3 p4 y:Int),c p0 p1 p2 p3 p4=some y→Spec Tryz.prog gl0 130 [.agg [.int .i64 p0,.str p1,.int .i64 p2,.int .i64 p3],.c (.int .i64 p4)] [] (.c (.int .i64 y)) []
theorem ek130 {R:Type} {c:C130} (hs:Sp130 c):EOk 130 (e130 (R:=R) c):=qak fun v=>hs v.1 v.2.1 v.2.2.1 v.2.2.2.1 v.2.2.2.2.1
theorem sf130 {c74:C74} (h74:Sp74 c74):Sp130 (F130 c74):=fun p0 p1 p2 p3 p4 y hy=>by
 refine qae (qab (ek74 h74) qad) 1000000 (fn:=Tryz.f130) (by kernel_rfl) (by kernel_rfl) (X:=X130) (by kernel_rfl) ?_
 rw [eq130]
 exact (nt130 Ops.std c74 p0 p1 p2 p3 p4 _ _ some (K1 k0) (rr130 c74 p0 p1 p2 p3 p4 k0 1000000) none).trans (by show ob (F130 c74 p0 p1 p2 p3 p4) _=_;rw [hy];rfl)
noncomputable def M130:C130:=F130 M74
theorem sm130:Sp130 M130:=sf130 sm74
abbrev C119:Type:=Int→L52→Int→Int→L63→Option (L52×Int×Int×L63)
def e119 {R:Type} (c:C119):Ent R:=eG [.aC (.cP 0),.aC (.cI .i64)] [.oB 0 170 [.cL 52 ty52,.cI .i64,.cO 1002,.cI .i64],.oR 1002 63 ty63] fun v k=>ob (c v.1 v.2.1 v.2.2.1 v.2.2.2.1 v.2.2.2.2.1) (K29 k)
abbrev Sp119 (c:C119):Prop:=∀ (p0:Int) (p1:L52) (p2 p3:Int) (p4:L63) (y:L52×Int×Int×L63),c p0 p1 p2 p3 p4=some y→Spec Tryz.prog gl0 119 [.c (.ptr 0 0),.c (.int .i64 p0)] [(0,.box 170 [.list 52 ty52 p1,.int .i64 p2,.own 1002,.int .i64 p3]),(1002,.row 63 ty63 p4)] (.tup []) [(0,.box 170 [.list 52 ty52 y.1,.int .i64 y.2.1,.own 1002,.int .i64 y.2.2.1]),(1002,.row 63 ty63 y.2.2.2)]
theorem ek119 {R:Type} {c:C119} (hs:Sp119 c):EOk 119 (e119 (R:=R) c):=qak fun v=>hs v.1 v.2.1 v.2.2.1 v.2.2.2.1 v.2.2.2.2.1
abbrev C129:Type:=L52→Int→Int→L63→Option (L52×Int×Int×L63)
def e129 {R:Type} (c:C129):Ent R:=eG [.aC (.cP 0)] [.oB 0 170 [.cL 52 ty52,.cI .i64,.cO 1002,.cI .i64],.oR 1002 63 ty63] fun v k=>ob (c v.1 v.2.1 v.2.2.1 v.2.2.2.1) (K29 k)
abbrev Sp129 (c:C129):Prop:=∀ (p0:L52) (p1 p2:Int) (p3:L63) (y:L52×Int×Int×L63),c p0 p1 p2 p3=some y→Spec Tryz.prog gl0 129 [.c (.ptr 0 0)] [(0,.box 170 [.list 52 ty52 p0,.int .i64 p1,.own 1002,.int .i64 p2]),(1002,.row 63 ty63 p3)] (.tup []) [(0,.box 170 [.list 52 ty52 y.1,.int .i64 y.2.1,.own 1002,.int .i64 y.2.2.1]),(1002,.row 63 ty63 y.2.2.2)]
theorem ek129 {R:Type} {c:C129} (hs:Sp129 c):EOk 129 (e129 (R:=R) c):=qak fun v=>hs v.1 v.2.1 v.2.2.1 v.2.2.2.1
def X119:Aux:=⟨[(3,(rg 2 54))],[(4,.lin (rg 0 13))]⟩
inductive S119 where
 | l0 (v1:L52) (v2 v3:Int) (v4:L63)
def T119 {R:Type} (B:Ops) (c129:C129) (c119:C119) (c130:C130) (p0:Int) (p1:L52) (p2 p3:Int) (p4:L63) (again:S119→Option R) (k:(L52×Int×Int×L63)→Option R):Option S119→Option R | none=>cond (B.lt 5 p0) (ob (c129 p1 p2 p3 p4) fun y0=>k (y0.1,y0.2.1,y0.2.2.1,y0.2.2.2)) (ob (c119 (IntKind.wrap .i64 (p0+1)) p1 p2 p3 p4) fun y0=>again (.l0 y0.1 y0.2.1 y0.2.2.1 y0.2.2.2)) | some (.l0 v1 v2 v3 v4)=>cond (B.lt v3 0) (cond (B.inb v2 v1.length) (ob (c130 (v1.getD v2.toNat ty52.dflt).1 ((v1.getD v2.toNat ty52.dflt).2).1 (((v1.getD v2.toNat ty52.dflt).2).2).1 (((v1.getD v2.toNat ty52.dflt).2).2).2 p0) fun y0=>cond (B.eq y0 0) (k (v1,v2,v3,v4)) (ob (c119 (IntKind.wrap .i64 (p0+1)) v1 (IntKind.wrap .i64 (v2+1)) v3 v4) fun y1=>cond (B.lim (List.length (y1.2.2.2)+List.length ((y0,0,mt UInt8,mt UInt8)::mt (Ty.den ty63))) 48) (cond (B.eq p0 3) (k ((y1.1,y1.2.1,y1.2.2.1,y1.2.2.2++(y0,0,mt UInt8,mt UInt8)::mt (Ty.den ty63)))) (again (.l0 y1.1 y1.2.1 y1.2.2.1 (y1.2.2.2++(y0,0,mt UInt8,mt UInt8)::mt (Ty.den ty63))))) none)) none) (k (v1,v2,v3,v4))
def E119 (p0:Int) (p1:L52) (p2 p3:Int) (p4:L63):S119→List AV×Objs
 | .l0 v1 v2 v3 v4=>(mk 56 [(0,.c (.ptr 0 0)),(1,.c (.int .i64 p0))],[(0,.box 170 [.list 52 ty52 v1,.int .i64 v2,.own 1002,.int .i64 v3]),(1002,.row 63 ty63 v4)])
def I119:S119→Nat
 | .l0 _ _ _ _=>0
noncomputable abbrev A119 {R:Type} (B:Ops) (c129:C129) (c119:C119) (c130:C130) (p0:Int) (p1:L52) (p2 p3:Int) (p4:L63) (k:AV→Objs→Option R) (s:S119) (n:Nat):Option R:=aloop tau B gl0 X119 (ent 129 (e129 c129) (ent 119 (e119 c119) (ent 130 (e130 c130) gnil))) ow [0] Tryz.f119 k (I119 s) (E119 p0 p1 p2 p3 p4 s) n
theorem eq119 {R:Type} (B:Ops) (c129:C129) (c119:C119) (c130:C130) (p0:Int) (p1:L52) (p2 p3:Int) (p4:L63) (k:AV→Objs→Option R) (n:Nat):afun tau B gl0 X119 (ent 129 (e129 c129) (ent 119 (e119 c119) (ent 130 (e130 c130) gnil))) ow Tryz.f119 [.c (.ptr 0 0),.c (.int .i64 p0)] [(0,.box 170 [.list 52 ty52 p1,.int .i64 p2,.own 1002,.int .i64 p3]),(1002,.row 63 ty63 p4)] k n=T119 B c129 c119 c130 p0 p1 p2 p3 p4 (fun s=>A119 B c129 c119 c130 p0 p1 p2 p3 p4 k s n) (K29 k) none:=by kernel_rfl
theorem el119 {R:Type} (B:Ops) (c129:C129) (c119:C119) (c130:C130) (p0:Int) (p1:L52) (p2 p3:Int) (p4:L63) (k:AV→Objs→Option R) (n:Nat):∀ s,A119 B c129 c119 c130 p0 p1 p2 p3 p4 k s (n+1)=T119 B c129 c119 c130 p0 p1 p2 p3 p4 (fun s=>A119 B c129 c119 c130 p0 p1 p2 p3 p4 k s n) (K29 k) (some s):=by
 intro s
 cases s<;>kernel_rfl
theorem nt119 {R R':Type} (B:Ops) (c129:C129) (c119:C119) (c130:C130) (p0:Int) (p1:L52) (p2 p3:Int) (p4:L63) (again:S119→Option R) (again':S119→Option R') (k0:(L52×Int×Int×L63)→Option R') (k:R'→Option R) (h:∀ s,again s=ob (again' s) k):∀ s,T119 B c129 c119 c130 p0 p1 p2 p3 p4 again (fun y=>ob (k0 y) k) s=ob (T119 B c129 c119 c130 p0 p1 p2 p3 p4 again' k0 s) k:=by
 rintro (_ | x)
 all_goals try cases x
 all_goals (unfold T119;repeat' first | exact rfl | exact h _ | apply qac | (apply qai;intro))
def R119 (c129:C129) (c119:C119) (c130:C130) (p0:Int) (p1:L52) (p2 p3:Int) (p4:L63):Nat→S119→Option (L52×Int×Int×L63)
 | 0,_=>none
 | n+1,s=>T119 Ops.std c129 c119 c130 p0 p1 p2 p3 p4 (R119 c129 c119 c130 p0 p1 p2 p3 p4 n) some (some s)
theorem rr119 {R:Type} (c129:C129) (c119:C119) (c130:C130) (p0:Int) (p1:L52) (p2 p3:Int) (p4:L63) (k:AV→Objs→Option R):∀ (n:Nat) (s:S119),A119 Ops.std c129 c119 c130 p0 p1 p2 p3 p4 k s n=ob (R119 c129 c119 c130 p0 p1 p2 p3 p4 n s) (K29 k)
 | 0,s=>by cases s<;>rfl
 | n+1,s=>by rw [el119];exact nt119 Ops.std c129 c119 c130 p0 p1 p2 p3 p4 _ _ some (K29 k) (rr119 c129 c119 c130 p0 p1 p2 p3 p4 k n) (some s)
def F119 (c129:C129) (c119:C119) (c130:C130) (p0:Int) (p1:L52) (p2 p3:Int) (p4:L63):Option (L52×Int×Int×L63):=T119 Ops.std c129 c119 c130 p0 p1 p2 p3 p4 (R119 c129 c119 c130 p0 p1 p2 p3 p4 1000000) some none
theorem sf119 {c129:C129} {c119:C119} {c130:C130} (h129:Sp129 c129) (h119:Sp119 c119) (h130:Sp130 c130):Sp119 (F119 c129 c119 c130):=fun p0 p1 p2 p3 p4 y hy=>by
 refine qae (qab (ek129 h129) (qab (ek119 h119) (qab (ek130 h130) qad))) 1000000 (fn:=Tryz.f119) (by kernel_rfl) (by kernel_rfl) (X:=X119) (by kernel_rfl) ?_
 rw [eq119]
 exact (nt119 Ops.std c129 c119 c130 p0 p1 p2 p3 p4 _ _ some (K29 k0) (rr119 c129 c119 c130 p0 p1 p2 p3 p4 k0 1000000) none).trans (by show ob (F119 c129 c119 c130 p0 p1 p2 p3 p4) _=_;rw [hy];rfl)
def X129:Aux:=⟨[(1000006,([1]++rg 3 167))],[(10,.lin (rg 0 12)),(14,.lin (rg 0 13)),(20,.lin (rg 0 12)),(23,.lin (rg 0 13)),(25,.lin (rg 0 11))]⟩
inductive S129 where
 | l1006 (v0:Int) (v1:L52) (v2 v3:Int) (v4:L63)
def T129 {R:Type} (B:Ops) (c134:C134) (c129:C129) (c135:C135) (c119:C119) (p0:L52) (p1 p2:Int) (p3:L63) (again:S129→Option R) (k:(L52×Int×Int×L63)→Option R):Option S129→Option R | none=>cond (B.le 0 p2) (k (p0,p1,p2,p3)) (ob (c134 ([33]:LB) p0 p1 p2 p3) fun y0=>cond y0.1 (again (.l1006 4 y0.2.1 y0.2.2.1 y0.2.2.2.1 y0.2.2.2.2)) (ob (c134 ([45]:LB) y0.2.1 y0.2.2.1 y0.2.2.2.1 y0.2.2.2.2) fun y1=>cond y1.1 (again (.l1006 5 y1.2.1 y1.2.2.1 y1.2.2.2.1 y1.2.2.2.2)) (again (.l1006 0 y1.2.1 y1.2.2.1 y1.2.2.2.1 y1.2.2.2.2)))) | some (.l1006 v0 v1 v2 v3 v4)=>cond (!B.eq v0 0) (ob (c129 v1 (IntKind.wrap .i64 (v2+1)) v3 v4) fun y0=>cond (B.lim (List.length (y0.2.2.2)+List.length ((v0,0,mt UInt8,mt UInt8)::mt (Ty.den ty63))) 48) (k ((y0.1,y0.2.1,y0.2.2.1,y0.2.2.2++(v0,0,mt UInt8,mt UInt8)::mt (Ty.den ty63)))) none) (cond (B.inb v2 v1.length) (cond (B.eq (v1.getD v2.toNat ty52.dflt).1 1) (cond (B.lim (List.length v4+List.length ((1,(((v1.getD v2.toNat ty52.dflt).2).2).1,mt UInt8,mt UInt8)::mt (Ty.den ty63))) 48) (k ((v1,IntKind.wrap .i64 (v2+1),v3,v4++(1,(((v1.getD v2.toNat ty52.dflt).2).2).1,mt UInt8,mt UInt8)::mt (Ty.den ty63)))) none) (cond (B.eq (v1.getD v2.toNat ty52.dflt).1 2) (ob (c134 ([64]:LB) v1 (IntKind.wrap .i64 (v2+1)) v3 v4) fun y0=>cond y0.1 (cond (B.inb (IntKind.wrap .i64 (y0.2.2.1+1)) (List.length y0.2.1)) (cond (!B.eq (List.getD y0.2.1 (Int.toNat (IntKind.wrap .i64 (y0.2.2.1+1))) ty52.dflt).1 2) (ob (c135 y0.2.1 (IntKind.wrap .i64 (y0.2.2.1+1)) y0.2.2.2.1 y0.2.2.2.2) fun y1=>k (y1.1,y1.2.1,y1.2.2.1,y1.2.2.2)) (cond (B.inb (IntKind.wrap .i64 (y0.2.2.1+1)) (List.length y0.2.1)) (cond (B.lim (List.length (y0.2.2.2.2)+List.length ((3,0,((v1.getD v2.toNat ty52.dflt).2).1,((List.getD y0.2.1 (Int.toNat (IntKind.wrap .i64 (y0.2.2.1+1))) ty52.dflt).2).1)::mt (Ty.den ty63))) 48) (k ((y0.2.1,IntKind.wrap .i64 (IntKind.wrap .i64 (y0.2.2.1+1)+1),y0.2.2.2.1,y0.2.2.2.2++(3,0,((v1.getD v2.toNat ty52.dflt).2).1,((List.getD y0.2.1 (Int.toNat (IntKind.wrap .i64 (y0.2.2.1+1))) ty52.dflt).2).1)::mt (Ty.den ty63)))) none) none)) none) (cond (B.lim (List.length (y0.2.2.2.2)+List.length ((2,0,((v1.getD v2.toNat ty52.dflt).2).1,mt UInt8)::mt (Ty.den ty63))) 48) (k ((y0.2.1,y0.2.2.1,y0.2.2.2.1,y0.2.2.2.2++(2,0,((v1.getD v2.toNat ty52.dflt).2).1,mt UInt8)::mt (Ty.den ty63)))) none)) (ob (c134 ([40]:LB) v1 v2 v3 v4) fun y0=>cond y0.1 (ob (c119 1 y0.2.1 (IntKind.wrap .i64 (y0.2.2.1+1)) y0.2.2.2.1 y0.2.2.2.2) fun y1=>cond (B.le 0 y1.2.2.1) (k (y1.1,y1.2.1,y1.2.2.1,y1.2.2.2)) (ob (c134 ([41]:LB) y1.1 y1.2.1 y1.2.2.1 y1.2.2.2) fun y2=>cond (!y2.1) (ob (c135 y2.2.1 y2.2.2.1 y2.2.2.2.1 y2.2.2.2.2) fun y3=>k (y3.1,y3.2.1,y3.2.2.1,y3.2.2.2)) (k ((y2.2.1,IntKind.wrap .i64 (y2.2.2.1+1),y2.2.2.2.1,y2.2.2.2.2))))) (ob (c135 y0.2.1 y0.2.2.1 y0.2.2.2.1 y0.2.2.2.2) fun y1=>k (y1.1,y1.2.1,y1.2.2.1,y1.2.2.2))))) none)
def E129 (p0:L52) (p1 p2:Int) (p3:L63):S129→List AV×Objs
 | .l1006 v0 v1 v2 v3 v4=>(mk 170 [(0,.c (.ptr 0 0)),(2,.c (.int .i64 v0))],[(0,.box 170 [.list 52 ty52 v1,.int .i64 v2,.own 1002,.int .i64 v3]),(1002,.row 63 ty63 v4)])
def I129:S129→Nat
 | .l1006 _ _ _ _ _=>1006
noncomputable abbrev A129 {R:Type} (B:Ops) (c134:C134) (c129:C129) (c135:C135) (c119:C119) (p0:L52) (p1 p2:Int) (p3:L63) (k:AV→Objs→Option R) (s:S129) (n:Nat):Option R:=aloop tau B gl0 X129 (ent 134 (e134 c134) (ent 129 (e129 c129) (ent 135 (e135 c135) (ent 119 (e119 c119) gnil)))) ow [0] Tryz.f129 k (I129 s) (E129 p0 p1 p2 p3 s) n
theorem eq129 {R:Type} (B:Ops) (c134:C134) (c129:C129) (c135:C135) (c119:C119) (p0:L52) (p1 p2:Int) (p3:L63) (k:AV→Objs→Option R) (n:Nat):afun tau B gl0 X129 (ent 134 (e134 c134) (ent 129 (e129 c129) (ent 135 (e135 c135) (ent 119 (e119 c119) gnil)))) ow Tryz.f129 [.c (.ptr 0 0)] [(0,.box 170 [.list 52 ty52 p0,.int .i64 p1,.own 1002,.int .i64 p2]),(1002,.row 63 ty63 p3)] k n=T129 B c134 c129 c135 c119 p0 p1 p2 p3 (fun s=>A129 B c134 c129 c135 c119 p0 p1 p2 p3 k s n) (K29 k) none:=by kernel_rfl
theorem el129 {R:Type} (B:Ops) (c134:C134) (c129:C129) (c135:C135) (c119:C119) (p0:L52) (p1 p2:Int) (p3:L63) (k:AV→Objs→Option R) (n:Nat):∀ s,A129 B c134 c129 c135 c119 p0 p1 p2 p3 k s (n+1)=T129 B c134 c129 c135 c119 p0 p1 p2 p3 (fun s=>A129 B c134 c129 c135 c119 p0 p1 p2 p3 k s n) (K29 k) (some s):=by
 intro s
 cases s<;>kernel_rfl
theorem nt129 {R R':Type} (B:Ops) (c134:C134) (c129:C129) (c135:C135) (c119:C119) (p0:L52) (p1 p2:Int) (p3:L63) (again:S129→Option R) (again':S129→Option R') (k0:(L52×Int×Int×L63)→Option R') (k:R'→Option R) (h:∀ s,again s=ob (again' s) k):∀ s,T129 B c134 c129 c135 c119 p0 p1 p2 p3 again (fun y=>ob (k0 y) k) s=ob (T129 B c134 c129 c135 c119 p0 p1 p2 p3 again' k0 s) k:=by
 rintro (_ | x)
 all_goals try cases x
 all_goals (unfold T129;repeat' first | exact rfl | exact h _ | apply qac | (apply qai;intro))
def R129 (c134:C134) (c129:C129) (c135:C135) (c119:C119) (p0:L52) (p1 p2:Int) (p3:L63):Nat→S129→Option (L52×Int×Int×L63)
 | 0,_=>none
 | n+1,s=>T129 Ops.std c134 c129 c135 c119 p0 p1 p2 p3 (R129 c134 c129 c135 c119 p0 p1 p2 p3 n) some (some s)
theorem rr129 {R:Type} (c134:C134) (c129:C129) (c135:C135) (c119:C119) (p0:L52) (p1 p2:Int) (p3:L63) (k:AV→Objs→Option R):∀ (n:Nat) (s:S129),A129 Ops.std c134 c129 c135 c119 p0 p1 p2 p3 k s n=ob (R129 c134 c129 c135 c119 p0 p1 p2 p3 n s) (K29 k)
 | 0,s=>by cases s<;>rfl
 | n+1,s=>by rw [el129];exact nt129 Ops.std c134 c129 c135 c119 p0 p1 p2 p3 _ _ some (K29 k) (rr129 c134 c129 c135 c119 p0 p1 p2 p3 k n) (some s)
def F129 (c134:C134) (c129:C129) (c135:C135) (c119:C119) (p0:L52) (p1 p2:Int) (p3:L63):Option (L52×Int×Int×L63):=T129 Ops.std c134 c129 c135 c119 p0 p1 p2 p3 (R129 c134 c129 c135 c119 p0 p1 p2 p3 1000000) some none
theorem sf129 {c134:C134} {c129:C129} {c135:C135} {c119:C119} (h134:Sp134 c134) (h129:Sp129 c129) (h135:Sp135 c135) (h119:Sp119 c119):Sp129 (F129 c134 c129 c135 c119):=fun p0 p1 p2 p3 y hy=>by
 refine qae (qab (ek134 h134) (qab (ek129 h129) (qab (ek135 h135) (qab (ek119 h119) qad)))) 1000000 (fn:=Tryz.f129) (by kernel_rfl) (by kernel_rfl) (X:=X129) (by kernel_rfl) ?_
 rw [eq129]
 exact (nt129 Ops.std c134 c129 c135 c119 p0 p1 p2 p3 _ _ some (K29 k0) (rr129 c134 c129 c135 c119 p0 p1 p2 p3 k0 1000000) none).trans (by show ob (F129 c134 c129 c135 c119 p0 p1 p2 p3) _=_;rw [hy];rfl)
noncomputable def Rec119:Nat→(Int→L52→Int→Int→L63→Option (L52×Int×Int×L63))×(L52→Int→Int→L63→Option (L52×Int×Int×L63))
 | 0=>(fun _ _ _ _ _=>none,fun _ _ _ _=>none)
 | d+1=>(F119 (Rec119 d).2 (Rec119 d).1 M130,F129 M134 (Rec119 d).2 M135 (Rec119 d).1)
theorem rec119:∀ d,Sp119 (Rec119 d).1∧Sp129 (Rec119 d).2
 | 0=>⟨(fun p0 p1 p2 p3 p4 y (h:(none:Option (L52×Int×Int×L63))=some y)=>by cases h),(fun p0 p1 p2 p3 y (h:(none:Option (L52×Int×Int×L63))=some y)=>by cases h)⟩
 | d+1=>⟨sf119 (rec119 d).2 (rec119 d).1 sm130,sf129 sm134 (rec119 d).2 sm135 (rec119 d).1⟩
noncomputable def M119:C119:=(Rec119 1000000).1
theorem sm119:Sp119 M119:=(rec119 1000000).1
def X84:Aux:=⟨[],[(4,.lin [0,1,2,3,4,5,6]),(7,.lin (rg 0 11))]⟩
def T84 {R:Type} (B:Ops) (c119:C119) (p0:L52) (p1:Int) (k:(Int×Int×L63)→Option R):Option R:=ob (c119 1 p0 p1 (-1) (mt (Ty.den ty63))) fun y0=>cond (B.le 0 y0.2.2.1) (k ((y0.2.2.1,2,mt (Ty.den ty63)))) (cond (B.lt 30 (Nat.cast (List.length y0.2.2.2))) (k ((p1,13,mt (Ty.den ty63)))) (k (y0.2.1,0,y0.2.2.2)))
theorem eq84 {R:Type} (B:Ops) (c119:C119) (p0:L52) (p1:Int) (k:AV→Objs→Option R) (n:Nat):afun tau B gl0 X84 (ent 119 (e119 c119) gnil) ow Tryz.f84 [.c (.list 52 ty52 p0),.c (.int .i64 p1)] [] k n=T84 B c119 p0 p1 (K23 k):=by kernel_rfl
theorem nt84 {R R':Type} (B:Ops) (c119:C119) (p0:L52) (p1:Int) (k0:(Int×Int×L63)→Option R') (k:R'→Option R):T84 B c119 p0 p1 (fun y=>ob (k0 y) k)=ob (T84 B c119 p0 p1 k0) k:=by
 unfold T84
 repeat' first | exact rfl | apply qac | (apply qai;intro)
def F84 (c119:C119) (p0:L52) (p1:Int):Option (Int×Int×L63):=T84 Ops.std c119 p0 p1 some
abbrev C84:Type:=L52→Int→Option (Int×Int×L63)
def e84 {R:Type} (c:C84):Ent R:=eG [.aC (.cL 52 ty52),.aC (.cI .i64)] [] fun v k=>ob (c v.1 v.2.1) (K23 k)
abbrev Sp84 (c:C84):Prop:=∀ (p0:L52) (p1:Int) (y:Int×Int×L63),c p0 p1=some y→Spec Tryz.prog gl0 84 [.c (.list 52 ty52 p0),.c (.int .i64 p1)] [] (.tup [(false,[.own 501000]),(false,[.int .i64 y.1]),(false,[.int .i64 y.2.1])]) [(501000,.row 63 ty63 y.2.2)]
theorem ek84 {R:Type} {c:C84} (hs:Sp84 c):EOk 84 (e84 (R:=R) c):=qak fun v=>hs v.1 v.2.1
theorem sf84 {c119:C119} (h119:Sp119 c119):Sp84 (F84 c119):=fun p0 p1 y hy=>by
 refine qae (qab (ek119 h119) qad) 1000000 (fn:=Tryz.f84) (by kernel_rfl) (by kernel_rfl) (X:=X84) (by kernel_rfl) ?_
 rw [eq84]
 exact (nt84 Ops.std c119 p0 p1 some (K23 k0)).trans (by show ob (F84 c119 p0 p1) _=_;rw [hy];rfl)
noncomputable def M84:C84:=F84 M119
theorem sm84:Sp84 M84:=sf84 sm119
abbrev C19:Type:=Int→L52→Int→Int→Int→L61→Option (L52×Int×Int×Int×L61)
def e19 {R:Type} (c:C19):Ent R:=eG [.aC (.cP 0),.aC (.cI .i64)] [.oB 0 49 [.cL 52 ty52,.cI .i64,.cO 1002,.cI .i64,.cI .i64],.oR 1002 61 ty61] fun v k=>ob (c v.1 v.2.1 v.2.2.1 v.2.2.2.1 v.2.2.2.2.1 v.2.2.2.2.2.1) (K26 k)
abbrev Sp19 (c:C19):Prop:=∀ (p0:Int) (p1:L52) (p2 p3 p4:Int) (p5:L61) (y:L52×Int×Int×Int×L61),c p0 p1 p2 p3 p4 p5=some y→Spec Tryz.prog gl0 19 [.c (.ptr 0 0),.c (.int .i64 p0)] [(0,.box 49 [.list 52 ty52 p1,.int .i64 p2,.own 1002,.int .i64 p3,.int .i64 p4]),(1002,.row 61 ty61 p5)] (.tup []) [(0,.box 49 [.list 52 ty52 y.1,.int .i64 y.2.1,.own 1002,.int .i64 y.2.2.1,.int .i64 y.2.2.2.1]),(1002,.row 61 ty61 y.2.2.2.2)]
theorem ek19 {R:Type} {c:C19} (hs:Sp19 c):EOk 19 (e19 (R:=R) c):=qak fun v=>hs v.1 v.2.1 v.2.2.1 v.2.2.2.1 v.2.2.2.2.1 v.2.2.2.2.2.1
abbrev C48:Type:=L52→Int→Int→Int→L61→Option (L52×Int×Int×Int×L61)
def e48 {R:Type} (c:C48):Ent R:=eG [.aC (.cP 0)] [.oB 0 49 [.cL 52 ty52,.cI .i64,.cO 1002,.cI .i64,.cI .i64],.oR 1002 61 ty61] fun v k=>ob (c v.1 v.2.1 v.2.2.1 v.2.2.2.1 v.2.2.2.2.1) (K26 k)
abbrev Sp48 (c:C48):Prop:=∀ (p0:L52) (p1 p2 p3:Int) (p4:L61) (y:L52×Int×Int×Int×L61),c p0 p1 p2 p3 p4=some y→Spec Tryz.prog gl0 48 [.c (.ptr 0 0)] [(0,.box 49 [.list 52 ty52 p0,.int .i64 p1,.own 1002,.int .i64 p2,.int .i64 p3]),(1002,.row 61 ty61 p4)] (.tup []) [(0,.box 49 [.list 52 ty52 y.1,.int .i64 y.2.1,.own 1002,.int .i64 y.2.2.1,.int .i64 y.2.2.2.1]),(1002,.row 61 ty61 y.2.2.2.2)]
theorem ek48 {R:Type} {c:C48} (hs:Sp48 c):EOk 48 (e48 (R:=R) c):=qak fun v=>hs v.1 v.2.1 v.2.2.1 v.2.2.2.1 v.2.2.2.2.1
def X19:Aux:=⟨[(3,(rg 2 52))],[]⟩
inductive S19 where
 | l0 (v1:L52) (v2 v3 v4:Int) (v5:L61)
def T19 {R:Type} (B:Ops) (c48:C48) (c19:C19) (c49:C49) (p0:Int) (p1:L52) (p2 p3 p4:Int) (p5:L61) (again:S19→Option R) (k:(L52×Int×Int×Int×L61)→Option R):Option S19→Option R | none=>cond (B.lt 4 p0) (ob (c48 p1 p2 p3 p4 p5) fun y0=>k (y0.1,y0.2.1,y0.2.2.1,y0.2.2.2.1,y0.2.2.2.2)) (ob (c19 (IntKind.wrap .i64 (p0+1)) p1 p2 p3 p4 p5) fun y0=>again (.l0 y0.1 y0.2.1 y0.2.2.1 y0.2.2.2.1 y0.2.2.2.2)) | some (.l0 v1 v2 v3 v4 v5)=>cond (B.eq v3 0) (ob (c49 p0 v1 v2 v3 v4 v5) fun y0=>cond (B.eq y0.1 0) (k (y0.2.1,y0.2.2.1,y0.2.2.2.1,y0.2.2.2.2.1,y0.2.2.2.2.2)) (cond (B.eq p0 1) (ob (c19 p0 y0.2.1 (IntKind.wrap .i64 (y0.2.2.1+1)) y0.2.2.2.1 y0.2.2.2.2.1 y0.2.2.2.2.2) fun y1=>cond (B.lim (List.length (y1.2.2.2.2)+List.length ((y0.1,mt (Ty.den ty63))::mt (Ty.den ty61))) 32) (again (.l0 y1.1 y1.2.1 y1.2.2.1 y1.2.2.2.1 (y1.2.2.2.2++(y0.1,mt (Ty.den ty63))::mt (Ty.den ty61)))) none) (cond (B.eq p0 4) (ob (c19 p0 y0.2.1 (IntKind.wrap .i64 (y0.2.2.1+1)) y0.2.2.2.1 y0.2.2.2.2.1 y0.2.2.2.2.2) fun y1=>cond (B.lim (List.length (y1.2.2.2.2)+List.length ((y0.1,mt (Ty.den ty63))::mt (Ty.den ty61))) 32) (again (.l0 y1.1 y1.2.1 y1.2.2.1 y1.2.2.2.1 (y1.2.2.2.2++(y0.1,mt (Ty.den ty63))::mt (Ty.den ty61)))) none) (ob (c19 (IntKind.wrap .i64 (p0+1)) y0.2.1 (IntKind.wrap .i64 (y0.2.2.1+1)) y0.2.2.2.1 y0.2.2.2.2.1 y0.2.2.2.2.2) fun y1=>cond (B.lim (List.length (y1.2.2.2.2)+List.length ((y0.1,mt (Ty.den ty63))::mt (Ty.den ty61))) 32) (again (.l0 y1.1 y1.2.1 y1.2.2.1 y1.2.2.2.1 (y1.2.2.2.2++(y0.1,mt (Ty.den ty63))::mt (Ty.den ty61)))) none)))) (k (v1,v2,v3,v4,v5))
def E19 (p0:Int) (p1:L52) (p2 p3 p4:Int) (p5:L61):S19→List AV×Objs
 | .l0 v1 v2 v3 v4 v5=>(mk 54 [(0,.c (.ptr 0 0)),(1,.c (.int .i64 p0))],[(0,.box 49 [.list 52 ty52 v1,.int .i64 v2,.own 1002,.int .i64 v3,.int .i64 v4]),(1002,.row 61 ty61 v5)])
def I19:S19→Nat
 | .l0 _ _ _ _ _=>0
noncomputable abbrev A19 {R:Type} (B:Ops) (c48:C48) (c19:C19) (c49:C49) (p0:Int) (p1:L52) (p2 p3 p4:Int) (p5:L61) (k:AV→Objs→Option R) (s:S19) (n:Nat):Option R:=aloop tau B gl0 X19 (ent 48 (e48 c48) (ent 19 (e19 c19) (ent 49 (e49 c49) gnil))) ow [0] Tryz.f19 k (I19 s) (E19 p0 p1 p2 p3 p4 p5 s) n
theorem eq19 {R:Type} (B:Ops) (c48:C48) (c19:C19) (c49:C49) (p0:Int) (p1:L52) (p2 p3 p4:Int) (p5:L61) (k:AV→Objs→Option R) (n:Nat):afun tau B gl0 X19 (ent 48 (e48 c48) (ent 19 (e19 c19) (ent 49 (e49 c49) gnil))) ow Tryz.f19 [.c (.ptr 0 0),.c (.int .i64 p0)] [(0,.box 49 [.list 52 ty52 p1,.int .i64 p2,.own 1002,.int .i64 p3,.int .i64 p4]),(1002,.row 61 ty61 p5)] k n=T19 B c48 c19 c49 p0 p1 p2 p3 p4 p5 (fun s=>A19 B c48 c19 c49 p0 p1 p2 p3 p4 p5 k s n) (K26 k) none:=by kernel_rfl
theorem el19 {R:Type} (B:Ops) (c48:C48) (c19:C19) (c49:C49) (p0:Int) (p1:L52) (p2 p3 p4:Int) (p5:L61) (k:AV→Objs→Option R) (n:Nat):∀ s,A19 B c48 c19 c49 p0 p1 p2 p3 p4 p5 k s (n+1)=T19 B c48 c19 c49 p0 p1 p2 p3 p4 p5 (fun s=>A19 B c48 c19 c49 p0 p1 p2 p3 p4 p5 k s n) (K26 k) (some s):=by
 intro s
 cases s<;>kernel_rfl
theorem nt19 {R R':Type} (B:Ops) (c48:C48) (c19:C19) (c49:C49) (p0:Int) (p1:L52) (p2 p3 p4:Int) (p5:L61) (again:S19→Option R) (again':S19→Option R') (k0:(L52×Int×Int×Int×L61)→Option R') (k:R'→Option R) (h:∀ s,again s=ob (again' s) k):∀ s,T19 B c48 c19 c49 p0 p1 p2 p3 p4 p5 again (fun y=>ob (k0 y) k) s=ob (T19 B c48 c19 c49 p0 p1 p2 p3 p4 p5 again' k0 s) k:=by
 rintro (_ | x)
 all_goals try cases x
 all_goals (unfold T19;repeat' first | exact rfl | exact h _ | apply qac | (apply qai;intro))
def R19 (c48:C48) (c19:C19) (c49:C49) (p0:Int) (p1:L52) (p2 p3 p4:Int) (p5:L61):Nat→S19→Option (L52×Int×Int×Int×L61)
 | 0,_=>none
 | n+1,s=>T19 Ops.std c48 c19 c49 p0 p1 p2 p3 p4 p5 (R19 c48 c19 c49 p0 p1 p2 p3 p4 p5 n) some (some s)
theorem rr19 {R:Type} (c48:C48) (c19:C19) (c49:C49) (p0:Int) (p1:L52) (p2 p3 p4:Int) (p5:L61) (k:AV→Objs→Option R):∀ (n:Nat) (s:S19),A19 Ops.std c48 c19 c49 p0 p1 p2 p3 p4 p5 k s n=ob (R19 c48 c19 c49 p0 p1 p2 p3 p4 p5 n s) (K26 k)
 | 0,s=>by cases s<;>rfl
 | n+1,s=>by rw [el19];exact nt19 Ops.std c48 c19 c49 p0 p1 p2 p3 p4 p5 _ _ some (K26 k) (rr19 c48 c19 c49 p0 p1 p2 p3 p4 p5 k n) (some s)
def F19 (c48:C48) (c19:C19) (c49:C49) (p0:Int) (p1:L52) (p2 p3 p4:Int) (p5:L61):Option (L52×Int×Int×Int×L61):=T19 Ops.std c48 c19 c49 p0 p1 p2 p3 p4 p5 (R19 c48 c19 c49 p0 p1 p2 p3 p4 p5 1000000) some none
theorem sf19 {c48:C48} {c19:C19} {c49:C49} (h48:Sp48 c48) (h19:Sp19 c19) (h49:Sp49 c49):Sp19 (F19 c48 c19 c49):=fun p0 p1 p2 p3 p4 p5 y hy=>by
 refine qae (qab (ek48 h48) (qab (ek19 h19) (qab (ek49 h49) qad))) 1000000 (fn:=Tryz.f19) (by kernel_rfl) (by kernel_rfl) (X:=X19) (by kernel_rfl) ?_
 rw [eq19]
 exact (nt19 Ops.std c48 c19 c49 p0 p1 p2 p3 p4 p5 _ _ some (K26 k0) (rr19 c48 c19 c49 p0 p1 p2 p3 p4 p5 k0 1000000) none).trans (by show ob (F19 c48 c19 c49 p0 p1 p2 p3 p4 p5) _=_;rw [hy];rfl)
def X48:Aux:=⟨[(1000011,([1]++rg 4 194)),(1000021,(rg 1 197)),(1000024,(rg 1 197)),(1000028,([1,2,3]++rg 5 193))],[(1,.lin (rg 0 12)),(28,.lin (rg 0 17))]⟩
inductive S48 where
 | l1011 (v0:Int) (v1:L52) (v2 v3 v4 v5:Int) (v6:LB) (v7 v8:Int) (v9:L61)
 | l1021 (v0:L52) (v1 v2 v3:Int) (v4:L61)
 | l1024 (v0:L52) (v1 v2 v3:Int) (v4:L61)
 | l1028 (v0:Int) (v1:L52) (v2 v3 v4:Int) (v5:L61)
def T48 {R:Type} (B:Ops) (c82:C82) (c48:C48) (c19:C19) (c83:C83) (c84:C84) (c20:C20) (p0:L52) (p1 p2 p3:Int) (p4:L61) (again:S48→Option R) (k:(L52×Int×Int×Int×L61)→Option R):Option S48→Option R | none=>cond (!B.eq p2 0) (k (p0,p1,p2,p3,p4)) (cond (B.inb p1 p0.length) (ob (c82 ([33]:LB) p0 p1 p2 p3 p4) fun y0=>cond y0.1 (again (.l1011 4 y0.2.1 y0.2.2.1 y0.2.2.2.1 y0.2.2.2.2.1 (p0.getD p1.toNat ty52.dflt).1 ((p0.getD p1.toNat ty52.dflt).2).1 (((p0.getD p1.toNat ty52.dflt).2).2).1 (((p0.getD p1.toNat ty52.dflt).2).2).2 y0.2.2.2.2.2)) (cond (B.eq (p0.getD p1.toNat ty52.dflt).1 3) (cond (((p0.getD p1.toNat ty52.dflt).2).1 == ([88]:LB)) (again (.l1011 8 y0.2.1 y0.2.2.1 y0.2.2.2.1 y0.2.2.2.2.1 (p0.getD p1.toNat ty52.dflt).1 ((p0.getD p1.toNat ty52.dflt).2).1 (((p0.getD p1.toNat ty52.dflt).2).2).1 (((p0.getD p1.toNat ty52.dflt).2).2).2 y0.2.2.2.2.2)) (cond (B.eq (p0.getD p1.toNat ty52.dflt).1 3) (cond (((p0.getD p1.toNat ty52.dflt).2).1 == ([70]:LB)) (again (.l1011 11 y0.2.1 y0.2.2.1 y0.2.2.2.1 y0.2.2.2.2.1 (p0.getD p1.toNat ty52.dflt).1 ((p0.getD p1.toNat ty52.dflt).2).1 (((p0.getD p1.toNat ty52.dflt).2).2).1 (((p0.getD p1.toNat ty52.dflt).2).2).2 y0.2.2.2.2.2)) (cond (B.eq (p0.getD p1.toNat ty52.dflt).1 3) (cond (((p0.getD p1.toNat ty52.dflt).2).1 == ([71]:LB)) (again (.l1011 12 y0.2.1 y0.2.2.1 y0.2.2.2.1 y0.2.2.2.2.1 (p0.getD p1.toNat ty52.dflt).1 ((p0.getD p1.toNat ty52.dflt).2).1 (((p0.getD p1.toNat ty52.dflt).2).2).1 (((p0.getD p1.toNat ty52.dflt).2).2).2 y0.2.2.2.2.2)) (again (.l1011 0 y0.2.1 y0.2.2.1 y0.2.2.2.1 y0.2.2.2.2.1 (p0.getD p1.toNat ty52.dflt).1 ((p0.getD p1.toNat ty52.dflt).2).1 (((p0.getD p1.toNat ty52.dflt).2).2).1 (((p0.getD p1.toNat ty52.dflt).2).2).2 y0.2.2.2.2.2))) (again (.l1011 0 y0.2.1 y0.2.2.1 y0.2.2.2.1 y0.2.2.2.2.1 (p0.getD p1.toNat ty52.dflt).1 ((p0.getD p1.toNat ty52.dflt).2).1 (((p0.getD p1.toNat ty52.dflt).2).2).1 (((p0.getD p1.toNat ty52.dflt).2).2).2 y0.2.2.2.2.2)))) (cond (B.eq (p0.getD p1.toNat ty52.dflt).1 3) (cond (((p0.getD p1.toNat ty52.dflt).2).1 == ([71]:LB)) (again (.l1011 12 y0.2.1 y0.2.2.1 y0.2.2.2.1 y0.2.2.2.2.1 (p0.getD p1.toNat ty52.dflt).1 ((p0.getD p1.toNat ty52.dflt).2).1 (((p0.getD p1.toNat ty52.dflt).2).2).1 (((p0.getD p1.toNat ty52.dflt).2).2).2 y0.2.2.2.2.2)) (again (.l1011 0 y0.2.1 y0.2.2.1 y0.2.2.2.1 y0.2.2.2.2.1 (p0.getD p1.toNat ty52.dflt).1 ((p0.getD p1.toNat ty52.dflt).2).1 (((p0.getD p1.toNat ty52.dflt).2).2).1 (((p0.getD p1.toNat ty52.dflt).2).2).2 y0.2.2.2.2.2))) (again (.l1011 0 y0.2.1 y0.2.2.1 y0.2.2.2.1 y0.2.2.2.2.1 (p0.getD p1.toNat ty52.dflt).1 ((p0.getD p1.toNat ty52.dflt).2).1 (((p0.getD p1.toNat ty52.dflt).2).2).1 (((p0.getD p1.toNat ty52.dflt).2).2).2 y0.2.2.2.2.2))))) (cond (B.eq (p0.getD p1.toNat ty52.dflt).1 3) (cond (((p0.getD p1.toNat ty52.dflt).2).1 == ([70]:LB)) (again (.l1011 11 y0.2.1 y0.2.2.1 y0.2.2.2.1 y0.2.2.2.2.1 (p0.getD p1.toNat ty52.dflt).1 ((p0.getD p1.toNat ty52.dflt).2).1 (((p0.getD p1.toNat ty52.dflt).2).2).1 (((p0.getD p1.toNat ty52.dflt).2).2).2 y0.2.2.2.2.2)) (cond (B.eq (p0.getD p1.toNat ty52.dflt).1 3) (cond (((p0.getD p1.toNat ty52.dflt).2).1 == ([71]:LB)) (again (.l1011 12 y0.2.1 y0.2.2.1 y0.2.2.2.1 y0.2.2.2.2.1 (p0.getD p1.toNat ty52.dflt).1 ((p0.getD p1.toNat ty52.dflt).2).1 (((p0.getD p1.toNat ty52.dflt).2).2).1 (((p0.getD p1.toNat ty52.dflt).2).2).2 y0.2.2.2.2.2)) (again (.l1011 0 y0.2.1 y0.2.2.1 y0.2.2.2.1 y0.2.2.2.2.1 (p0.getD p1.toNat ty52.dflt).1 ((p0.getD p1.toNat ty52.dflt).2).1 (((p0.getD p1.toNat ty52.dflt).2).2).1 (((p0.getD p1.toNat ty52.dflt).2).2).2 y0.2.2.2.2.2))) (again (.l1011 0 y0.2.1 y0.2.2.1 y0.2.2.2.1 y0.2.2.2.2.1 (p0.getD p1.toNat ty52.dflt).1 ((p0.getD p1.toNat ty52.dflt).2).1 (((p0.getD p1.toNat ty52.dflt).2).2).1 (((p0.getD p1.toNat ty52.dflt).2).2).2 y0.2.2.2.2.2)))) (cond (B.eq (p0.getD p1.toNat ty52.dflt).1 3) (cond (((p0.getD p1.toNat ty52.dflt).2).1 == ([71]:LB)) (again (.l1011 12 y0.2.1 y0.2.2.1 y0.2.2.2.1 y0.2.2.2.2.1 (p0.getD p1.toNat ty52.dflt).1 ((p0.getD p1.toNat ty52.dflt).2).1 (((p0.getD p1.toNat ty52.dflt).2).2).1 (((p0.getD p1.toNat ty52.dflt).2).2).2 y0.2.2.2.2.2)) (again (.l1011 0 y0.2.1 y0.2.2.1 y0.2.2.2.1 y0.2.2.2.2.1 (p0.getD p1.toNat ty52.dflt).1 ((p0.getD p1.toNat ty52.dflt).2).1 (((p0.getD p1.toNat ty52.dflt).2).2).1 (((p0.getD p1.toNat ty52.dflt).2).2).2 y0.2.2.2.2.2))) (again (.l1011 0 y0.2.1 y0.2.2.1 y0.2.2.2.1 y0.2.2.2.2.1 (p0.getD p1.toNat ty52.dflt).1 ((p0.getD p1.toNat ty52.dflt).2).1 (((p0.getD p1.toNat ty52.dflt).2).2).1 (((p0.getD p1.toNat ty52.dflt).2).2).2 y0.2.2.2.2.2)))))) none) | some (.l1011 v0 v1 v2 v3 v4 v5 v6 v7 v8 v9)=>cond (!B.eq v0 0) (ob (c48 v1 (IntKind.wrap .i64 (v2+1)) v3 v4 v9) fun y0=>cond (B.lim (List.length (y0.2.2.2.2)+List.length ((v0,mt (Ty.den ty63))::mt (Ty.den ty61))) 32) (k ((y0.1,y0.2.1,y0.2.2.1,y0.2.2.2.1,y0.2.2.2.2++(v0,mt (Ty.den ty63))::mt (Ty.den ty61)))) none) (cond (B.eq v5 2) (cond (v6 == ([116,114,117,101]:LB)) (cond (B.lim (List.length v9+List.length ((1,mt (Ty.den ty63))::mt (Ty.den ty61))) 32) (k ((v1,IntKind.wrap .i64 (v2+1),v3,v4,v9++(1,mt (Ty.den ty63))::mt (Ty.den ty61)))) none) (cond (B.eq v5 2) (cond (v6 == ([102,97,108,115,101]:LB)) (again (.l1021 v1 (IntKind.wrap .i64 (v2+1)) v3 v4 v9)) (ob (c82 ([40]:LB) v1 v2 v3 v4 v9) fun y0=>cond y0.1 (again (.l1024 y0.2.1 (IntKind.wrap .i64 (y0.2.2.1+1)) y0.2.2.2.1 y0.2.2.2.2.1 y0.2.2.2.2.2)) (ob (c82 ([91]:LB) y0.2.1 y0.2.2.1 y0.2.2.2.1 y0.2.2.2.2.1 y0.2.2.2.2.2) fun y1=>cond y1.1 (again (.l1028 y1.2.2.1 y1.2.1 y1.2.2.1 y1.2.2.2.1 y1.2.2.2.2.1 y1.2.2.2.2.2)) (ob (c20 2 y1.2.2.1 y1.2.1 y1.2.2.1 y1.2.2.2.1 y1.2.2.2.2.1 y1.2.2.2.2.2) fun y2=>k (y2.1,y2.2.1,y2.2.2.1,y2.2.2.2.1,y2.2.2.2.2))))) (ob (c82 ([40]:LB) v1 v2 v3 v4 v9) fun y0=>cond y0.1 (again (.l1024 y0.2.1 (IntKind.wrap .i64 (y0.2.2.1+1)) y0.2.2.2.1 y0.2.2.2.2.1 y0.2.2.2.2.2)) (ob (c82 ([91]:LB) y0.2.1 y0.2.2.1 y0.2.2.2.1 y0.2.2.2.2.1 y0.2.2.2.2.2) fun y1=>cond y1.1 (again (.l1028 y1.2.2.1 y1.2.1 y1.2.2.1 y1.2.2.2.1 y1.2.2.2.2.1 y1.2.2.2.2.2)) (ob (c20 2 y1.2.2.1 y1.2.1 y1.2.2.1 y1.2.2.2.1 y1.2.2.2.2.1 y1.2.2.2.2.2) fun y2=>k (y2.1,y2.2.1,y2.2.2.1,y2.2.2.2.1,y2.2.2.2.2)))))) (cond (B.eq v5 2) (cond (v6 == ([102,97,108,115,101]:LB)) (again (.l1021 v1 (IntKind.wrap .i64 (v2+1)) v3 v4 v9)) (ob (c82 ([40]:LB) v1 v2 v3 v4 v9) fun y0=>cond y0.1 (again (.l1024 y0.2.1 (IntKind.wrap .i64 (y0.2.2.1+1)) y0.2.2.2.1 y0.2.2.2.2.1 y0.2.2.2.2.2)) (ob (c82 ([91]:LB) y0.2.1 y0.2.2.1 y0.2.2.2.1 y0.2.2.2.2.1 y0.2.2.2.2.2) fun y1=>cond y1.1 (again (.l1028 y1.2.2.1 y1.2.1 y1.2.2.1 y1.2.2.2.1 y1.2.2.2.2.1 y1.2.2.2.2.2)) (ob (c20 2 y1.2.2.1 y1.2.1 y1.2.2.1 y1.2.2.2.1 y1.2.2.2.2.1 y1.2.2.2.2.2) fun y2=>k (y2.1,y2.2.1,y2.2.2.1,y2.2.2.2.1,y2.2.2.2.2))))) (ob (c82 ([40]:LB) v1 v2 v3 v4 v9) fun y0=>cond y0.1 (again (.l1024 y0.2.1 (IntKind.wrap .i64 (y0.2.2.1+1)) y0.2.2.2.1 y0.2.2.2.2.1 y0.2.2.2.2.2)) (ob (c82 ([91]:LB) y0.2.1 y0.2.2.1 y0.2.2.2.1 y0.2.2.2.2.1 y0.2.2.2.2.2) fun y1=>cond y1.1 (again (.l1028 y1.2.2.1 y1.2.1 y1.2.2.1 y1.2.2.2.1 y1.2.2.2.2.1 y1.2.2.2.2.2)) (ob (c20 2 y1.2.2.1 y1.2.1 y1.2.2.1 y1.2.2.2.1 y1.2.2.2.2.1 y1.2.2.2.2.2) fun y2=>k (y2.1,y2.2.1,y2.2.2.1,y2.2.2.2.1,y2.2.2.2.2)))))) | some (.l1021 v0 v1 v2 v3 v4)=>cond (B.lim (List.length v4+List.length ((2,mt (Ty.den ty63))::mt (Ty.den ty61))) 32) (k ((v0,v1,v2,v3,v4++(2,mt (Ty.den ty63))::mt (Ty.den ty61)))) none | some (.l1024 v0 v1 v2 v3 v4)=>ob (c19 1 v0 v1 v2 v3 v4) fun y0=>ob (c83 ([41]:LB) y0.1 y0.2.1 y0.2.2.1 y0.2.2.2.1 y0.2.2.2.2) fun y1=>k (y1.1,y1.2.1,y1.2.2.1,y1.2.2.2.1,y1.2.2.2.2) | some (.l1028 v0 v1 v2 v3 v4 v5)=>ob (c84 v1 (IntKind.wrap .i64 (v2+1))) fun y0=>cond (B.eq y0.2.1 13) (ob (c20 y0.2.1 v0 v1 v2 v3 v4 v5) fun y1=>k (y1.1,y1.2.1,y1.2.2.1,y1.2.2.2.1,y1.2.2.2.2)) (cond (B.eq y0.2.1 2) (ob (c20 y0.2.1 y0.1 v1 v2 v3 v4 v5) fun y1=>k (y1.1,y1.2.1,y1.2.2.1,y1.2.2.2.1,y1.2.2.2.2)) (cond (B.lim (List.length v5+List.length ((3,y0.2.2)::mt (Ty.den ty61))) 32) (ob (c83 ([93]:LB) v1 y0.1 v3 v4 (v5++(3,y0.2.2)::mt (Ty.den ty61))) fun y1=>k (y1.1,y1.2.1,y1.2.2.1,y1.2.2.2.1,y1.2.2.2.2)) none))
def E48 (p0:L52) (p1 p2 p3:Int) (p4:L61):S48→List AV×Objs
 | .l1011 v0 v1 v2 v3 v4 v5 v6 v7 v8 v9=>(mk 198 [(0,.c (.ptr 0 0)),(2,.c (.ptr 2 0)),(3,.c (.int .i64 v0))],[(0,.box 49 [.list 52 ty52 v1,.int .i64 v2,.own 1002,.int .i64 v3,.int .i64 v4]),(2,.box 52 [.int .i64 v5,.str v6,.int .i64 v7,.int .i64 v8]),(1002,.row 61 ty61 v9)])
 | .l1021 v0 v1 v2 v3 v4=>(mk 198 [(0,.c (.ptr 0 0))],[(0,.box 49 [.list 52 ty52 v0,.int .i64 v1,.own 1002,.int .i64 v2,.int .i64 v3]),(1002,.row 61 ty61 v4)])
 | .l1024 v0 v1 v2 v3 v4=>(mk 198 [(0,.c (.ptr 0 0))],[(0,.box 49 [.list 52 ty52 v0,.int .i64 v1,.own 1002,.int .i64 v2,.int .i64 v3]),(1002,.row 61 ty61 v4)])
 | .l1028 v0 v1 v2 v3 v4 v5=>(mk 198 [(0,.c (.ptr 0 0)),(4,.c (.int .i64 v0))],[(0,.box 49 [.list 52 ty52 v1,.int .i64 v2,.own 1002,.int .i64 v3,.int .i64 v4]),(1002,.row 61 ty61 v5)])
def I48:S48→Nat
 | .l1011 _ _ _ _ _ _ _ _ _ _=>1011
 | .l1021 _ _ _ _ _=>1021
 | .l1024 _ _ _ _ _=>1024
 | .l1028 _ _ _ _ _ _=>1028
noncomputable abbrev A48 {R:Type} (B:Ops) (c82:C82) (c48:C48) (c19:C19) (c83:C83) (c84:C84) (c20:C20) (p0:L52) (p1 p2 p3:Int) (p4:L61) (k:AV→Objs→Option R) (s:S48) (n:Nat):Option R:=aloop tau B gl0 X48 (ent 82 (e82 c82) (ent 48 (e48 c48) (ent 19 (e19 c19) (ent 83 (e83 c83) (ent 84 (e84 c84) (ent 20 (e20 c20) gnil)))))) ow [0] Tryz.f48 k (I48 s) (E48 p0 p1 p2 p3 p4 s) n
theorem eq48 {R:Type} (B:Ops) (c82:C82) (c48:C48) (c19:C19) (c83:C83) (c84:C84) (c20:C20) (p0:L52) (p1 p2 p3:Int) (p4:L61) (k:AV→Objs→Option R) (n:Nat):afun tau B gl0 X48 (ent 82 (e82 c82) (ent 48 (e48 c48) (ent 19 (e19 c19) (ent 83 (e83 c83) (ent 84 (e84 c84) (ent 20 (e20 c20) gnil)))))) ow Tryz.f48 [.c (.ptr 0 0)] [(0,.box 49 [.list 52 ty52 p0,.int .i64 p1,.own 1002,.int .i64 p2,.int .i64 p3]),(1002,.row 61 ty61 p4)] k n=T48 B c82 c48 c19 c83 c84 c20 p0 p1 p2 p3 p4 (fun s=>A48 B c82 c48 c19 c83 c84 c20 p0 p1 p2 p3 p4 k s n) (K26 k) none:=by kernel_rfl
theorem el48 {R:Type} (B:Ops) (c82:C82) (c48:C48) (c19:C19) (c83:C83) (c84:C84) (c20:C20) (p0:L52) (p1 p2 p3:Int) (p4:L61) (k:AV→Objs→Option R) (n:Nat):∀ s,A48 B c82 c48 c19 c83 c84 c20 p0 p1 p2 p3 p4 k s (n+1)=T48 B c82 c48 c19 c83 c84 c20 p0 p1 p2 p3 p4 (fun s=>A48 B c82 c48 c19 c83 c84 c20 p0 p1 p2 p3 p4 k s n) (K26 k) (some s):=by
 intro s
 cases s<;>kernel_rfl
theorem nt48 {R R':Type} (B:Ops) (c82:C82) (c48:C48) (c19:C19) (c83:C83) (c84:C84) (c20:C20) (p0:L52) (p1 p2 p3:Int) (p4:L61) (again:S48→Option R) (again':S48→Option R') (k0:(L52×Int×Int×Int×L61)→Option R') (k:R'→Option R) (h:∀ s,again s=ob (again' s) k):∀ s,T48 B c82 c48 c19 c83 c84 c20 p0 p1 p2 p3 p4 again (fun y=>ob (k0 y) k) s=ob (T48 B c82 c48 c19 c83 c84 c20 p0 p1 p2 p3 p4 again' k0 s) k:=by
 rintro (_ | x)
 all_goals try cases x
 all_goals (unfold T48;repeat' first | exact rfl | exact h _ | apply qac | (apply qai;intro))
def R48 (c82:C82) (c48:C48) (c19:C19) (c83:C83) (c84:C84) (c20:C20) (p0:L52) (p1 p2 p3:Int) (p4:L61):Nat→S48→Option (L52×Int×Int×Int×L61)
 | 0,_=>none
 | n+1,s=>T48 Ops.std c82 c48 c19 c83 c84 c20 p0 p1 p2 p3 p4 (R48 c82 c48 c19 c83 c84 c20 p0 p1 p2 p3 p4 n) some (some s)
theorem rr48 {R:Type} (c82:C82) (c48:C48) (c19:C19) (c83:C83) (c84:C84) (c20:C20) (p0:L52) (p1 p2 p3:Int) (p4:L61) (k:AV→Objs→Option R):∀ (n:Nat) (s:S48),A48 Ops.std c82 c48 c19 c83 c84 c20 p0 p1 p2 p3 p4 k s n=ob (R48 c82 c48 c19 c83 c84 c20 p0 p1 p2 p3 p4 n s) (K26 k)
 | 0,s=>by cases s<;>rfl
 | n+1,s=>by rw [el48];exact nt48 Ops.std c82 c48 c19 c83 c84 c20 p0 p1 p2 p3 p4 _ _ some (K26 k) (rr48 c82 c48 c19 c83 c84 c20 p0 p1 p2 p3 p4 k n) (some s)
def F48 (c82:C82) (c48:C48) (c19:C19) (c83:C83) (c84:C84) (c20:C20) (p0:L52) (p1 p2 p3:Int) (p4:L61):Option (L52×Int×Int×Int×L61):=T48 Ops.std c82 c48 c19 c83 c84 c20 p0 p1 p2 p3 p4 (R48 c82 c48 c19 c83 c84 c20 p0 p1 p2 p3 p4 1000000) some none
theorem sf48 {c82:C82} {c48:C48} {c19:C19} {c83:C83} {c84:C84} {c20:C20} (h82:Sp82 c82) (h48:Sp48 c48) (h19:Sp19 c19) (h83:Sp83 c83) (h84:Sp84 c84) (h20:Sp20 c20):Sp48 (F48 c82 c48 c19 c83 c84 c20):=fun p0 p1 p2 p3 p4 y hy=>by
 refine qae (qab (ek82 h82) (qab (ek48 h48) (qab (ek19 h19) (qab (ek83 h83) (qab (ek84 h84) (qab (ek20 h20) qad)))))) 1000000 (fn:=Tryz.f48) (by kernel_rfl) (by kernel_rfl) (X:=X48) (by kernel_rfl) ?_
 rw [eq48]
 exact (nt48 Ops.std c82 c48 c19 c83 c84 c20 p0 p1 p2 p3 p4 _ _ some (K26 k0) (rr48 c82 c48 c19 c83 c84 c20 p0 p1 p2 p3 p4 k0 1000000) none).trans (by show ob (F48 c82 c48 c19 c83 c84 c20 p0 p1 p2 p3 p4) _=_;rw [hy];rfl)
noncomputable def Rec19:Nat→(Int→L52→Int→Int→Int→L61→Option (L52×Int×Int×Int×L61))×(L52→Int→Int→Int→L61→Option (L52×Int×Int×Int×L61))
 | 0=>(fun _ _ _ _ _ _=>none,fun _ _ _ _ _=>none)
 | d+1=>(F19 (Rec19 d).2 (Rec19 d).1 M49,F48 M82 (Rec19 d).2 (Rec19 d).1 M83 M84 M20)
theorem rec19:∀ d,Sp19 (Rec19 d).1∧Sp48 (Rec19 d).2
 | 0=>⟨(fun p0 p1 p2 p3 p4 p5 y (h:(none:Option (L52×Int×Int×Int×L61))=some y)=>by cases h),(fun p0 p1 p2 p3 p4 y (h:(none:Option (L52×Int×Int×Int×L61))=some y)=>by cases h)⟩
 | d+1=>⟨sf19 (rec19 d).2 (rec19 d).1 sm49,sf48 sm82 (rec19 d).2 (rec19 d).1 sm83 sm84 sm20⟩
noncomputable def M19:C19:=(Rec19 1000000).1
theorem sm19:Sp19 M19:=(rec19 1000000).1
def X45:Aux:=⟨[],[]⟩
def T45 {R:Type} (B:Ops) (p0:Int) (k:(Bool)→Option R):Option R:=cond (B.le 48 p0) (k (B.le p0 57)) (k false)
theorem eq45 {R:Type} (B:Ops) (p0:Int) (k:AV→Objs→Option R) (n:Nat):afun tau B gl0 X45 gnil ow Tryz.f45 [.c (.int .u8 p0)] [] k n=T45 B p0 (K2 k):=by kernel_rfl
theorem nt45 {R R':Type} (B:Ops) (p0:Int) (k0:(Bool)→Option R') (k:R'→Option R):T45 B p0 (fun y=>ob (k0 y) k)=ob (T45 B p0 k0) k:=by
 unfold T45
 repeat' first | exact rfl | apply qac | (apply qai;intro)
def F45 (p0:Int):Option (Bool):=T45 Ops.std p0 some
abbrev C45:Type:=Int→Option (Bool)
def e45 {R:Type} (c:C45):Ent R:=eG [.aC (.cI .u8)] [] fun v k=>ob (c v.1) (K2 k)
abbrev Sp45 (c:C45):Prop:=∀ (p0:Int) (y:Bool),c p0=some y→Spec Tryz.prog gl0 45 [.c (.int .u8 p0)] [] (.c (.bool y)) []
theorem ek45 {R:Type} {c:C45} (hs:Sp45 c):EOk 45 (e45 (R:=R) c):=qak fun v=>hs v.1
theorem sf45:Sp45 (F45):=fun p0 y hy=>by
 refine qae qad 1000000 (fn:=Tryz.f45) (by kernel_rfl) (by kernel_rfl) (X:=X45) (by kernel_rfl) ?_
 rw [eq45]
 exact (nt45 Ops.std p0 some (K2 k0)).trans (by show ob (F45 p0) _=_;rw [hy];rfl)
noncomputable def M45:C45:=F45
theorem sm45:Sp45 M45:=sf45
def X46:Aux:=⟨[],[]⟩
def T46 {R:Type} (B:Ops) (p0:Int) (k:(Bool)→Option R):Option R:=cond (B.le 97 p0) (cond (B.le p0 122) (k true) (k (B.eq p0 95))) (k (B.eq p0 95))
theorem eq46 {R:Type} (B:Ops) (p0:Int) (k:AV→Objs→Option R) (n:Nat):afun tau B gl0 X46 gnil ow Tryz.f46 [.c (.int .u8 p0)] [] k n=T46 B p0 (K2 k):=by kernel_rfl
theorem nt46 {R R':Type} (B:Ops) (p0:Int) (k0:(Bool)→Option R') (k:R'→Option R):T46 B p0 (fun y=>ob (k0 y) k)=ob (T46 B p0 k0) k:=by
 unfold T46
 repeat' first | exact rfl | apply qac | (apply qai;intro)
def F46 (p0:Int):Option (Bool):=T46 Ops.std p0 some
abbrev C46:Type:=Int→Option (Bool)
def e46 {R:Type} (c:C46):Ent R:=eG [.aC (.cI .u8)] [] fun v k=>ob (c v.1) (K2 k)
abbrev Sp46 (c:C46):Prop:=∀ (p0:Int) (y:Bool),c p0=some y→Spec Tryz.prog gl0 46 [.c (.int .u8 p0)] [] (.c (.bool y)) []
theorem ek46 {R:Type} {c:C46} (hs:Sp46 c):EOk 46 (e46 (R:=R) c):=qak fun v=>hs v.1
theorem sf46:Sp46 (F46):=fun p0 y hy=>by
 refine qae qad 1000000 (fn:=Tryz.f46) (by kernel_rfl) (by kernel_rfl) (X:=X46) (by kernel_rfl) ?_
 rw [eq46]
 exact (nt46 Ops.std p0 some (K2 k0)).trans (by show ob (F46 p0) _=_;rw [hy];rfl)
noncomputable def M46:C46:=F46
theorem sm46:Sp46 M46:=sf46
def X47:Aux:=⟨[(3,([1,2]++rg 5 37)),(9,([1,2,3,4]++rg 7 35))],[(5,.lin (rg 0 11)),(11,.lin [0,1,2,3,4,5,6,7])]⟩
inductive S47 where
 | l0 (v1:Int)
 | l1 (v2:Int)
def T47 {R:Type} (B:Ops) (p0:LB) (again:S47→Option R) (k:(LB)→Option R):Option S47→Option R | none=>again (.l0 0) | some (.l0 v1)=>cond (B.lt v1 7) (cond (B.lt 1 (↑p0.length)) (cond (B.inb 2 (List.length p0+1)) (cond (B.inb v1 9) (cond (List.drop 0 (List.take (Int.toNat 2) p0) == List.getD (([60,61]:LB)::([62,61]:LB)::([61,61]:LB)::([33,61]:LB)::([38,38]:LB)::([124,124]:LB)::([45,62]:LB)::(mt UInt8)::(mt UInt8)::mt LB) v1.toNat (mt UInt8)) (cond (B.inb v1 9) (k (List.getD (([60,61]:LB)::([62,61]:LB)::([61,61]:LB)::([33,61]:LB)::([38,38]:LB)::([124,124]:LB)::([45,62]:LB)::(mt UInt8)::(mt UInt8)::mt LB) v1.toNat (mt UInt8))) none) (again (.l0 (IntKind.wrap .i64 (v1+1))))) none) none) (again (.l0 (IntKind.wrap .i64 (v1+1))))) (again (.l1 0)) | some (.l1 v2)=>cond (B.lt v2 (Nat.cast 13)) (cond (B.inb 1 (List.length p0+1)) (cond (B.inb (IntKind.wrap .i64 (v2+1)) (13+1)) (cond (bif B.le 0 v2 then B.le v2 (IntKind.wrap .i64 (v2+1)) else false) (cond (List.drop 0 (List.take (Int.toNat 1) p0) == List.drop v2.toNat (List.take (Int.toNat (IntKind.wrap .i64 (v2+1))) ([40,41,91,93,43,45,42,60,62,33,64,59,61]:LB))) (cond (B.inb 1 (List.length p0+1)) (k (List.drop 0 (List.take (Int.toNat 1) p0))) none) (again (.l1 (IntKind.wrap .i64 (v2+1))))) none) none) none) (k (mt UInt8))
def E47 (p0:LB):S47→List AV×Objs
 | .l0 v1=>(mk 42 [(0,.c (.str p0)),(3,.c (.ptr 3 0)),(4,.c (.int .i64 v1))],[(3,.box 129 [.str ([60,61]:LB),.str ([62,61]:LB),.str ([61,61]:LB),.str ([33,61]:LB),.str ([38,38]:LB),.str ([124,124]:LB),.str ([45,62]:LB),.str (mt UInt8),.str (mt UInt8)])])
 | .l1 v2=>(mk 42 [(0,.c (.str p0)),(5,.c (.str ([40,41,91,93,43,45,42,60,62,33,64,59,61]:LB))),(6,.c (.int .i64 v2))],[])
def I47:S47→Nat
 | .l0 _=>0
 | .l1 _=>1
noncomputable abbrev A47 {R:Type} (B:Ops) (p0:LB) (k:AV→Objs→Option R) (s:S47) (n:Nat):Option R:=aloop tau B gl0 X47 gnil ow [] Tryz.f47 k (I47 s) (E47 p0 s) n
theorem eq47 {R:Type} (B:Ops) (p0:LB) (k:AV→Objs→Option R) (n:Nat):afun tau B gl0 X47 gnil ow Tryz.f47 [.c (.str p0)] [] k n=T47 B p0 (fun s=>A47 B p0 k s n) (K3 k) none:=by kernel_rfl
theorem el47 {R:Type} (B:Ops) (p0:LB) (k:AV→Objs→Option R) (n:Nat):∀ s,A47 B p0 k s (n+1)=T47 B p0 (fun s=>A47 B p0 k s n) (K3 k) (some s):=by
 intro s
 cases s<;>kernel_rfl
theorem nt47 {R R':Type} (B:Ops) (p0:LB) (again:S47→Option R) (again':S47→Option R') (k0:(LB)→Option R') (k:R'→Option R) (h:∀ s,again s=ob (again' s) k):∀ s,T47 B p0 again (fun y=>ob (k0 y) k) s=ob (T47 B p0 again' k0 s) k:=by
 rintro (_ | x)
 all_goals try cases x
 all_goals (unfold T47;repeat' first | exact rfl | exact h _ | apply qac | (apply qai;intro))
def R47 (p0:LB):Nat→S47→Option (LB)
 | 0,_=>none
 | n+1,s=>T47 Ops.std p0 (R47 p0 n) some (some s)
theorem rr47 {R:Type} (p0:LB) (k:AV→Objs→Option R):∀ (n:Nat) (s:S47),A47 Ops.std p0 k s n=ob (R47 p0 n s) (K3 k)
 | 0,s=>by cases s<;>rfl
 | n+1,s=>by rw [el47];exact nt47 Ops.std p0 _ _ some (K3 k) (rr47 p0 k n) (some s)
def F47 (p0:LB):Option (LB):=T47 Ops.std p0 (R47 p0 1000000) some none
abbrev C47:Type:=LB→Option (LB)
def e47 {R:Type} (c:C47):Ent R:=eG [.aC .cS] [] fun v k=>ob (c v.1) (K3 k)
abbrev Sp47 (c:C47):Prop:=∀ (p0 y:LB),c p0=some y→Spec Tryz.prog gl0 47 [.c (.str p0)] [] (.c (.str y)) []
theorem ek47 {R:Type} {c:C47} (hs:Sp47 c):EOk 47 (e47 (R:=R) c):=qak fun v=>hs v.1
theorem sf47:Sp47 (F47):=fun p0 y hy=>by
 refine qae qad 1000000 (fn:=Tryz.f47) (by kernel_rfl) (by kernel_rfl) (X:=X47) (by kernel_rfl) ?_
 rw [eq47]
 exact (nt47 Ops.std p0 _ _ some (K3 k0) (rr47 p0 k0 1000000) none).trans (by show ob (F47 p0) _=_;rw [hy];rfl)
noncomputable def M47:C47:=F47
theorem sm47:Sp47 M47:=sf47
end Go.Proofs.YtkmpkebaloejhaaGreatDoor.Av
