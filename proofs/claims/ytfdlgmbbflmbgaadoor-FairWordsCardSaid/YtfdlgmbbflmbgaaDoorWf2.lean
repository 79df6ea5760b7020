/- Twins of functions,printed by gen.py. Conditions: none. -/
import Derived.Test.YtfdlgmbbflmbgaaDoorWf1
import Derived.KernelRfl
set_option linter.unusedSimpArgs false
set_option linter.unusedVariables false
set_option maxRecDepth 100000
set_option maxHeartbeats 8000000
namespace Go.Proofs.YtfdlgmbbflmbgaaDoor.Av
open Go
def X101:Aux:=⟨[],[(4,.lin [0,1,2,3,4,5,6]),(7,.lin (rg 0 11))]⟩
def T101 {R:Type} (B:Ops) (c110:C110) (p0:L30) (p1:Int) (k:(Int×Int×L140)→Option R):Option R:=ob (c110 (1) p0 p1 (-1) (mt (Ty.den ty140))) fun y0=>cond (B.le (0) ((y0.2.2).1)) (k (((y0.2.2).1,2,mt (Ty.den ty140)))) (cond (B.lt (30) (Nat.cast (List.length ((y0.2.2).2)))) (k ((p1,13,mt (Ty.den ty140)))) (k ((y0.2.1,0,(y0.2.2).2))))
abbrev K12 {R:Type} (k:AV→Objs→Option R) (y:(Int×Int×L140)):Option R:=k (.tup [(false,[.own 501000]),(false,[.int .i64 y.1]),(false,[.int .i64 y.2.1])]) [(501000,.row 140 ty140 y.2.2)]
theorem eq101 {R:Type} (B:Ops) (c110:C110) (p0:L30) (p1:Int) (k:AV→Objs→Option R) (n:Nat):afun tau B gl0 X101 (ent 110 (e110 c110) gnil) ow Tryd.f101 [.c (.list 30 ty30 p0),.c (.int .i64 p1)] [] k n=T101 B c110 p0 p1 (K12 k):=by kernel_rfl
theorem nt101 {R R':Type} (B:Ops) (c110:C110) (p0:L30) (p1:Int) (k0:(Int×Int×L140)→Option R') (k:R'→Option R):T101 B c110 p0 p1 (fun y=>ob (k0 y) k)=ob (T101 B c110 p0 p1 k0) k:=by
 unfold T101
 repeat' first | exact rfl | apply qaf | (apply qao;intro)
def F101 (c110:C110) (p0:L30) (p1:Int):Option (Int×Int×L140):=T101 Ops.std c110 p0 p1 some
def e101 {R:Type} (c:L30→Int→Option (Int×Int×L140)):Ent R:=fun args objs k=>
 oL args 30 ty30 fun p0 l0=>oI l0 .i64 fun p1 l1=>oE l1 objs <| ob (c p0 p1) (K12 k)
abbrev Sp101 (c:L30→Int→Option (Int×Int×L140)):Prop:=∀ (p0:L30) (p1:Int) (y:Int×Int×L140),c p0 p1=some y→Spec Tryd.prog gl0 101 [.c (.list 30 ty30 p0),.c (.int .i64 p1)] [] (.tup [(false,[.own 501000]),(false,[.int .i64 y.1]),(false,[.int .i64 y.2.1])]) [(501000,.row 140 ty140 y.2.2)]
theorem ek101 {R:Type} {c:L30→Int→Option (Int×Int×L140)} (hs:Sp101 c):EOk 101 (e101 (R:=R) c):=fun args objs k r h=>by
 unfold e101 at h
 obtain ⟨p0,l0,rfl,q3⟩:=qaw h
 obtain ⟨p1,l1,rfl,q6⟩:=qau q3
 obtain ⟨rfl,rfl,q8⟩:=qam q6
 exact qap (hs p0 p1) q8
theorem sf101 {c110:C110} (h110:Sp110 c110):Sp101 (F101 c110):=fun p0 p1 y hy=>by
 refine qaj (qae (ek110 h110) qai) 1000000 (fn:=Tryd.f101) (by kernel_rfl) (by kernel_rfl) (X:=X101) (by kernel_rfl) ?_
 rw [eq101]
 exact (nt101 Ops.std c110 p0 p1 some (K12 k0)).trans (by show ob (F101 c110 p0 p1) _=_;rw [hy];rfl)
noncomputable def M101:L30→Int→Option (Int×Int×L140):=F101 M110
theorem sm101:Sp101 M101:=sf101 sm110
def X97:Aux:=⟨[(1000012,(rg 0 63))],[(1,.lin (rg 0 12))]⟩
inductive S97 where
 | l1012 (v0:L30) (v1:Int) (v2:Int) (v3:Int) (v4:L93)
def T97 {R:Type} (B:Ops) (c106:C106) (p0:Int) (p1:L30) (p2:Int) (p3:Int) (p4:Int) (p5:L93) (again:S97→Option R) (k:(Int×L30×Int×Int×Int×L93)→Option R):Option S97→Option R | none=>cond (B.inb p2 p1.length) (cond (B.eq p0 (1)) (ob (c106 ([45,62]:LB) p1 p2 p3 p4 p5) fun y0=>cond y0.1 (k ((7,y0.2.1,(y0.2.2).1,(y0.2.2.2).1,((y0.2.2.2).2).1,((y0.2.2.2).2).2))) (cond (B.eq p0 (2)) (ob (c106 ([124,124]:LB) y0.2.1 ((y0.2.2).1) ((y0.2.2.2).1) (((y0.2.2.2).2).1) (((y0.2.2.2).2).2)) fun y1=>cond y1.1 (k ((6,y1.2.1,(y1.2.2).1,(y1.2.2.2).1,((y1.2.2.2).2).1,((y1.2.2.2).2).2))) (cond (B.eq p0 (3)) (ob (c106 ([38,38]:LB) y1.2.1 ((y1.2.2).1) ((y1.2.2.2).1) (((y1.2.2.2).2).1) (((y1.2.2.2).2).2)) fun y2=>cond y2.1 (k ((5,y2.2.1,(y2.2.2).1,(y2.2.2.2).1,((y2.2.2.2).2).1,((y2.2.2.2).2).2))) (cond (B.eq p0 (4)) (cond (B.eq ((p1.getD p2.toNat ty30.dflt).1) (3)) (cond (((p1.getD p2.toNat ty30.dflt).2).1 == ([85]:LB)) (k ((9,y2.2.1,(y2.2.2).1,(y2.2.2.2).1,((y2.2.2.2).2).1,((y2.2.2.2).2).2))) (cond (B.eq p0 (4)) (cond (B.eq ((p1.getD p2.toNat ty30.dflt).1) (3)) (cond (((p1.getD p2.toNat ty30.dflt).2).1 == ([82]:LB)) (k ((10,y2.2.1,(y2.2.2).1,(y2.2.2.2).1,((y2.2.2.2).2).1,((y2.2.2.2).2).2))) (again (.l1012 y2.2.1 ((y2.2.2).1) ((y2.2.2.2).1) (((y2.2.2.2).2).1) (((y2.2.2.2).2).2)))) (again (.l1012 y2.2.1 ((y2.2.2).1) ((y2.2.2.2).1) (((y2.2.2.2).2).1) (((y2.2.2.2).2).2)))) (again (.l1012 y2.2.1 ((y2.2.2).1) ((y2.2.2.2).1) (((y2.2.2.2).2).1) (((y2.2.2.2).2).2))))) (cond (B.eq p0 (4)) (cond (B.eq ((p1.getD p2.toNat ty30.dflt).1) (3)) (cond (((p1.getD p2.toNat ty30.dflt).2).1 == ([82]:LB)) (k ((10,y2.2.1,(y2.2.2).1,(y2.2.2.2).1,((y2.2.2.2).2).1,((y2.2.2.2).2).2))) (again (.l1012 y2.2.1 ((y2.2.2).1) ((y2.2.2.2).1) (((y2.2.2.2).2).1) (((y2.2.2.2).2).2)))) (again (.l1012 y2.2.1 ((y2.2.2).1) ((y2.2.2.2).1) (((y2.2.2.2).2).1) (((y2.2.2.2).2).2)))) (again (.l1012 y2.2.1 ((y2.2.2).1) ((y2.2.2.2).1) (((y2.2.2.2).2).1) (((y2.2.2.2).2).2))))) (cond (B.eq p0 (4)) (cond (B.eq ((p1.getD p2.toNat ty30.dflt).1) (3)) (cond (((p1.getD p2.toNat ty30.dflt).2).1 == ([82]:LB)) (k ((10,y2.2.1,(y2.2.2).1,(y2.2.2.2).1,((y2.2.2.2).2).1,((y2.2.2.2).2).2))) (again (.l1012 y2.2.1 ((y2.2.2).1) ((y2.2.2.2).1) (((y2.2.2.2).2).1) (((y2.2.2.2).2).2)))) (again (.l1012 y2.2.1 ((y2.2.2).1) ((y2.2.2.2).1) (((y2.2.2.2).2).1) (((y2.2.2.2).2).2)))) (again (.l1012 y2.2.1 ((y2.2.2).1) ((y2.2.2.2).1) (((y2.2.2.2).2).1) (((y2.2.2.2).2).2)))))) (cond (B.eq p0 (4)) (cond (B.eq ((p1.getD p2.toNat ty30.dflt).1) (3)) (cond (((p1.getD p2.toNat ty30.dflt).2).1 == ([85]:LB)) (k ((9,y1.2.1,(y1.2.2).1,(y1.2.2.2).1,((y1.2.2.2).2).1,((y1.2.2.2).2).2))) (cond (B.eq p0 (4)) (cond (B.eq ((p1.getD p2.toNat ty30.dflt).1) (3)) (cond (((p1.getD p2.toNat ty30.dflt).2).1 == ([82]:LB)) (k ((10,y1.2.1,(y1.2.2).1,(y1.2.2.2).1,((y1.2.2.2).2).1,((y1.2.2.2).2).2))) (again (.l1012 y1.2.1 ((y1.2.2).1) ((y1.2.2.2).1) (((y1.2.2.2).2).1) (((y1.2.2.2).2).2)))) (again (.l1012 y1.2.1 ((y1.2.2).1) ((y1.2.2.2).1) (((y1.2.2.2).2).1) (((y1.2.2.2).2).2)))) (again (.l1012 y1.2.1 ((y1.2.2).1) ((y1.2.2.2).1) (((y1.2.2.2).2).1) (((y1.2.2.2).2).2))))) (cond (B.eq p0 (4)) (cond (B.eq ((p1.getD p2.toNat ty30.dflt).1) (3)) (cond (((p1.getD p2.toNat ty30.dflt).2).1 == ([82]:LB)) (k ((10,y1.2.1,(y1.2.2).1,(y1.2.2.2).1,((y1.2.2.2).2).1,((y1.2.2.2).2).2))) (again (.l1012 y1.2.1 ((y1.2.2).1) ((y1.2.2.2).1) (((y1.2.2.2).2).1) (((y1.2.2.2).2).2)))) (again (.l1012 y1.2.1 ((y1.2.2).1) ((y1.2.2.2).1) (((y1.2.2.2).2).1) (((y1.2.2.2).2).2)))) (again (.l1012 y1.2.1 ((y1.2.2).1) ((y1.2.2.2).1) (((y1.2.2.2).2).1) (((y1.2.2.2).2).2))))) (cond (B.eq p0 (4)) (cond (B.eq ((p1.getD p2.toNat ty30.dflt).1) (3)) (cond (((p1.getD p2.toNat ty30.dflt).2).1 == ([82]:LB)) (k ((10,y1.2.1,(y1.2.2).1,(y1.2.2.2).1,((y1.2.2.2).2).1,((y1.2.2.2).2).2))) (again (.l1012 y1.2.1 ((y1.2.2).1) ((y1.2.2.2).1) (((y1.2.2.2).2).1) (((y1.2.2.2).2).2)))) (again (.l1012 y1.2.1 ((y1.2.2).1) ((y1.2.2.2).1) (((y1.2.2.2).2).1) (((y1.2.2.2).2).2)))) (again (.l1012 y1.2.1 ((y1.2.2).1) ((y1.2.2.2).1) (((y1.2.2.2).2).1) (((y1.2.2.2).2).2))))))) (cond (B.eq p0 (3)) (ob (c106 ([38,38]:LB) y0.2.1 ((y0.2.2).1) ((y0.2.2.2).1) (((y0.2.2.2).2).1) (((y0.2.2.2).2).2)) fun y1=>cond y1.1 (k ((5,y1.2.1,(y1.2.2).1,(y1.2.2.2).1,((y1.2.2.2).2).1,((y1.2.2.2).2).2))) (cond (B.eq p0 (4)) (cond (B.eq ((p1.getD p2.toNat ty30.dflt).1) (3)) (cond (((p1.getD p2.toNat ty30.dflt).2).1 == ([85]:LB)) (k ((9,y1.2.1,(y1.2.2).1,(y1.2.2.2).1,((y1.2.2.2).2).1,((y1.2.2.2).2).2))) (cond (B.eq p0 (4)) (cond (B.eq ((p1.getD p2.toNat ty30.dflt).1) (3)) (cond (((p1.getD p2.toNat ty30.dflt).2).1 == ([82]:LB)) (k ((10,y1.2.1,(y1.2.2).1,(y1.2.2.2).1,((y1.2.2.2).2).1,((y1.2.2.2).2).2))) (again (.l1012 y1.2.1 ((y1.2.2).1) ((y1.2.2.2).1) (((y1.2.2.2).2).1) (((y1.2.2.2).2).2)))) (again (.l1012 y1.2.1 ((y1.2.2).1) ((y1.2.2.2).1) (((y1.2.2.2).2).1) (((y1.2.2.2).2).2)))) (again (.l1012 y1.2.1 ((y1.2.2).1) ((y1.2.2.2).1) (((y1.2.2.2).2).1) (((y1.2.2.2).2).2))))) (cond (B.eq p0 (4)) (cond (B.eq ((p1.getD p2.toNat ty30.dflt).1) (3)) (cond (((p1.getD p2.toNat ty30.dflt).2).1 == ([82]:LB)) (k ((10,y1.2.1,(y1.2.2).1,(y1.2.2.2).1,((y1.2.2.2).2).1,((y1.2.2.2).2).2))) (again (.l1012 y1.2.1 ((y1.2.2).1) ((y1.2.2.2).1) (((y1.2.2.2).2).1) (((y1.2.2.2).2).2)))) (again (.l1012 y1.2.1 ((y1.2.2).1) ((y1.2.2.2).1) (((y1.2.2.2).2).1) (((y1.2.2.2).2).2)))) (again (.l1012 y1.2.1 ((y1.2.2).1) ((y1.2.2.2).1) (((y1.2.2.2).2).1) (((y1.2.2.2).2).2))))) (cond (B.eq p0 (4)) (cond (B.eq ((p1.getD p2.toNat ty30.dflt).1) (3)) (cond (((p1.getD p2.toNat ty30.dflt).2).1 == ([82]:LB)) (k ((10,y1.2.1,(y1.2.2).1,(y1.2.2.2).1,((y1.2.2.2).2).1,((y1.2.2.2).2).2))) (again (.l1012 y1.2.1 ((y1.2.2).1) ((y1.2.2.2).1) (((y1.2.2.2).2).1) (((y1.2.2.2).2).2)))) (again (.l1012 y1.2.1 ((y1.2.2).1) ((y1.2.2.2).1) (((y1.2.2.2).2).1) (((y1.2.2.2).2).2)))) (again (.l1012 y1.2.1 ((y1.2.2).1) ((y1.2.2.2).1) (((y1.2.2.2).2).1) (((y1.2.2.2).2).2)))))) (cond (B.eq p0 (4)) (cond (B.eq ((p1.getD p2.toNat ty30.dflt).1) (3)) (cond (((p1.getD p2.toNat ty30.dflt).2).1 == ([85]:LB)) (k ((9,y0.2.1,(y0.2.2).1,(y0.2.2.2).1,((y0.2.2.2).2).1,((y0.2.2.2).2).2))) (cond (B.eq p0 (4)) (cond (B.eq ((p1.getD p2.toNat ty30.dflt).1) (3)) (cond (((p1.getD p2.toNat ty30.dflt).2).1 == ([82]:LB)) (k ((10,y0.2.1,(y0.2.2).1,(y0.2.2.2).1,((y0.2.2.2).2).1,((y0.2.2.2).2).2))) (again (.l1012 y0.2.1 ((y0.2.2).1) ((y0.2.2.2).1) (((y0.2.2.2).2).1) (((y0.2.2.2).2).2)))) (again (.l1012 y0.2.1 ((y0.2.2).1) ((y0.2.2.2).1) (((y0.2.2.2).2).1) (((y0.2.2.2).2).2)))) (again (.l1012 y0.2.1 ((y0.2.2).1) ((y0.2.2.2).1) (((y0.2.2.2).2).1) (((y0.2.2.2).2).2))))) (cond (B.eq p0 (4)) (cond (B.eq ((p1.getD p2.toNat ty30.dflt).1) (3)) (cond (((p1.getD p2.toNat ty30.dflt).2).1 == ([82]:LB)) (k ((10,y0.2.1,(y0.2.2).1,(y0.2.2.2).1,((y0.2.2.2).2).1,((y0.2.2.2).2).2))) (again (.l1012 y0.2.1 ((y0.2.2).1) ((y0.2.2.2).1) (((y0.2.2.2).2).1) (((y0.2.2.2).2).2)))) (again (.l1012 y0.2.1 ((y0.2.2).1) ((y0.2.2.2).1) (((y0.2.2.2).2).1) (((y0.2.2.2).2).2)))) (again (.l1012 y0.2.1 ((y0.2.2).1) ((y0.2.2.2).1) (((y0.2.2.2).2).1) (((y0.2.2.2).2).2))))) (cond (B.eq p0 (4)) (cond (B.eq ((p1.getD p2.toNat ty30.dflt).1) (3)) (cond (((p1.getD p2.toNat ty30.dflt).2).1 == ([82]:LB)) (k ((10,y0.2.1,(y0.2.2).1,(y0.2.2.2).1,((y0.2.2.2).2).1,((y0.2.2.2).2).2))) (again (.l1012 y0.2.1 ((y0.2.2).1) ((y0.2.2.2).1) (((y0.2.2.2).2).1) (((y0.2.2.2).2).2)))) (again (.l1012 y0.2.1 ((y0.2.2).1) ((y0.2.2.2).1) (((y0.2.2.2).2).1) (((y0.2.2.2).2).2)))) (again (.l1012 y0.2.1 ((y0.2.2).1) ((y0.2.2.2).1) (((y0.2.2.2).2).1) (((y0.2.2.2).2).2)))))))) (cond (B.eq p0 (2)) (ob (c106 ([124,124]:LB) p1 p2 p3 p4 p5) fun y0=>cond y0.1 (k ((6,y0.2.1,(y0.2.2).1,(y0.2.2.2).1,((y0.2.2.2).2).1,((y0.2.2.2).2).2))) (cond (B.eq p0 (3)) (ob (c106 ([38,38]:LB) y0.2.1 ((y0.2.2).1) ((y0.2.2.2).1) (((y0.2.2.2).2).1) (((y0.2.2.2).2).2)) fun y1=>cond y1.1 (k ((5,y1.2.1,(y1.2.2).1,(y1.2.2.2).1,((y1.2.2.2).2).1,((y1.2.2.2).2).2))) (cond (B.eq p0 (4)) (cond (B.eq ((p1.getD p2.toNat ty30.dflt).1) (3)) (cond (((p1.getD p2.toNat ty30.dflt).2).1 == ([85]:LB)) (k ((9,y1.2.1,(y1.2.2).1,(y1.2.2.2).1,((y1.2.2.2).2).1,((y1.2.2.2).2).2))) (cond (B.eq p0 (4)) (cond (B.eq ((p1.getD p2.toNat ty30.dflt).1) (3)) (cond (((p1.getD p2.toNat ty30.dflt).2).1 == ([82]:LB)) (k ((10,y1.2.1,(y1.2.2).1,(y1.2.2.2).1,((y1.2.2.2).2).1,((y1.2.2.2).2).2))) (again (.l1012 y1.2.1 ((y1.2.2).1) ((y1.2.2.2).1) (((y1.2.2.2).2).1) (((y1.2.2.2).2).2)))) (again (.l1012 y1.2.1 ((y1.2.2).1) ((y1.2.2.2).1) (((y1.2.2.2).2).1) (((y1.2.2.2).2).2)))) (again (.l1012 y1.2.1 ((y1.2.2).1) ((y1.2.2.2).1) (((y1.2.2.2).2).1) (((y1.2.2.2).2).2))))) (cond (B.eq p0 (4)) (cond (B.eq ((p1.getD p2.toNat ty30.dflt).1) (3)) (cond (((p1.getD p2.toNat ty30.dflt).2).1 == ([82]:LB)) (k ((10,y1.2.1,(y1.2.2).1,(y1.2.2.2).1,((y1.2.2.2).2).1,((y1.2.2.2).2).2))) (again (.l1012 y1.2.1 ((y1.2.2).1) ((y1.2.2.2).1) (((y1.2.2.2).2).1) (((y1.2.2.2).2).2)))) (again (.l1012 y1.2.1 ((y1.2.2).1) ((y1.2.2.2).1) (((y1.2.2.2).2).1) (((y1.2.2.2).2).2)))) (again (.l1012 y1.2.1 ((y1.2.2).1) ((y1.2.2.2).1) (((y1.2.2.2).2).1) (((y1.2.2.2).2).2))))) (cond (B.eq p0 (4)) (cond (B.eq ((p1.getD p2.toNat ty30.dflt).1) (3)) (cond (((p1.getD p2.toNat ty30.dflt).2).1 == ([82]:LB)) (k ((10,y1.2.1,(y1.2.2).1,(y1.2.2.2).1,((y1.2.2.2).2).1,((y1.2.2.2).2).2))) (again (.l1012 y1.2.1 ((y1.2.2).1) ((y1.2.2.2).1) (((y1.2.2.2).2).1) (((y1.2.2.2).2).2)))) (again (.l1012 y1.2.1 ((y1.2.2).1) ((y1.2.2.2).1) (((y1.2.2.2).2).1) (((y1.2.2.2).2).2)))) (again (.l1012 y1.2.1 ((y1.2.2).1) ((y1.2.2.2).1) (((y1.2.2.2).2).1) (((y1.2.2.2).2).2)))))) (cond (B.eq p0 (4)) (cond (B.eq ((p1.getD p2.toNat ty30.dflt).1) (3)) (cond (((p1.getD p2.toNat ty30.dflt).2).1 == ([85]:LB)) (k ((9,y0.2.1,(y0.2.2).1,(y0.2.2.2).1,((y0.2.2.2).2).1,((y0.2.2.2).2).2))) (cond (B.eq p0 (4)) (cond (B.eq ((p1.getD p2.toNat ty30.dflt).1) (3)) (cond (((p1.getD p2.toNat ty30.dflt).2).1 == ([82]:LB)) (k ((10,y0.2.1,(y0.2.2).1,(y0.2.2.2).1,((y0.2.2.2).2).1,((y0.2.2.2).2).2))) (again (.l1012 y0.2.1 ((y0.2.2).1) ((y0.2.2.2).1) (((y0.2.2.2).2).1) (((y0.2.2.2).2).2)))) (again (.l1012 y0.2.1 ((y0.2.2).1) ((y0.2.2.2).1) (((y0.2.2.2).2).1) (((y0.2.2.2).2).2)))) (again (.l1012 y0.2.1 ((y0.2.2).1) ((y0.2.2.2).1) (((y0.2.2.2).2).1) (((y0.2.2.2).2).2))))) (cond (B.eq p0 (4)) (cond (B.eq ((p1.getD p2.toNat ty30.dflt).1) (3)) (cond (((p1.getD p2.toNat ty30.dflt).2).1 == ([82]:LB)) (k ((10,y0.2.1,(y0.2.2).1,(y0.2.2.2).1,((y0.2.2.2).2).1,((y0.2.2.2).2).2))) (again (.l1012 y0.2.1 ((y0.2.2).1) ((y0.2.2.2).1) (((y0.2.2.2).2).1) (((y0.2.2.2).2).2)))) (again (.l1012 y0.2.1 ((y0.2.2).1) ((y0.2.2.2).1) (((y0.2.2.2).2).1) (((y0.2.2.2).2).2)))) (again (.l1012 y0.2.1 ((y0.2.2).1) ((y0.2.2.2).1) (((y0.2.2.2).2).1) (((y0.2.2.2).2).2))))) (cond (B.eq p0 (4)) (cond (B.eq ((p1.getD p2.toNat ty30.dflt).1) (3)) (cond (((p1.getD p2.toNat ty30.dflt).2).1 == ([82]:LB)) (k ((10,y0.2.1,(y0.2.2).1,(y0.2.2.2).1,((y0.2.2.2).2).1,((y0.2.2.2).2).2))) (again (.l1012 y0.2.1 ((y0.2.2).1) ((y0.2.2.2).1) (((y0.2.2.2).2).1) (((y0.2.2.2).2).2)))) (again (.l1012 y0.2.1 ((y0.2.2).1) ((y0.2.2.2).1) (((y0.2.2.2).2).1) (((y0.2.2.2).2).2)))) (again (.l1012 y0.2.1 ((y0.2.2).1) ((y0.2.2.2).1) (((y0.2.2.2).2).1) (((y0.2.2.2).2).2))))))) (cond (B.eq p0 (3)) (ob (c106 ([38,38]:LB) p1 p2 p3 p4 p5) fun y0=>cond y0.1 (k ((5,y0.2.1,(y0.2.2).1,(y0.2.2.2).1,((y0.2.2.2).2).1,((y0.2.2.2).2).2))) (cond (B.eq p0 (4)) (cond (B.eq ((p1.getD p2.toNat ty30.dflt).1) (3)) (cond (((p1.getD p2.toNat ty30.dflt).2).1 == ([85]:LB)) (k ((9,y0.2.1,(y0.2.2).1,(y0.2.2.2).1,((y0.2.2.2).2).1,((y0.2.2.2).2).2))) (cond (B.eq p0 (4)) (cond (B.eq ((p1.getD p2.toNat ty30.dflt).1) (3)) (cond (((p1.getD p2.toNat ty30.dflt).2).1 == ([82]:LB)) (k ((10,y0.2.1,(y0.2.2).1,(y0.2.2.2).1,((y0.2.2.2).2).1,((y0.2.2.2).2).2))) (again (.l1012 y0.2.1 ((y0.2.2).1) ((y0.2.2.2).1) (((y0.2.2.2).2).1) (((y0.2.2.2).2).2)))) (again (.l1012 y0.2.1 ((y0.2.2).1) ((y0.2.2.2).1) (((y0.2.2.2).2).1) (((y0.2.2.2).2).2)))) (again (.l1012 y0.2.1 ((y0.2.2).1) ((y0.2.2.2).1) (((y0.2.2.2).2).1) (((y0.2.2.2).2).2))))) (cond (B.eq p0 (4)) (cond (B.eq ((p1.getD p2.toNat ty30.dflt).1) (3)) (cond (((p1.getD p2.toNat ty30.dflt).2).1 == ([82]:LB)) (k ((10,y0.2.1,(y0.2.2).1,(y0.2.2.2).1,((y0.2.2.2).2).1,((y0.2.2.2).2).2))) (again (.l1012 y0.2.1 ((y0.2.2).1) ((y0.2.2.2).1) (((y0.2.2.2).2).1) (((y0.2.2.2).2).2)))) (again (.l1012 y0.2.1 ((y0.2.2).1) ((y0.2.2.2).1) (((y0.2.2.2).2).1) (((y0.2.2.2).2).2)))) (again (.l1012 y0.2.1 ((y0.2.2).1) ((y0.2.2.2).1) (((y0.2.2.2).2).1) (((y0.2.2.2).2).2))))) (cond (B.eq p0 (4)) (cond (B.eq ((p1.getD p2.toNat ty30.dflt).1) (3)) (cond (((p1.getD p2.toNat ty30.dflt).2).1 == ([82]:LB)) (k ((10,y0.2.1,(y0.2.2).1,(y0.2.2.2).1,((y0.2.2.2).2).1,((y0.2.2.2).2).2))) (again (.l1012 y0.2.1 ((y0.2.2).1) ((y0.2.2.2).1) (((y0.2.2.2).2).1) (((y0.2.2.2).2).2)))) (again (.l1012 y0.2.1 ((y0.2.2).1) ((y0.2.2.2).1) (((y0.2.2.2).2).1) (((y0.2.2.2).2).2)))) (again (.l1012 y0.2.1 ((y0.2.2).1) ((y0.2.2.2).1) (((y0.2.2.2).2).1) (((y0.2.2.2).2).2)))))) (cond (B.eq p0 (4)) (cond (B.eq ((p1.getD p2.toNat ty30.dflt).1) (3)) (cond (((p1.getD p2.toNat ty30.dflt).2).1 == ([85]:LB)) (k ((9,p1,p2,p3,p4,p5))) (cond (B.eq p0 (4)) (cond (B.eq ((p1.getD p2.toNat ty30.dflt).1) (3)) (cond (((p1.getD p2.toNat ty30.dflt).2).1 == ([82]:LB)) (k ((10,p1,p2,p3,p4,p5))) (again (.l1012 p1 p2 p3 p4 p5))) (again (.l1012 p1 p2 p3 p4 p5))) (again (.l1012 p1 p2 p3 p4 p5)))) (cond (B.eq p0 (4)) (cond (B.eq ((p1.getD p2.toNat ty30.dflt).1) (3)) (cond (((p1.getD p2.toNat ty30.dflt).2).1 == ([82]:LB)) (k ((10,p1,p2,p3,p4,p5))) (again (.l1012 p1 p2 p3 p4 p5))) (again (.l1012 p1 p2 p3 p4 p5))) (again (.l1012 p1 p2 p3 p4 p5)))) (cond (B.eq p0 (4)) (cond (B.eq ((p1.getD p2.toNat ty30.dflt).1) (3)) (cond (((p1.getD p2.toNat ty30.dflt).2).1 == ([82]:LB)) (k ((10,p1,p2,p3,p4,p5))) (again (.l1012 p1 p2 p3 p4 p5))) (again (.l1012 p1 p2 p3 p4 p5))) (again (.l1012 p1 p2 p3 p4 p5))))))) none | some (.l1012 v0 v1 v2 v3 v4)=>k ((0,v0,v1,v2,v3,v4))
def E97 (p0:Int) (p1:L30) (p2:Int) (p3:Int) (p4:Int) (p5:L93):S97→List AV×Objs
 | .l1012 v0 v1 v2 v3 v4=>(mk 63 [],[(0,.box 129 [.list 30 ty30 v0,.int .i64 v1,.own 1002,.int .i64 v2,.int .i64 v3]),(1002,.row 93 ty93 v4)])
def I97:S97→Nat
 | .l1012 _ _ _ _ _=>1012
abbrev K13 {R:Type} (k:AV→Objs→Option R) (y:(Int×L30×Int×Int×Int×L93)):Option R:=k (.c (.int .i64 y.1)) [(0,.box 129 [.list 30 ty30 y.2.1,.int .i64 y.2.2.1,.own 1002,.int .i64 y.2.2.2.1,.int .i64 y.2.2.2.2.1]),(1002,.row 93 ty93 y.2.2.2.2.2)]
theorem eq97 {R:Type} (B:Ops) (c106:C106) (p0:Int) (p1:L30) (p2:Int) (p3:Int) (p4:Int) (p5:L93) (k:AV→Objs→Option R) (n:Nat):afun tau B gl0 X97 (ent 106 (e106 c106) gnil) ow Tryd.f97 [.c (.ptr 0 0),.c (.int .i64 p0)] [(0,.box 129 [.list 30 ty30 p1,.int .i64 p2,.own 1002,.int .i64 p3,.int .i64 p4]),(1002,.row 93 ty93 p5)] k n=T97 B c106 p0 p1 p2 p3 p4 p5 (fun s=>aloop tau B gl0 X97 (ent 106 (e106 c106) gnil) ow [0] Tryd.f97 k (I97 s) (E97 p0 p1 p2 p3 p4 p5 s) n) (K13 k) none:=by kernel_rfl
theorem el97 {R:Type} (B:Ops) (c106:C106) (p0:Int) (p1:L30) (p2:Int) (p3:Int) (p4:Int) (p5:L93) (k:AV→Objs→Option R) (n:Nat):∀ s,aloop tau B gl0 X97 (ent 106 (e106 c106) gnil) ow [0] Tryd.f97 k (I97 s) (E97 p0 p1 p2 p3 p4 p5 s) (n+1)=T97 B c106 p0 p1 p2 p3 p4 p5 (fun s=>aloop tau B gl0 X97 (ent 106 (e106 c106) gnil) ow [0] Tryd.f97 k (I97 s) (E97 p0 p1 p2 p3 p4 p5 s) n) (K13 k) (some s):=by
 intro s
 cases s<;>kernel_rfl
theorem nt97 {R R':Type} (B:Ops) (c106:C106) (p0:Int) (p1:L30) (p2:Int) (p3:Int) (p4:Int) (p5:L93) (again:S97→Option R) (again':S97→Option R') (k0:(Int×L30×Int×Int×Int×L93)→Option R') (k:R'→Option R) (h:∀ s,again s=ob (again' s) k):∀ s,T97 B c106 p0 p1 p2 p3 p4 p5 again (fun y=>ob (k0 y) k) s=ob (T97 B c106 p0 p1 p2 p3 p4 p5 again' k0 s) k:=by
 rintro (_ | x)
 all_goals try cases x
 all_goals (unfold T97;repeat' first | exact rfl | exact h _ | apply qaf | (apply qao;intro))
def R97 (c106:C106) (p0:Int) (p1:L30) (p2:Int) (p3:Int) (p4:Int) (p5:L93):Nat→S97→Option (Int×L30×Int×Int×Int×L93)
 | 0,_=>none
 | n+1,s=>T97 Ops.std c106 p0 p1 p2 p3 p4 p5 (R97 c106 p0 p1 p2 p3 p4 p5 n) some (some s)
theorem rr97 {R:Type} (c106:C106) (p0:Int) (p1:L30) (p2:Int) (p3:Int) (p4:Int) (p5:L93) (k:AV→Objs→Option R):∀ (n:Nat) (s:S97),aloop tau Ops.std gl0 X97 (ent 106 (e106 c106) gnil) ow [0] Tryd.f97 k (I97 s) (E97 p0 p1 p2 p3 p4 p5 s) n=ob (R97 c106 p0 p1 p2 p3 p4 p5 n s) (K13 k)
 | 0,s=>by cases s<;>rfl
 | n+1,s=>by rw [el97];exact nt97 Ops.std c106 p0 p1 p2 p3 p4 p5 _ _ some (K13 k) (rr97 c106 p0 p1 p2 p3 p4 p5 k n) (some s)
def F97 (c106:C106) (p0:Int) (p1:L30) (p2:Int) (p3:Int) (p4:Int) (p5:L93):Option (Int×L30×Int×Int×Int×L93):=T97 Ops.std c106 p0 p1 p2 p3 p4 p5 (R97 c106 p0 p1 p2 p3 p4 p5 1000000) some none
def e97 {R:Type} (c:Int→L30→Int→Int→Int→L93→Option (Int×L30×Int×Int×Int×L93)):Ent R:=fun args objs k=>
 oCons args fun a0 l0=>oC a0 fun x0=>cPtr 0 x0 <| oI l0 .i64 fun p0 l1=>oNil l1 <| oBox 0 129 objs fun b0 o0=>cCons b0 fun u0_0 v0=>cList 30 ty30 u0_0 fun p1=>cCons v0 fun u0_1 v1=>cInt .i64 u0_1 fun p2=>cCons v1 fun u0_2 v2=>cOwn 1002 u0_2 <| cCons v2 fun u0_3 v3=>cInt .i64 u0_3 fun p3=>cCons v3 fun u0_4 v4=>cInt .i64 u0_4 fun p4=>cNil v4 <| oRow 1002 93 ty93 o0 fun p5 o1=>oNilO o1 <| ob (c p0 p1 p2 p3 p4 p5) (K13 k)
abbrev Sp97 (c:Int→L30→Int→Int→Int→L93→Option (Int×L30×Int×Int×Int×L93)):Prop:=∀ (p0:Int) (p1:L30) (p2:Int) (p3:Int) (p4:Int) (p5:L93) (y:Int×L30×Int×Int×Int×L93),c p0 p1 p2 p3 p4 p5=some y→Spec Tryd.prog gl0 97 [.c (.ptr 0 0),.c (.int .i64 p0)] [(0,.box 129 [.list 30 ty30 p1,.int .i64 p2,.own 1002,.int .i64 p3,.int .i64 p4]),(1002,.row 93 ty93 p5)] (.c (.int .i64 y.1)) [(0,.box 129 [.list 30 ty30 y.2.1,.int .i64 y.2.2.1,.own 1002,.int .i64 y.2.2.2.1,.int .i64 y.2.2.2.2.1]),(1002,.row 93 ty93 y.2.2.2.2.2)]
theorem ek97 {R:Type} {c:Int→L30→Int→Int→Int→L93→Option (Int×L30×Int×Int×Int×L93)} (hs:Sp97 c):EOk 97 (e97 (R:=R) c):=fun args objs k r h=>by
 unfold e97 at h
 obtain ⟨a0,l0,rfl,q1⟩:=qal h
 obtain ⟨x0,rfl,q2⟩:=qa6 q1
 obtain ⟨rfl,q3⟩:=qa5 q2
 obtain ⟨p0,l1,rfl,q6⟩:=qau q3
 obtain ⟨rfl,q7⟩:=qa3 q6
 obtain ⟨b0,o0,rfl,q8⟩:=qa7 q7
 obtain ⟨u0_0,v0,rfl,q9⟩:=qab q8
 obtain ⟨p1,rfl,q10⟩:=qad q9
 obtain ⟨u0_1,v1,rfl,q11⟩:=qab q10
 obtain ⟨p2,rfl,q12⟩:=qaq q11
 obtain ⟨u0_2,v2,rfl,q13⟩:=qab q12
 obtain ⟨rfl,q14⟩:=qbi q13
 obtain ⟨u0_3,v3,rfl,q15⟩:=qab q14
 obtain ⟨p3,rfl,q16⟩:=qaq q15
 obtain ⟨u0_4,v4,rfl,q17⟩:=qab q16
 obtain ⟨p4,rfl,q18⟩:=qaq q17
 obtain ⟨rfl,q19⟩:=qar q18
 obtain ⟨p5,o1,rfl,q20⟩:=qbj q19
 obtain ⟨rfl,q21⟩:=qa0 q20
 exact qap (hs p0 p1 p2 p3 p4 p5) q21
theorem sf97 {c106:C106} (h106:Sp106 c106):Sp97 (F97 c106):=fun p0 p1 p2 p3 p4 p5 y hy=>by
 refine qaj (qae (ek106 h106) qai) 1000000 (fn:=Tryd.f97) (by kernel_rfl) (by kernel_rfl) (X:=X97) (by kernel_rfl) ?_
 rw [eq97]
 exact (nt97 Ops.std c106 p0 p1 p2 p3 p4 p5 _ _ some (K13 k0) (rr97 c106 p0 p1 p2 p3 p4 p5 k0 1000000) none).trans (by show ob (F97 c106 p0 p1 p2 p3 p4 p5) _=_;rw [hy];rfl)
noncomputable def M97:Int→L30→Int→Int→Int→L93→Option (Int×L30×Int×Int×Int×L93):=F97 M106
theorem sm97:Sp97 M97:=sf97 sm106
def e73 {R:Type} (c:Int→L30→Int→Int→Int→L93→Option (L30×Int×Int×Int×L93)):Ent R:=fun args objs k=>
 oCons args fun a0 l0=>oC a0 fun x0=>cPtr 0 x0 <| oI l0 .i64 fun p0 l1=>oNil l1 <| oBox 0 129 objs fun b0 o0=>cCons b0 fun u0_0 v0=>cList 30 ty30 u0_0 fun p1=>cCons v0 fun u0_1 v1=>cInt .i64 u0_1 fun p2=>cCons v1 fun u0_2 v2=>cOwn 1002 u0_2 <| cCons v2 fun u0_3 v3=>cInt .i64 u0_3 fun p3=>cCons v3 fun u0_4 v4=>cInt .i64 u0_4 fun p4=>cNil v4 <| oRow 1002 93 ty93 o0 fun p5 o1=>oNilO o1 <| ob (c p0 p1 p2 p3 p4 p5) (K9 k)
abbrev Sp73 (c:Int→L30→Int→Int→Int→L93→Option (L30×Int×Int×Int×L93)):Prop:=∀ (p0:Int) (p1:L30) (p2:Int) (p3:Int) (p4:Int) (p5:L93) (y:L30×Int×Int×Int×L93),c p0 p1 p2 p3 p4 p5=some y→Spec Tryd.prog gl0 73 [.c (.ptr 0 0),.c (.int .i64 p0)] [(0,.box 129 [.list 30 ty30 p1,.int .i64 p2,.own 1002,.int .i64 p3,.int .i64 p4]),(1002,.row 93 ty93 p5)] (.tup []) [(0,.box 129 [.list 30 ty30 y.1,.int .i64 y.2.1,.own 1002,.int .i64 y.2.2.1,.int .i64 y.2.2.2.1]),(1002,.row 93 ty93 y.2.2.2.2)]
theorem ek73 {R:Type} {c:Int→L30→Int→Int→Int→L93→Option (L30×Int×Int×Int×L93)} (hs:Sp73 c):EOk 73 (e73 (R:=R) c):=fun args objs k r h=>by
 unfold e73 at h
 obtain ⟨a0,l0,rfl,q1⟩:=qal h
 obtain ⟨x0,rfl,q2⟩:=qa6 q1
 obtain ⟨rfl,q3⟩:=qa5 q2
 obtain ⟨p0,l1,rfl,q6⟩:=qau q3
 obtain ⟨rfl,q7⟩:=qa3 q6
 obtain ⟨b0,o0,rfl,q8⟩:=qa7 q7
 obtain ⟨u0_0,v0,rfl,q9⟩:=qab q8
 obtain ⟨p1,rfl,q10⟩:=qad q9
 obtain ⟨u0_1,v1,rfl,q11⟩:=qab q10
 obtain ⟨p2,rfl,q12⟩:=qaq q11
 obtain ⟨u0_2,v2,rfl,q13⟩:=qab q12
 obtain ⟨rfl,q14⟩:=qbi q13
 obtain ⟨u0_3,v3,rfl,q15⟩:=qab q14
 obtain ⟨p3,rfl,q16⟩:=qaq q15
 obtain ⟨u0_4,v4,rfl,q17⟩:=qab q16
 obtain ⟨p4,rfl,q18⟩:=qaq q17
 obtain ⟨rfl,q19⟩:=qar q18
 obtain ⟨p5,o1,rfl,q20⟩:=qbj q19
 obtain ⟨rfl,q21⟩:=qa0 q20
 exact qap (hs p0 p1 p2 p3 p4 p5) q21
def e96 {R:Type} (c:L30→Int→Int→Int→L93→Option (L30×Int×Int×Int×L93)):Ent R:=fun args objs k=>
 oCons args fun a0 l0=>oC a0 fun x0=>cPtr 0 x0 <| oNil l0 <| oBox 0 129 objs fun b0 o0=>cCons b0 fun u0_0 v0=>cList 30 ty30 u0_0 fun p0=>cCons v0 fun u0_1 v1=>cInt .i64 u0_1 fun p1=>cCons v1 fun u0_2 v2=>cOwn 1002 u0_2 <| cCons v2 fun u0_3 v3=>cInt .i64 u0_3 fun p2=>cCons v3 fun u0_4 v4=>cInt .i64 u0_4 fun p3=>cNil v4 <| oRow 1002 93 ty93 o0 fun p4 o1=>oNilO o1 <| ob (c p0 p1 p2 p3 p4) (K9 k)
abbrev Sp96 (c:L30→Int→Int→Int→L93→Option (L30×Int×Int×Int×L93)):Prop:=∀ (p0:L30) (p1:Int) (p2:Int) (p3:Int) (p4:L93) (y:L30×Int×Int×Int×L93),c p0 p1 p2 p3 p4=some y→Spec Tryd.prog gl0 96 [.c (.ptr 0 0)] [(0,.box 129 [.list 30 ty30 p0,.int .i64 p1,.own 1002,.int .i64 p2,.int .i64 p3]),(1002,.row 93 ty93 p4)] (.tup []) [(0,.box 129 [.list 30 ty30 y.1,.int .i64 y.2.1,.own 1002,.int .i64 y.2.2.1,.int .i64 y.2.2.2.1]),(1002,.row 93 ty93 y.2.2.2.2)]
theorem ek96 {R:Type} {c:L30→Int→Int→Int→L93→Option (L30×Int×Int×Int×L93)} (hs:Sp96 c):EOk 96 (e96 (R:=R) c):=fun args objs k r h=>by
 unfold e96 at h
 obtain ⟨a0,l0,rfl,q1⟩:=qal h
 obtain ⟨x0,rfl,q2⟩:=qa6 q1
 obtain ⟨rfl,q3⟩:=qa5 q2
 obtain ⟨rfl,q4⟩:=qa3 q3
 obtain ⟨b0,o0,rfl,q5⟩:=qa7 q4
 obtain ⟨u0_0,v0,rfl,q6⟩:=qab q5
 obtain ⟨p0,rfl,q7⟩:=qad q6
 obtain ⟨u0_1,v1,rfl,q8⟩:=qab q7
 obtain ⟨p1,rfl,q9⟩:=qaq q8
 obtain ⟨u0_2,v2,rfl,q10⟩:=qab q9
 obtain ⟨rfl,q11⟩:=qbi q10
 obtain ⟨u0_3,v3,rfl,q12⟩:=qab q11
 obtain ⟨p2,rfl,q13⟩:=qaq q12
 obtain ⟨u0_4,v4,rfl,q14⟩:=qab q13
 obtain ⟨p3,rfl,q15⟩:=qaq q14
 obtain ⟨rfl,q16⟩:=qar q15
 obtain ⟨p4,o1,rfl,q17⟩:=qbj q16
 obtain ⟨rfl,q18⟩:=qa0 q17
 exact qap (hs p0 p1 p2 p3 p4) q18
def X73:Aux:=⟨[(3,(rg 2 52))],[]⟩
inductive S73 where
 | l0 (v1:L30) (v2:Int) (v3:Int) (v4:Int) (v5:L93)
abbrev C96:Type:=L30→Int→Int→Int→L93→Option (L30×Int×Int×Int×L93)
abbrev C73:Type:=Int→L30→Int→Int→Int→L93→Option (L30×Int×Int×Int×L93)
abbrev C97:Type:=Int→L30→Int→Int→Int→L93→Option (Int×L30×Int×Int×Int×L93)
def T73 {R:Type} (B:Ops) (c96:C96) (c73:C73) (c97:C97) (p0:Int) (p1:L30) (p2:Int) (p3:Int) (p4:Int) (p5:L93) (again:S73→Option R) (k:(L30×Int×Int×Int×L93)→Option R):Option S73→Option R | none=>cond (B.lt (4) p0) (ob (c96 p1 p2 p3 p4 p5) fun y0=>k ((y0.1,y0.2.1,(y0.2.2).1,(y0.2.2.2).1,(y0.2.2.2).2))) (ob (c73 (IntKind.wrap .i64 (p0+1)) p1 p2 p3 p4 p5) fun y0=>again (.l0 y0.1 y0.2.1 ((y0.2.2).1) ((y0.2.2.2).1) ((y0.2.2.2).2))) | some (.l0 v1 v2 v3 v4 v5)=>cond (B.eq v3 (0)) (ob (c97 p0 v1 v2 v3 v4 v5) fun y0=>cond (B.eq y0.1 (0)) (k ((y0.2.1,(y0.2.2).1,(y0.2.2.2).1,((y0.2.2.2).2).1,((y0.2.2.2).2).2))) (cond (B.eq p0 (1)) (ob (c73 p0 y0.2.1 (IntKind.wrap .i64 ((y0.2.2).1+1)) ((y0.2.2.2).1) (((y0.2.2.2).2).1) (((y0.2.2.2).2).2)) fun y1=>cond (B.lim (List.length ((y1.2.2.2).2)+List.length ((y0.1,mt (Ty.den ty140))::mt (Ty.den ty93))) (32)) (again (.l0 y1.1 y1.2.1 ((y1.2.2).1) ((y1.2.2.2).1) ((y1.2.2.2).2++(y0.1,mt (Ty.den ty140))::mt (Ty.den ty93)))) none) (cond (B.eq p0 (4)) (ob (c73 p0 y0.2.1 (IntKind.wrap .i64 ((y0.2.2).1+1)) ((y0.2.2.2).1) (((y0.2.2.2).2).1) (((y0.2.2.2).2).2)) fun y1=>cond (B.lim (List.length ((y1.2.2.2).2)+List.length ((y0.1,mt (Ty.den ty140))::mt (Ty.den ty93))) (32)) (again (.l0 y1.1 y1.2.1 ((y1.2.2).1) ((y1.2.2.2).1) ((y1.2.2.2).2++(y0.1,mt (Ty.den ty140))::mt (Ty.den ty93)))) none) (ob (c73 (IntKind.wrap .i64 (p0+1)) y0.2.1 (IntKind.wrap .i64 ((y0.2.2).1+1)) ((y0.2.2.2).1) (((y0.2.2.2).2).1) (((y0.2.2.2).2).2)) fun y1=>cond (B.lim (List.length ((y1.2.2.2).2)+List.length ((y0.1,mt (Ty.den ty140))::mt (Ty.den ty93))) (32)) (again (.l0 y1.1 y1.2.1 ((y1.2.2).1) ((y1.2.2.2).1) ((y1.2.2.2).2++(y0.1,mt (Ty.den ty140))::mt (Ty.den ty93)))) none)))) (k ((v1,v2,v3,v4,v5)))
def E73 (p0:Int) (p1:L30) (p2:Int) (p3:Int) (p4:Int) (p5:L93):S73→List AV×Objs
 | .l0 v1 v2 v3 v4 v5=>(mk 54 [(0,.c (.ptr 0 0)),(1,.c (.int .i64 p0))],[(0,.box 129 [.list 30 ty30 v1,.int .i64 v2,.own 1002,.int .i64 v3,.int .i64 v4]),(1002,.row 93 ty93 v5)])
def I73:S73→Nat
 | .l0 _ _ _ _ _=>0
theorem eq73 {R:Type} (B:Ops) (c96:C96) (c73:C73) (c97:C97) (p0:Int) (p1:L30) (p2:Int) (p3:Int) (p4:Int) (p5:L93) (k:AV→Objs→Option R) (n:Nat):afun tau B gl0 X73 (ent 96 (e96 c96) (ent 73 (e73 c73) (ent 97 (e97 c97) gnil))) ow Tryd.f73 [.c (.ptr 0 0),.c (.int .i64 p0)] [(0,.box 129 [.list 30 ty30 p1,.int .i64 p2,.own 1002,.int .i64 p3,.int .i64 p4]),(1002,.row 93 ty93 p5)] k n=T73 B c96 c73 c97 p0 p1 p2 p3 p4 p5 (fun s=>aloop tau B gl0 X73 (ent 96 (e96 c96) (ent 73 (e73 c73) (ent 97 (e97 c97) gnil))) ow [0] Tryd.f73 k (I73 s) (E73 p0 p1 p2 p3 p4 p5 s) n) (K9 k) none:=by kernel_rfl
theorem el73 {R:Type} (B:Ops) (c96:C96) (c73:C73) (c97:C97) (p0:Int) (p1:L30) (p2:Int) (p3:Int) (p4:Int) (p5:L93) (k:AV→Objs→Option R) (n:Nat):∀ s,aloop tau B gl0 X73 (ent 96 (e96 c96) (ent 73 (e73 c73) (ent 97 (e97 c97) gnil))) ow [0] Tryd.f73 k (I73 s) (E73 p0 p1 p2 p3 p4 p5 s) (n+1)=T73 B c96 c73 c97 p0 p1 p2 p3 p4 p5 (fun s=>aloop tau B gl0 X73 (ent 96 (e96 c96) (ent 73 (e73 c73) (ent 97 (e97 c97) gnil))) ow [0] Tryd.f73 k (I73 s) (E73 p0 p1 p2 p3 p4 p5 s) n) (K9 k) (some s):=by
 intro s
 cases s<;>kernel_rfl
theorem nt73 {R R':Type} (B:Ops) (c96:C96) (c73:C73) (c97:C97) (p0:Int) (p1:L30) (p2:Int) (p3:Int) (p4:Int) (p5:L93) (again:S73→Option R) (again':S73→Option R') (k0:(L30×Int×Int×Int×L93)→Option R') (k:R'→Option R) (h:∀ s,again s=ob (again' s) k):∀ s,T73 B c96 c73 c97 p0 p1 p2 p3 p4 p5 again (fun y=>ob (k0 y) k) s=ob (T73 B c96 c73 c97 p0 p1 p2 p3 p4 p5 again' k0 s) k:=by
 rintro (_ | x)
 all_goals try cases x
 all_goals (unfold T73;repeat' first | exact rfl | exact h _ | apply qaf | (apply qao;intro))
def R73 (c96:C96) (c73:C73) (c97:C97) (p0:Int) (p1:L30) (p2:Int) (p3:Int) (p4:Int) (p5:L93):Nat→S73→Option (L30×Int×Int×Int×L93)
 | 0,_=>none
 | n+1,s=>T73 Ops.std c96 c73 c97 p0 p1 p2 p3 p4 p5 (R73 c96 c73 c97 p0 p1 p2 p3 p4 p5 n) some (some s)
theorem rr73 {R:Type} (c96:C96) (c73:C73) (c97:C97) (p0:Int) (p1:L30) (p2:Int) (p3:Int) (p4:Int) (p5:L93) (k:AV→Objs→Option R):∀ (n:Nat) (s:S73),aloop tau Ops.std gl0 X73 (ent 96 (e96 c96) (ent 73 (e73 c73) (ent 97 (e97 c97) gnil))) ow [0] Tryd.f73 k (I73 s) (E73 p0 p1 p2 p3 p4 p5 s) n=ob (R73 c96 c73 c97 p0 p1 p2 p3 p4 p5 n s) (K9 k)
 | 0,s=>by cases s<;>rfl
 | n+1,s=>by rw [el73];exact nt73 Ops.std c96 c73 c97 p0 p1 p2 p3 p4 p5 _ _ some (K9 k) (rr73 c96 c73 c97 p0 p1 p2 p3 p4 p5 k n) (some s)
def F73 (c96:C96) (c73:C73) (c97:C97) (p0:Int) (p1:L30) (p2:Int) (p3:Int) (p4:Int) (p5:L93):Option (L30×Int×Int×Int×L93):=T73 Ops.std c96 c73 c97 p0 p1 p2 p3 p4 p5 (R73 c96 c73 c97 p0 p1 p2 p3 p4 p5 1000000) some none
theorem sf73 {c96:C96} {c73:C73} {c97:C97} (h96:Sp96 c96) (h73:Sp73 c73) (h97:Sp97 c97):Sp73 (F73 c96 c73 c97):=fun p0 p1 p2 p3 p4 p5 y hy=>by
 refine qaj (qae (ek96 h96) (qae (ek73 h73) (qae (ek97 h97) qai))) 1000000 (fn:=Tryd.f73) (by kernel_rfl) (by kernel_rfl) (X:=X73) (by kernel_rfl) ?_
 rw [eq73]
 exact (nt73 Ops.std c96 c73 c97 p0 p1 p2 p3 p4 p5 _ _ some (K9 k0) (rr73 c96 c73 c97 p0 p1 p2 p3 p4 p5 k0 1000000) none).trans (by show ob (F73 c96 c73 c97 p0 p1 p2 p3 p4 p5) _=_;rw [hy];rfl)
def X96:Aux:=⟨[(1000011,([1]++rg 4 194)),(1000021,(rg 1 197)),(1000024,(rg 1 197)),(1000028,([1,2,3]++rg 5 193))],[(1,.lin (rg 0 12)),(28,.lin (rg 0 17))]⟩
inductive S96 where
 | l1011 (v0:Int) (v1:L30) (v2:Int) (v3:Int) (v4:Int) (v5:Int) (v6:LB) (v7:Int) (v8:Int) (v9:L93)
 | l1021 (v0:L30) (v1:Int) (v2:Int) (v3:Int) (v4:L93)
 | l1024 (v0:L30) (v1:Int) (v2:Int) (v3:Int) (v4:L93)
 | l1028 (v0:Int) (v1:L30) (v2:Int) (v3:Int) (v4:Int) (v5:L93)
abbrev C107:Type:=LB→L30→Int→Int→Int→L93→Option (L30×Int×Int×Int×L93)
abbrev C101:Type:=L30→Int→Option (Int×Int×L140)
def T96 {R:Type} (B:Ops) (c106:C106) (c96:C96) (c73:C73) (c107:C107) (c101:C101) (c74:C74) (p0:L30) (p1:Int) (p2:Int) (p3:Int) (p4:L93) (again:S96→Option R) (k:(L30×Int×Int×Int×L93)→Option R):Option S96→Option R | none=>cond (!B.eq p2 (0)) (k ((p0,p1,p2,p3,p4))) (cond (B.inb p1 p0.length) (ob (c106 ([33]:LB) p0 p1 p2 p3 p4) fun y0=>cond y0.1 (again (.l1011 4 y0.2.1 ((y0.2.2).1) ((y0.2.2.2).1) (((y0.2.2.2).2).1) ((p0.getD p1.toNat ty30.dflt).1) (((p0.getD p1.toNat ty30.dflt).2).1) ((((p0.getD p1.toNat ty30.dflt).2).2).1) ((((p0.getD p1.toNat ty30.dflt).2).2).2) (((y0.2.2.2).2).2))) (cond (B.eq ((p0.getD p1.toNat ty30.dflt).1) (3)) (cond (((p0.getD p1.toNat ty30.dflt).2).1 == ([88]:LB)) (again (.l1011 8 y0.2.1 ((y0.2.2).1) ((y0.2.2.2).1) (((y0.2.2.2).2).1) ((p0.getD p1.toNat ty30.dflt).1) (((p0.getD p1.toNat ty30.dflt).2).1) ((((p0.getD p1.toNat ty30.dflt).2).2).1) ((((p0.getD p1.toNat ty30.dflt).2).2).2) (((y0.2.2.2).2).2))) (cond (B.eq ((p0.getD p1.toNat ty30.dflt).1) (3)) (cond (((p0.getD p1.toNat ty30.dflt).2).1 == ([70]:LB)) (again (.l1011 11 y0.2.1 ((y0.2.2).1) ((y0.2.2.2).1) (((y0.2.2.2).2).1) ((p0.getD p1.toNat ty30.dflt).1) (((p0.getD p1.toNat ty30.dflt).2).1) ((((p0.getD p1.toNat ty30.dflt).2).2).1) ((((p0.getD p1.toNat ty30.dflt).2).2).2) (((y0.2.2.2).2).2))) (cond (B.eq ((p0.getD p1.toNat ty30.dflt).1) (3)) (cond (((p0.getD p1.toNat ty30.dflt).2).1 == ([71]:LB)) (again (.l1011 12 y0.2.1 ((y0.2.2).1) ((y0.2.2.2).1) (((y0.2.2.2).2).1) ((p0.getD p1.toNat ty30.dflt).1) (((p0.getD p1.toNat ty30.dflt).2).1) ((((p0.getD p1.toNat ty30.dflt).2).2).1) ((((p0.getD p1.toNat ty30.dflt).2).2).2) (((y0.2.2.2).2).2))) (again (.l1011 0 y0.2.1 ((y0.2.2).1) ((y0.2.2.2).1) (((y0.2.2.2).2).1) ((p0.getD p1.toNat ty30.dflt).1) (((p0.getD p1.toNat ty30.dflt).2).1) ((((p0.getD p1.toNat ty30.dflt).2).2).1) ((((p0.getD p1.toNat ty30.dflt).2).2).2) (((y0.2.2.2).2).2)))) (again (.l1011 0 y0.2.1 ((y0.2.2).1) ((y0.2.2.2).1) (((y0.2.2.2).2).1) ((p0.getD p1.toNat ty30.dflt).1) (((p0.getD p1.toNat ty30.dflt).2).1) ((((p0.getD p1.toNat ty30.dflt).2).2).1) ((((p0.getD p1.toNat ty30.dflt).2).2).2) (((y0.2.2.2).2).2))))) (cond (B.eq ((p0.getD p1.toNat ty30.dflt).1) (3)) (cond (((p0.getD p1.toNat ty30.dflt).2).1 == ([71]:LB)) (again (.l1011 12 y0.2.1 ((y0.2.2).1) ((y0.2.2.2).1) (((y0.2.2.2).2).1) ((p0.getD p1.toNat ty30.dflt).1) (((p0.getD p1.toNat ty30.dflt).2).1) ((((p0.getD p1.toNat ty30.dflt).2).2).1) ((((p0.getD p1.toNat ty30.dflt).2).2).2) (((y0.2.2.2).2).2))) (again (.l1011 0 y0.2.1 ((y0.2.2).1) ((y0.2.2.2).1) (((y0.2.2.2).2).1) ((p0.getD p1.toNat ty30.dflt).1) (((p0.getD p1.toNat ty30.dflt).2).1) ((((p0.getD p1.toNat ty30.dflt).2).2).1) ((((p0.getD p1.toNat ty30.dflt).2).2).2) (((y0.2.2.2).2).2)))) (again (.l1011 0 y0.2.1 ((y0.2.2).1) ((y0.2.2.2).1) (((y0.2.2.2).2).1) ((p0.getD p1.toNat ty30.dflt).1) (((p0.getD p1.toNat ty30.dflt).2).1) ((((p0.getD p1.toNat ty30.dflt).2).2).1) ((((p0.getD p1.toNat ty30.dflt).2).2).2) (((y0.2.2.2).2).2)))))) (cond (B.eq ((p0.getD p1.toNat ty30.dflt).1) (3)) (cond (((p0.getD p1.toNat ty30.dflt).2).1 == ([70]:LB)) (again (.l1011 11 y0.2.1 ((y0.2.2).1) ((y0.2.2.2).1) (((y0.2.2.2).2).1) ((p0.getD p1.toNat ty30.dflt).1) (((p0.getD p1.toNat ty30.dflt).2).1) ((((p0.getD p1.toNat ty30.dflt).2).2).1) ((((p0.getD p1.toNat ty30.dflt).2).2).2) (((y0.2.2.2).2).2))) (cond (B.eq ((p0.getD p1.toNat ty30.dflt).1) (3)) (cond (((p0.getD p1.toNat ty30.dflt).2).1 == ([71]:LB)) (again (.l1011 12 y0.2.1 ((y0.2.2).1) ((y0.2.2.2).1) (((y0.2.2.2).2).1) ((p0.getD p1.toNat ty30.dflt).1) (((p0.getD p1.toNat ty30.dflt).2).1) ((((p0.getD p1.toNat ty30.dflt).2).2).1) ((((p0.getD p1.toNat ty30.dflt).2).2).2) (((y0.2.2.2).2).2))) (again (.l1011 0 y0.2.1 ((y0.2.2).1) ((y0.2.2.2).1) (((y0.2.2.2).2).1) ((p0.getD p1.toNat ty30.dflt).1) (((p0.getD p1.toNat ty30.dflt).2).1) ((((p0.getD p1.toNat ty30.dflt).2).2).1) ((((p0.getD p1.toNat ty30.dflt).2).2).2) (((y0.2.2.2).2).2)))) (again (.l1011 0 y0.2.1 ((y0.2.2).1) ((y0.2.2.2).1) (((y0.2.2.2).2).1) ((p0.getD p1.toNat ty30.dflt).1) (((p0.getD p1.toNat ty30.dflt).2).1) ((((p0.getD p1.toNat ty30.dflt).2).2).1) ((((p0.getD p1.toNat ty30.dflt).2).2).2) (((y0.2.2.2).2).2))))) (cond (B.eq ((p0.getD p1.toNat ty30.dflt).1) (3)) (cond (((p0.getD p1.toNat ty30.dflt).2).1 == ([71]:LB)) (again (.l1011 12 y0.2.1 ((y0.2.2).1) ((y0.2.2.2).1) (((y0.2.2.2).2).1) ((p0.getD p1.toNat ty30.dflt).1) (((p0.getD p1.toNat ty30.dflt).2).1) ((((p0.getD p1.toNat ty30.dflt).2).2).1) ((((p0.getD p1.toNat ty30.dflt).2).2).2) (((y0.2.2.2).2).2))) (again (.l1011 0 y0.2.1 ((y0.2.2).1) ((y0.2.2.2).1) (((y0.2.2.2).2).1) ((p0.getD p1.toNat ty30.dflt).1) (((p0.getD p1.toNat ty30.dflt).2).1) ((((p0.getD p1.toNat ty30.dflt).2).2).1) ((((p0.getD p1.toNat ty30.dflt).2).2).2) (((y0.2.2.2).2).2)))) (again (.l1011 0 y0.2.1 ((y0.2.2).1) ((y0.2.2.2).1) (((y0.2.2.2).2).1) ((p0.getD p1.toNat ty30.dflt).1) (((p0.getD p1.toNat ty30.dflt).2).1) ((((p0.getD p1.toNat ty30.dflt).2).2).1) ((((p0.getD p1.toNat ty30.dflt).2).2).2) (((y0.2.2.2).2).2))))))) none) | some (.l1011 v0 v1 v2 v3 v4 v5 v6 v7 v8 v9)=>cond (!B.eq v0 (0)) (ob (c96 v1 (IntKind.wrap .i64 (v2+1)) v3 v4 v9) fun y0=>cond (B.lim (List.length ((y0.2.2.2).2)+List.length ((v0,mt (Ty.den ty140))::mt (Ty.den ty93))) (32)) (k ((y0.1,y0.2.1,(y0.2.2).1,(y0.2.2.2).1,(y0.2.2.2).2++(v0,mt (Ty.den ty140))::mt (Ty.den ty93)))) none) (cond (B.eq v5 (2)) (cond (v6 == ([116,114,117,101]:LB)) (cond (B.lim (List.length v9+List.length ((1,mt (Ty.den ty140))::mt (Ty.den ty93))) (32)) (k ((v1,IntKind.wrap .i64 (v2+1),v3,v4,v9++(1,mt (Ty.den ty140))::mt (Ty.den ty93)))) none) (cond (B.eq v5 (2)) (cond (v6 == ([102,97,108,115,101]:LB)) (again (.l1021 v1 (IntKind.wrap .i64 (v2+1)) v3 v4 v9)) (ob (c106 ([40]:LB) v1 v2 v3 v4 v9) fun y0=>cond y0.1 (again (.l1024 y0.2.1 (IntKind.wrap .i64 ((y0.2.2).1+1)) ((y0.2.2.2).1) (((y0.2.2.2).2).1) (((y0.2.2.2).2).2))) (ob (c106 ([91]:LB) y0.2.1 ((y0.2.2).1) ((y0.2.2.2).1) (((y0.2.2.2).2).1) (((y0.2.2.2).2).2)) fun y1=>cond y1.1 (again (.l1028 ((y1.2.2).1) y1.2.1 ((y1.2.2).1) ((y1.2.2.2).1) (((y1.2.2.2).2).1) (((y1.2.2.2).2).2))) (ob (c74 (2) ((y1.2.2).1) y1.2.1 ((y1.2.2).1) ((y1.2.2.2).1) (((y1.2.2.2).2).1) (((y1.2.2.2).2).2)) fun y2=>k ((y2.1,y2.2.1,(y2.2.2).1,(y2.2.2.2).1,(y2.2.2.2).2)))))) (ob (c106 ([40]:LB) v1 v2 v3 v4 v9) fun y0=>cond y0.1 (again (.l1024 y0.2.1 (IntKind.wrap .i64 ((y0.2.2).1+1)) ((y0.2.2.2).1) (((y0.2.2.2).2).1) (((y0.2.2.2).2).2))) (ob (c106 ([91]:LB) y0.2.1 ((y0.2.2).1) ((y0.2.2.2).1) (((y0.2.2.2).2).1) (((y0.2.2.2).2).2)) fun y1=>cond y1.1 (again (.l1028 ((y1.2.2).1) y1.2.1 ((y1.2.2).1) ((y1.2.2.2).1) (((y1.2.2.2).2).1) (((y1.2.2.2).2).2))) (ob (c74 (2) ((y1.2.2).1) y1.2.1 ((y1.2.2).1) ((y1.2.2.2).1) (((y1.2.2.2).2).1) (((y1.2.2.2).2).2)) fun y2=>k ((y2.1,y2.2.1,(y2.2.2).1,(y2.2.2.2).1,(y2.2.2.2).2))))))) (cond (B.eq v5 (2)) (cond (v6 == ([102,97,108,115,101]:LB)) (again (.l1021 v1 (IntKind.wrap .i64 (v2+1)) v3 v4 v9)) (ob (c106 ([40]:LB) v1 v2 v3 v4 v9) fun y0=>cond y0.1 (again (.l1024 y0.2.1 (IntKind.wrap .i64 ((y0.2.2).1+1)) ((y0.2.2.2).1) (((y0.2.2.2).2).1) (((y0.2.2.2).2).2))) (ob (c106 ([91]:LB) y0.2.1 ((y0.2.2).1) ((y0.2.2.2).1) (((y0.2.2.2).2).1) (((y0.2.2.2).2).2)) fun y1=>cond y1.1 (again (.l1028 ((y1.2.2).1) y1.2.1 ((y1.2.2).1) ((y1.2.2.2).1) (((y1.2.2.2).2).1) (((y1.2.2.2).2).2))) (ob (c74 (2) ((y1.2.2).1) y1.2.1 ((y1.2.2).1) ((y1.2.2.2).1) (((y1.2.2.2).2).1) (((y1.2.2.2).2).2)) fun y2=>k ((y2.1,y2.2.1,(y2.2.2).1,(y2.2.2.2).1,(y2.2.2.2).2)))))) (ob (c106 ([40]:LB) v1 v2 v3 v4 v9) fun y0=>cond y0.1 (again (.l1024 y0.2.1 (IntKind.wrap .i64 ((y0.2.2).1+1)) ((y0.2.2.2).1) (((y0.2.2.2).2).1) (((y0.2.2.2).2).2))) (ob (c106 ([91]:LB) y0.2.1 ((y0.2.2).1) ((y0.2.2.2).1) (((y0.2.2.2).2).1) (((y0.2.2.2).2).2)) fun y1=>cond y1.1 (again (.l1028 ((y1.2.2).1) y1.2.1 ((y1.2.2).1) ((y1.2.2.2).1) (((y1.2.2.2).2).1) (((y1.2.2.2).2).2))) (ob (c74 (2) ((y1.2.2).1) y1.2.1 ((y1.2.2).1) ((y1.2.2.2).1) (((y1.2.2.2).2).1) (((y1.2.2.2).2).2)) fun y2=>k ((y2.1,y2.2.1,(y2.2.2).1,(y2.2.2.2).1,(y2.2.2.2).2))))))) | some (.l1021 v0 v1 v2 v3 v4)=>cond (B.lim (List.length v4+List.length ((2,mt (Ty.den ty140))::mt (Ty.den ty93))) (32)) (k ((v0,v1,v2,v3,v4++(2,mt (Ty.den ty140))::mt (Ty.den ty93)))) none | some (.l1024 v0 v1 v2 v3 v4)=>ob (c73 (1) v0 v1 v2 v3 v4) fun y0=>ob (c107 ([41]:LB) y0.1 y0.2.1 ((y0.2.2).1) ((y0.2.2.2).1) ((y0.2.2.2).2)) fun y1=>k ((y1.1,y1.2.1,(y1.2.2).1,(y1.2.2.2).1,(y1.2.2.2).2)) | some (.l1028 v0 v1 v2 v3 v4 v5)=>ob (c101 v1 (IntKind.wrap .i64 (v2+1))) fun y0=>cond (B.eq y0.2.1 (13)) (ob (c74 y0.2.1 v0 v1 v2 v3 v4 v5) fun y1=>k ((y1.1,y1.2.1,(y1.2.2).1,(y1.2.2.2).1,(y1.2.2.2).2))) (cond (B.eq y0.2.1 (2)) (ob (c74 y0.2.1 y0.1 v1 v2 v3 v4 v5) fun y1=>k ((y1.1,y1.2.1,(y1.2.2).1,(y1.2.2.2).1,(y1.2.2.2).2))) (cond (B.lim (List.length v5+List.length ((3,y0.2.2)::mt (Ty.den ty93))) (32)) (ob (c107 ([93]:LB) v1 y0.1 v3 v4 (v5++(3,y0.2.2)::mt (Ty.den ty93))) fun y1=>k ((y1.1,y1.2.1,(y1.2.2).1,(y1.2.2.2).1,(y1.2.2.2).2))) none))
def E96 (p0:L30) (p1:Int) (p2:Int) (p3:Int) (p4:L93):S96→List AV×Objs
 | .l1011 v0 v1 v2 v3 v4 v5 v6 v7 v8 v9=>(mk 198 [(0,.c (.ptr 0 0)),(2,.c (.ptr 2 0)),(3,.c (.int .i64 v0))],[(0,.box 129 [.list 30 ty30 v1,.int .i64 v2,.own 1002,.int .i64 v3,.int .i64 v4]),(2,.box 30 [.int .i64 v5,.str v6,.int .i64 v7,.int .i64 v8]),(1002,.row 93 ty93 v9)])
 | .l1021 v0 v1 v2 v3 v4=>(mk 198 [(0,.c (.ptr 0 0))],[(0,.box 129 [.list 30 ty30 v0,.int .i64 v1,.own 1002,.int .i64 v2,.int .i64 v3]),(1002,.row 93 ty93 v4)])
 | .l1024 v0 v1 v2 v3 v4=>(mk 198 [(0,.c (.ptr 0 0))],[(0,.box 129 [.list 30 ty30 v0,.int .i64 v1,.own 1002,.int .i64 v2,.int .i64 v3]),(1002,.row 93 ty93 v4)])
 | .l1028 v0 v1 v2 v3 v4 v5=>(mk 198 [(0,.c (.ptr 0 0)),(4,.c (.int .i64 v0))],[(0,.box 129 [.list 30 ty30 v1,.int .i64 v2,.own 1002,.int .i64 v3,.int .i64 v4]),(1002,.row 93 ty93 v5)])
def I96:S96→Nat
 | .l1011 _ _ _ _ _ _ _ _ _ _=>1011
 | .l1021 _ _ _ _ _=>1021
 | .l1024 _ _ _ _ _=>1024
 | .l1028 _ _ _ _ _ _=>1028
theorem eq96 {R:Type} (B:Ops) (c106:C106) (c96:C96) (c73:C73) (c107:C107) (c101:C101) (c74:C74) (p0:L30) (p1:Int) (p2:Int) (p3:Int) (p4:L93) (k:AV→Objs→Option R) (n:Nat):afun tau B gl0 X96 (ent 106 (e106 c106) (ent 96 (e96 c96) (ent 73 (e73 c73) (ent 107 (e107 c107) (ent 101 (e101 c101) (ent 74 (e74 c74) gnil)))))) ow Tryd.f96 [.c (.ptr 0 0)] [(0,.box 129 [.list 30 ty30 p0,.int .i64 p1,.own 1002,.int .i64 p2,.int .i64 p3]),(1002,.row 93 ty93 p4)] k n=T96 B c106 c96 c73 c107 c101 c74 p0 p1 p2 p3 p4 (fun s=>aloop tau B gl0 X96 (ent 106 (e106 c106) (ent 96 (e96 c96) (ent 73 (e73 c73) (ent 107 (e107 c107) (ent 101 (e101 c101) (ent 74 (e74 c74) gnil)))))) ow [0] Tryd.f96 k (I96 s) (E96 p0 p1 p2 p3 p4 s) n) (K9 k) none:=by kernel_rfl
theorem el96 {R:Type} (B:Ops) (c106:C106) (c96:C96) (c73:C73) (c107:C107) (c101:C101) (c74:C74) (p0:L30) (p1:Int) (p2:Int) (p3:Int) (p4:L93) (k:AV→Objs→Option R) (n:Nat):∀ s,aloop tau B gl0 X96 (ent 106 (e106 c106) (ent 96 (e96 c96) (ent 73 (e73 c73) (ent 107 (e107 c107) (ent 101 (e101 c101) (ent 74 (e74 c74) gnil)))))) ow [0] Tryd.f96 k (I96 s) (E96 p0 p1 p2 p3 p4 s) (n+1)=T96 B c106 c96 c73 c107 c101 c74 p0 p1 p2 p3 p4 (fun s=>aloop tau B gl0 X96 (ent 106 (e106 c106) (ent 96 (e96 c96) (ent 73 (e73 c73) (ent 107 (e107 c107) (ent 101 (e101 c101) (ent 74 (e74 c74) gnil)))))) ow [0] Tryd.f96 k (I96 s) (E96 p0 p1 p2 p3 p4 s) n) (K9 k) (some s):=by
 intro s
 cases s<;>kernel_rfl
theorem nt96 {R R':Type} (B:Ops) (c106:C106) (c96:C96) (c73:C73) (c107:C107) (c101:C101) (c74:C74) (p0:L30) (p1:Int) (p2:Int) (p3:Int) (p4:L93) (again:S96→Option R) (again':S96→Option R') (k0:(L30×Int×Int×Int×L93)→Option R') (k:R'→Option R) (h:∀ s,again s=ob (again' s) k):∀ s,T96 B c106 c96 c73 c107 c101 c74 p0 p1 p2 p3 p4 again (fun y=>ob (k0 y) k) s=ob (T96 B c106 c96 c73 c107 c101 c74 p0 p1 p2 p3 p4 again' k0 s) k:=by
 rintro (_ | x)
 all_goals try cases x
 all_goals (unfold T96;repeat' first | exact rfl | exact h _ | apply qaf | (apply qao;intro))
def R96 (c106:C106) (c96:C96) (c73:C73) (c107:C107) (c101:C101) (c74:C74) (p0:L30) (p1:Int) (p2:Int) (p3:Int) (p4:L93):Nat→S96→Option (L30×Int×Int×Int×L93)
 | 0,_=>none
 | n+1,s=>T96 Ops.std c106 c96 c73 c107 c101 c74 p0 p1 p2 p3 p4 (R96 c106 c96 c73 c107 c101 c74 p0 p1 p2 p3 p4 n) some (some s)
theorem rr96 {R:Type} (c106:C106) (c96:C96) (c73:C73) (c107:C107) (c101:C101) (c74:C74) (p0:L30) (p1:Int) (p2:Int) (p3:Int) (p4:L93) (k:AV→Objs→Option R):∀ (n:Nat) (s:S96),aloop tau Ops.std gl0 X96 (ent 106 (e106 c106) (ent 96 (e96 c96) (ent 73 (e73 c73) (ent 107 (e107 c107) (ent 101 (e101 c101) (ent 74 (e74 c74) gnil)))))) ow [0] Tryd.f96 k (I96 s) (E96 p0 p1 p2 p3 p4 s) n=ob (R96 c106 c96 c73 c107 c101 c74 p0 p1 p2 p3 p4 n s) (K9 k)
 | 0,s=>by cases s<;>rfl
 | n+1,s=>by rw [el96];exact nt96 Ops.std c106 c96 c73 c107 c101 c74 p0 p1 p2 p3 p4 _ _ some (K9 k) (rr96 c106 c96 c73 c107 c101 c74 p0 p1 p2 p3 p4 k n) (some s)
def F96 (c106:C106) (c96:C96) (c73:C73) (c107:C107) (c101:C101) (c74:C74) (p0:L30) (p1:Int) (p2:Int) (p3:Int) (p4:L93):Option (L30×Int×Int×Int×L93):=T96 Ops.std c106 c96 c73 c107 c101 c74 p0 p1 p2 p3 p4 (R96 c106 c96 c73 c107 c101 c74 p0 p1 p2 p3 p4 1000000) some none
theorem sf96 {c106:C106} {c96:C96} {c73:C73} {c107:C107} {c101:C101} {c74:C74} (h106:Sp106 c106) (h96:Sp96 c96) (h73:Sp73 c73) (h107:Sp107 c107) (h101:Sp101 c101) (h74:Sp74 c74):Sp96 (F96 c106 c96 c73 c107 c101 c74):=fun p0 p1 p2 p3 p4 y hy=>by
 refine qaj (qae (ek106 h106) (qae (ek96 h96) (qae (ek73 h73) (qae (ek107 h107) (qae (ek101 h101) (qae (ek74 h74) qai)))))) 1000000 (fn:=Tryd.f96) (by kernel_rfl) (by kernel_rfl) (X:=X96) (by kernel_rfl) ?_
 rw [eq96]
 exact (nt96 Ops.std c106 c96 c73 c107 c101 c74 p0 p1 p2 p3 p4 _ _ some (K9 k0) (rr96 c106 c96 c73 c107 c101 c74 p0 p1 p2 p3 p4 k0 1000000) none).trans (by show ob (F96 c106 c96 c73 c107 c101 c74 p0 p1 p2 p3 p4) _=_;rw [hy];rfl)
noncomputable def Rec73:Nat→(Int→L30→Int→Int→Int→L93→Option (L30×Int×Int×Int×L93))×(L30→Int→Int→Int→L93→Option (L30×Int×Int×Int×L93))
 | 0=>(fun _ _ _ _ _ _=>none,fun _ _ _ _ _=>none)
 | d+1=>(F73 (Rec73 d).2 (Rec73 d).1 M97,F96 M106 (Rec73 d).2 (Rec73 d).1 M107 M101 M74)
theorem rec73:∀ d,Sp73 (Rec73 d).1∧Sp96 (Rec73 d).2
 | 0=>⟨(fun p0 p1 p2 p3 p4 p5 y (h:(none:Option (L30×Int×Int×Int×L93))=some y)=>by cases h),(fun p0 p1 p2 p3 p4 y (h:(none:Option (L30×Int×Int×Int×L93))=some y)=>by cases h)⟩
 | d+1=>⟨sf73 (rec73 d).2 (rec73 d).1 sm97,sf96 sm106 (rec73 d).2 (rec73 d).1 sm107 sm101 sm74⟩
noncomputable def M73:Int→L30→Int→Int→Int→L93→Option (L30×Int×Int×Int×L93):=(Rec73 1000000).1
theorem sm73:Sp73 M73:=(rec73 1000000).1
def X42:Aux:=⟨[],[(9,.lin (rg 0 15))]⟩
abbrev C9:Type:=LB→Option (Int×Int×L30)
def T42 {R:Type} (B:Ops) (c9:C9) (c73:C73) (c74:C74) (p0:LB) (k:(Int×Int×L93)→Option R):Option R:=ob (c9 p0) fun y0=>cond (!B.eq y0.1 (0)) (k ((y0.1,y0.2.1,mt (Ty.den ty93)))) (ob (c73 (1) y0.2.2 (0) (0) (0) (mt (Ty.den ty93))) fun y1=>cond (B.eq ((y1.2.2).1) (0)) (cond (B.inb y1.2.1 (List.length y0.2.2)) (cond (!B.eq ((List.getD y0.2.2 (Int.toNat y1.2.1) ty30.dflt).1) (5)) (ob (c74 (2) y1.2.1 y1.1 y1.2.1 ((y1.2.2).1) ((y1.2.2.2).1) ((y1.2.2.2).2)) fun y2=>cond (!B.eq ((y2.2.2).1) (0)) (cond (B.inb ((y2.2.2.2).1) (List.length y0.2.2)) (k (((y2.2.2).1,(((List.getD y0.2.2 (Int.toNat y2.2.2.2.1) ty30.dflt).2).2).2,mt (Ty.den ty93)))) none) (cond (B.lt (24) (Nat.cast (List.length ((y2.2.2.2).2)))) (k ((13,0,mt (Ty.den ty93)))) (k ((0,0,(y2.2.2.2).2))))) (cond (!B.eq ((y1.2.2).1) (0)) (cond (B.inb ((y1.2.2.2).1) (List.length y0.2.2)) (k (((y1.2.2).1,(((List.getD y0.2.2 (Int.toNat y1.2.2.2.1) ty30.dflt).2).2).2,mt (Ty.den ty93)))) none) (cond (B.lt (24) (Nat.cast (List.length ((y1.2.2.2).2)))) (k ((13,0,mt (Ty.den ty93)))) (k ((0,0,(y1.2.2.2).2)))))) none) (cond (!B.eq ((y1.2.2).1) (0)) (cond (B.inb ((y1.2.2.2).1) (List.length y0.2.2)) (k (((y1.2.2).1,(((List.getD y0.2.2 (Int.toNat y1.2.2.2.1) ty30.dflt).2).2).2,mt (Ty.den ty93)))) none) (cond (B.lt (24) (Nat.cast (List.length ((y1.2.2.2).2)))) (k ((13,0,mt (Ty.den ty93)))) (k ((0,0,(y1.2.2.2).2))))))
abbrev K14 {R:Type} (k:AV→Objs→Option R) (y:(Int×Int×L93)):Option R:=k (.tup [(false,[.own 501000]),(false,[.int .i64 y.1]),(false,[.int .i64 y.2.1])]) [(501000,.row 93 ty93 y.2.2)]
theorem eq42 {R:Type} (B:Ops) (c9:C9) (c73:C73) (c74:C74) (p0:LB) (k:AV→Objs→Option R) (n:Nat):afun tau B gl0 X42 (ent 9 (e9 c9) (ent 73 (e73 c73) (ent 74 (e74 c74) gnil))) ow Tryd.f42 [.c (.str p0)] [] k n=T42 B c9 c73 c74 p0 (K14 k):=by kernel_rfl
theorem nt42 {R R':Type} (B:Ops) (c9:C9) (c73:C73) (c74:C74) (p0:LB) (k0:(Int×Int×L93)→Option R') (k:R'→Option R):T42 B c9 c73 c74 p0 (fun y=>ob (k0 y) k)=ob (T42 B c9 c73 c74 p0 k0) k:=by
 unfold T42
 repeat' first | exact rfl | apply qaf | (apply qao;intro)
def F42 (c9:C9) (c73:C73) (c74:C74) (p0:LB):Option (Int×Int×L93):=T42 Ops.std c9 c73 c74 p0 some
def e42 {R:Type} (c:LB→Option (Int×Int×L93)):Ent R:=fun args objs k=>
 oS args fun p0 l0=>oE l0 objs <| ob (c p0) (K14 k)
abbrev Sp42 (c:LB→Option (Int×Int×L93)):Prop:=∀ (p0:LB) (y:Int×Int×L93),c p0=some y→Spec Tryd.prog gl0 42 [.c (.str p0)] [] (.tup [(false,[.own 501000]),(false,[.int .i64 y.1]),(false,[.int .i64 y.2.1])]) [(501000,.row 93 ty93 y.2.2)]
theorem ek42 {R:Type} {c:LB→Option (Int×Int×L93)} (hs:Sp42 c):EOk 42 (e42 (R:=R) c):=fun args objs k r h=>by
 unfold e42 at h
 obtain ⟨p0,l0,rfl,q3⟩:=qa8 h
 obtain ⟨rfl,rfl,q5⟩:=qam q3
 exact qap (hs p0) q5
theorem sf42 {c9:C9} {c73:C73} {c74:C74} (h9:Sp9 c9) (h73:Sp73 c73) (h74:Sp74 c74):Sp42 (F42 c9 c73 c74):=fun p0 y hy=>by
 refine qaj (qae (ek9 h9) (qae (ek73 h73) (qae (ek74 h74) qai))) 1000000 (fn:=Tryd.f42) (by kernel_rfl) (by kernel_rfl) (X:=X42) (by kernel_rfl) ?_
 rw [eq42]
 exact (nt42 Ops.std c9 c73 c74 p0 some (K14 k0)).trans (by show ob (F42 c9 c73 c74 p0) _=_;rw [hy];rfl)
noncomputable def M42:LB→Option (Int×Int×L93):=F42 M9 M73 M74
theorem sm42:Sp42 M42:=sf42 sm9 sm73 sm74
def X15:Aux:=⟨[],[]⟩
abbrev C42:Type:=LB→Option (Int×Int×L93)
def T15 {R:Type} (B:Ops) (c42:C42) (p0:LB) (k:(L93)→Option R):Option R:=ob (c42 p0) fun y0=>k y0.2.2
abbrev K15 {R:Type} (k:AV→Objs→Option R) (y:(L93)):Option R:=k (.c (.own 500)) [(500,.row 93 ty93 y)]
theorem eq15 {R:Type} (B:Ops) (c42:C42) (p0:LB) (k:AV→Objs→Option R) (n:Nat):afun tau B gl0 X15 (ent 42 (e42 c42) gnil) ow Tryd.f15 [.c (.str p0)] [] k n=T15 B c42 p0 (K15 k):=by kernel_rfl
theorem nt15 {R R':Type} (B:Ops) (c42:C42) (p0:LB) (k0:(L93)→Option R') (k:R'→Option R):T15 B c42 p0 (fun y=>ob (k0 y) k)=ob (T15 B c42 p0 k0) k:=by
 unfold T15
 repeat' first | exact rfl | apply qaf | (apply qao;intro)
def F15 (c42:C42) (p0:LB):Option (L93):=T15 Ops.std c42 p0 some
def e15 {R:Type} (c:LB→Option (L93)):Ent R:=fun args objs k=>
 oS args fun p0 l0=>oE l0 objs <| ob (c p0) (K15 k)
abbrev Sp15 (c:LB→Option (L93)):Prop:=∀ (p0:LB) (y:L93),c p0=some y→Spec Tryd.prog gl0 15 [.c (.str p0)] [] (.c (.own 500)) [(500,.row 93 ty93 y)]
theorem ek15 {R:Type} {c:LB→Option (L93)} (hs:Sp15 c):EOk 15 (e15 (R:=R) c):=fun args objs k r h=>by
 unfold e15 at h
 obtain ⟨p0,l0,rfl,q3⟩:=qa8 h
 obtain ⟨rfl,rfl,q5⟩:=qam q3
 exact qap (hs p0) q5
theorem sf15 {c42:C42} (h42:Sp42 c42):Sp15 (F15 c42):=fun p0 y hy=>by
 refine qaj (qae (ek42 h42) qai) 1000000 (fn:=Tryd.f15) (by kernel_rfl) (by kernel_rfl) (X:=X15) (by kernel_rfl) ?_
 rw [eq15]
 exact (nt15 Ops.std c42 p0 some (K15 k0)).trans (by show ob (F15 c42 p0) _=_;rw [hy];rfl)
noncomputable def M15:LB→Option (L93):=F15 M42
theorem sm15:Sp15 M15:=sf15 sm42
def X87:Aux:=⟨[],[]⟩
def T87 {R:Type} (B:Ops) (p0:Int) (k:(Int)→Option R):Option R:=cond (B.eq p0 (1)) (k 0) (cond (B.eq p0 (2)) (k 0) (cond (B.eq p0 (3)) (k 0) (cond (B.eq p0 (4)) (k 1) (cond (B.eq p0 (8)) (k 1) (cond (B.eq p0 (11)) (k 1) (cond (B.eq p0 (12)) (k 1) (cond (B.eq p0 (5)) (k 2) (cond (B.eq p0 (6)) (k 2) (cond (B.eq p0 (7)) (k 2) (cond (B.eq p0 (9)) (k 2) (cond (B.eq p0 (10)) (k 2) (k (-1)))))))))))))
theorem eq87 {R:Type} (B:Ops) (p0:Int) (k:AV→Objs→Option R) (n:Nat):afun tau B gl0 X87 gnil ow Tryd.f87 [.c (.int .i64 p0)] [] k n=T87 B p0 (K3 k):=by kernel_rfl
theorem nt87 {R R':Type} (B:Ops) (p0:Int) (k0:(Int)→Option R') (k:R'→Option R):T87 B p0 (fun y=>ob (k0 y) k)=ob (T87 B p0 k0) k:=by
 unfold T87
 repeat' first | exact rfl | apply qaf | (apply qao;intro)
def F87 (p0:Int):Option (Int):=T87 Ops.std p0 some
def e87 {R:Type} (c:Int→Option (Int)):Ent R:=fun args objs k=>
 oI args .i64 fun p0 l0=>oE l0 objs <| ob (c p0) (K3 k)
abbrev Sp87 (c:Int→Option (Int)):Prop:=∀ (p0:Int) (y:Int),c p0=some y→Spec Tryd.prog gl0 87 [.c (.int .i64 p0)] [] (.c (.int .i64 y)) []
theorem ek87 {R:Type} {c:Int→Option (Int)} (hs:Sp87 c):EOk 87 (e87 (R:=R) c):=fun args objs k r h=>by
 unfold e87 at h
 obtain ⟨p0,l0,rfl,q3⟩:=qau h
 obtain ⟨rfl,rfl,q5⟩:=qam q3
 exact qap (hs p0) q5
theorem sf87:Sp87 (F87):=fun p0 y hy=>by
 refine qaj qai 1000000 (fn:=Tryd.f87) (by kernel_rfl) (by kernel_rfl) (X:=X87) (by kernel_rfl) ?_
 rw [eq87]
 exact (nt87 Ops.std p0 some (K3 k0)).trans (by show ob (F87 p0) _=_;rw [hy];rfl)
noncomputable def M87:Int→Option (Int):=F87
theorem sm87:Sp87 M87:=sf87
def X108:Aux:=⟨[],[]⟩
def T108 {R:Type} (B:Ops) (p0:Int) (k:(Int)→Option R):Option R:=cond (B.lt p0 (1)) (k (-1)) (cond (B.lt (16) p0) (k (-1)) (cond (B.le p0 (3)) (k 0) (cond (B.le p0 (5)) (k 1) (k 2))))
theorem eq108 {R:Type} (B:Ops) (p0:Int) (k:AV→Objs→Option R) (n:Nat):afun tau B gl0 X108 gnil ow Tryd.f108 [.c (.int .i64 p0)] [] k n=T108 B p0 (K3 k):=by kernel_rfl
theorem nt108 {R R':Type} (B:Ops) (p0:Int) (k0:(Int)→Option R') (k:R'→Option R):T108 B p0 (fun y=>ob (k0 y) k)=ob (T108 B p0 k0) k:=by
 unfold T108
 repeat' first | exact rfl | apply qaf | (apply qao;intro)
def F108 (p0:Int):Option (Int):=T108 Ops.std p0 some
def e108 {R:Type} (c:Int→Option (Int)):Ent R:=fun args objs k=>
 oI args .i64 fun p0 l0=>oE l0 objs <| ob (c p0) (K3 k)
abbrev Sp108 (c:Int→Option (Int)):Prop:=∀ (p0:Int) (y:Int),c p0=some y→Spec Tryd.prog gl0 108 [.c (.int .i64 p0)] [] (.c (.int .i64 y)) []
theorem ek108 {R:Type} {c:Int→Option (Int)} (hs:Sp108 c):EOk 108 (e108 (R:=R) c):=fun args objs k r h=>by
 unfold e108 at h
 obtain ⟨p0,l0,rfl,q3⟩:=qau h
 obtain ⟨rfl,rfl,q5⟩:=qam q3
 exact qap (hs p0) q5
theorem sf108:Sp108 (F108):=fun p0 y hy=>by
 refine qaj qai 1000000 (fn:=Tryd.f108) (by kernel_rfl) (by kernel_rfl) (X:=X108) (by kernel_rfl) ?_
 rw [eq108]
 exact (nt108 Ops.std p0 some (K3 k0)).trans (by show ob (F108 p0) _=_;rw [hy];rfl)
noncomputable def M108:Int→Option (Int):=F108
theorem sm108:Sp108 M108:=sf108
def X109:Aux:=⟨[],[]⟩
abbrev C10:Type:=LB→Option (Bool)
abbrev C108:Type:=Int→Option (Int)
def T109 {R:Type} (B:Ops) (c10:C10) (c108:C108) (p0:Int) (p1:Int) (p2:LB) (p3:LB) (k:(Bool)→Option R):Option R:=cond (B.eq p0 (1)) (cond (B.le (0) p1) (cond (B.le p1 (999)) (cond (p2 == mt UInt8) (k (p3 == mt UInt8)) (k false)) (k false)) (k false)) (cond (B.eq p0 (2)) (cond (B.eq p1 (0)) (ob (c10 p2) fun y0=>cond (y0) (k (p3 == mt UInt8)) (k false)) (k false)) (cond (B.eq p0 (3)) (cond (B.eq p1 (0)) (ob (c10 p2) fun y0=>cond (y0) (ob (c10 p3) fun y1=>k y1) (k false)) (k false)) (ob (c108 p0) fun y0=>cond (B.lt (0) y0) (cond (B.eq p1 (0)) (cond (p2 == mt UInt8) (k (p3 == mt UInt8)) (k false)) (k false)) (k false))))
theorem eq109 {R:Type} (B:Ops) (c10:C10) (c108:C108) (p0:Int) (p1:Int) (p2:LB) (p3:LB) (k:AV→Objs→Option R) (n:Nat):afun tau B gl0 X109 (ent 10 (e10 c10) (ent 108 (e108 c108) gnil)) ow Tryd.f109 [.agg [.int .i64 p0,.int .i64 p1,.str p2,.str p3]] [] k n=T109 B c10 c108 p0 p1 p2 p3 (K1 k):=by kernel_rfl
theorem nt109 {R R':Type} (B:Ops) (c10:C10) (c108:C108) (p0:Int) (p1:Int) (p2:LB) (p3:LB) (k0:(Bool)→Option R') (k:R'→Option R):T109 B c10 c108 p0 p1 p2 p3 (fun y=>ob (k0 y) k)=ob (T109 B c10 c108 p0 p1 p2 p3 k0) k:=by
 unfold T109
 repeat' first | exact rfl | apply qaf | (apply qao;intro)
def F109 (c10:C10) (c108:C108) (p0:Int) (p1:Int) (p2:LB) (p3:LB):Option (Bool):=T109 Ops.std c10 c108 p0 p1 p2 p3 some
def e109 {R:Type} (c:Int→Int→LB→LB→Option (Bool)):Ent R:=fun args objs k=>
 oCons args fun a0 l0=>oAgg a0 fun x0=>cCons x0 fun z0_0 w0_0=>cInt .i64 z0_0 fun p0=>cCons w0_0 fun z0_1 w0_1=>cInt .i64 z0_1 fun p1=>cCons w0_1 fun z0_2 w0_2=>cStr z0_2 fun p2=>cCons w0_2 fun z0_3 w0_3=>cStr z0_3 fun p3=>cNil w0_3 <| oE l0 objs <| ob (c p0 p1 p2 p3) (K1 k)
abbrev Sp109 (c:Int→Int→LB→LB→Option (Bool)):Prop:=∀ (p0:Int) (p1:Int) (p2:LB) (p3:LB) (y:Bool),c p0 p1 p2 p3=some y→Spec Tryd.prog gl0 109 [.agg [.int .i64 p0,.int .i64 p1,.str p2,.str p3]] [] (.c (.bool y)) []
theorem ek109 {R:Type} {c:Int→Int→LB→LB→Option (Bool)} (hs:Sp109 c):EOk 109 (e109 (R:=R) c):=fun args objs k r h=>by
 unfold e109 at h
 obtain ⟨a0,l0,rfl,q1⟩:=qal h
 obtain ⟨x0,rfl,q2⟩:=qav q1
 obtain ⟨z0_0,w0_0,rfl,q3⟩:=qab q2
 obtain ⟨p0,rfl,q4⟩:=qaq q3
 obtain ⟨z0_1,w0_1,rfl,q5⟩:=qab q4
 obtain ⟨p1,rfl,q6⟩:=qaq q5
 obtain ⟨z0_2,w0_2,rfl,q7⟩:=qab q6
 obtain ⟨p2,rfl,q8⟩:=qa9 q7
 obtain ⟨z0_3,w0_3,rfl,q9⟩:=qab q8
 obtain ⟨p3,rfl,q10⟩:=qa9 q9
 obtain ⟨rfl,q11⟩:=qar q10
 obtain ⟨rfl,rfl,q13⟩:=qam q11
 exact qap (hs p0 p1 p2 p3) q13
theorem sf109 {c10:C10} {c108:C108} (h10:Sp10 c10) (h108:Sp108 c108):Sp109 (F109 c10 c108):=fun p0 p1 p2 p3 y hy=>by
 refine qaj (qae (ek10 h10) (qae (ek108 h108) qai)) 1000000 (fn:=Tryd.f109) (by kernel_rfl) (by kernel_rfl) (X:=X109) (by kernel_rfl) ?_
 rw [eq109]
 exact (nt109 Ops.std c10 c108 p0 p1 p2 p3 some (K1 k0)).trans (by show ob (F109 c10 c108 p0 p1 p2 p3) _=_;rw [hy];rfl)
noncomputable def M109:Int→Int→LB→LB→Option (Bool):=F109 M10 M108
theorem sm109:Sp109 M109:=sf109 sm10 sm108
def X100:Aux:=⟨[(3,([1,2,4,5,6]++rg 10 26))],[]⟩
inductive S100 where
 | l0 (v1:Int) (v3:Int) (v4:Int)
abbrev C109:Type:=Int→Int→LB→LB→Option (Bool)
def T100 {R:Type} (B:Ops) (c108:C108) (c109:C109) (p0:L140) (again:S100→Option R) (k:(Bool)→Option R):Option S100→Option R | none=>again (.l0 0 (↑p0.length) 0) | some (.l0 v1 v3 v4)=>cond (B.lt v4 v3) (cond (B.inb v4 p0.length) (ob (c108 ((p0.getD v4.toNat ty140.dflt).1)) fun y0=>ob (c109 ((p0.getD v4.toNat ty140.dflt).1) (((p0.getD v4.toNat ty140.dflt).2).1) ((((p0.getD v4.toNat ty140.dflt).2).2).1) ((((p0.getD v4.toNat ty140.dflt).2).2).2)) fun y1=>cond (!y1) (k false) (cond (B.lt v1 y0) (k false) (again (.l0 (IntKind.wrap .i64 (v1+IntKind.wrap .i64 (1-y0))) v3 (IntKind.wrap .i64 (v4+1)))))) none) (cond (B.eq v1 (1)) (k (B.le (↑p0.length) (30))) (k false))
def E100 (p0:L140):S100→List AV×Objs
 | .l0 v1 v3 v4=>(mk 36 [(0,.c (.list 140 ty140 p0)),(3,.c (.int .i64 v1)),(7,.c (.list 140 ty140 p0)),(8,.c (.int .i64 v3)),(9,.c (.int .i64 v4))],[])
def I100:S100→Nat
 | .l0 _ _ _=>0
theorem eq100 {R:Type} (B:Ops) (c108:C108) (c109:C109) (p0:L140) (k:AV→Objs→Option R) (n:Nat):afun tau B gl0 X100 (ent 108 (e108 c108) (ent 109 (e109 c109) gnil)) ow Tryd.f100 [.c (.list 140 ty140 p0)] [] k n=T100 B c108 c109 p0 (fun s=>aloop tau B gl0 X100 (ent 108 (e108 c108) (ent 109 (e109 c109) gnil)) ow [] Tryd.f100 k (I100 s) (E100 p0 s) n) (K1 k) none:=by kernel_rfl
theorem el100 {R:Type} (B:Ops) (c108:C108) (c109:C109) (p0:L140) (k:AV→Objs→Option R) (n:Nat):∀ s,aloop tau B gl0 X100 (ent 108 (e108 c108) (ent 109 (e109 c109) gnil)) ow [] Tryd.f100 k (I100 s) (E100 p0 s) (n+1)=T100 B c108 c109 p0 (fun s=>aloop tau B gl0 X100 (ent 108 (e108 c108) (ent 109 (e109 c109) gnil)) ow [] Tryd.f100 k (I100 s) (E100 p0 s) n) (K1 k) (some s):=by
 intro s
 cases s<;>kernel_rfl
theorem nt100 {R R':Type} (B:Ops) (c108:C108) (c109:C109) (p0:L140) (again:S100→Option R) (again':S100→Option R') (k0:(Bool)→Option R') (k:R'→Option R) (h:∀ s,again s=ob (again' s) k):∀ s,T100 B c108 c109 p0 again (fun y=>ob (k0 y) k) s=ob (T100 B c108 c109 p0 again' k0 s) k:=by
 rintro (_ | x)
 all_goals try cases x
 all_goals (unfold T100;repeat' first | exact rfl | exact h _ | apply qaf | (apply qao;intro))
def R100 (c108:C108) (c109:C109) (p0:L140):Nat→S100→Option (Bool)
 | 0,_=>none
 | n+1,s=>T100 Ops.std c108 c109 p0 (R100 c108 c109 p0 n) some (some s)
theorem rr100 {R:Type} (c108:C108) (c109:C109) (p0:L140) (k:AV→Objs→Option R):∀ (n:Nat) (s:S100),aloop tau Ops.std gl0 X100 (ent 108 (e108 c108) (ent 109 (e109 c109) gnil)) ow [] Tryd.f100 k (I100 s) (E100 p0 s) n=ob (R100 c108 c109 p0 n s) (K1 k)
 | 0,s=>by cases s<;>rfl
 | n+1,s=>by rw [el100];exact nt100 Ops.std c108 c109 p0 _ _ some (K1 k) (rr100 c108 c109 p0 k n) (some s)
def F100 (c108:C108) (c109:C109) (p0:L140):Option (Bool):=T100 Ops.std c108 c109 p0 (R100 c108 c109 p0 1000000) some none
def e100 {R:Type} (c:L140→Option (Bool)):Ent R:=fun args objs k=>
 oL args 140 ty140 fun p0 l0=>oE l0 objs <| ob (c p0) (K1 k)
abbrev Sp100 (c:L140→Option (Bool)):Prop:=∀ (p0:L140) (y:Bool),c p0=some y→Spec Tryd.prog gl0 100 [.c (.list 140 ty140 p0)] [] (.c (.bool y)) []
theorem ek100 {R:Type} {c:L140→Option (Bool)} (hs:Sp100 c):EOk 100 (e100 (R:=R) c):=fun args objs k r h=>by
 unfold e100 at h
 obtain ⟨p0,l0,rfl,q3⟩:=qaw h
 obtain ⟨rfl,rfl,q5⟩:=qam q3
 exact qap (hs p0) q5
theorem sf100 {c108:C108} {c109:C109} (h108:Sp108 c108) (h109:Sp109 c109):Sp100 (F100 c108 c109):=fun p0 y hy=>by
 refine qaj (qae (ek108 h108) (qae (ek109 h109) qai)) 1000000 (fn:=Tryd.f100) (by kernel_rfl) (by kernel_rfl) (X:=X100) (by kernel_rfl) ?_
 rw [eq100]
 exact (nt100 Ops.std c108 c109 p0 _ _ some (K1 k0) (rr100 c108 c109 p0 k0 1000000) none).trans (by show ob (F100 c108 c109 p0) _=_;rw [hy];rfl)
noncomputable def M100:L140→Option (Bool):=F100 M108 M109
theorem sm100:Sp100 M100:=sf100 sm108 sm109
def X86:Aux:=⟨[(3,([1,2,4,5,6]++rg 10 47))],[]⟩
inductive S86 where
 | l0 (v1:Int) (v3:Int) (v4:Int)
abbrev C87:Type:=Int→Option (Int)
abbrev C100:Type:=L140→Option (Bool)
def T86 {R:Type} (B:Ops) (c87:C87) (c100:C100) (p0:L93) (again:S86→Option R) (k:(Bool)→Option R):Option S86→Option R | none=>again (.l0 0 (↑p0.length) 0) | some (.l0 v1 v3 v4)=>cond (B.lt v4 v3) (cond (B.inb v4 p0.length) (ob (c87 ((p0.getD v4.toNat ty93.dflt).1)) fun y0=>cond (B.lt y0 (0)) (k false) (cond (B.lt v1 y0) (k false) (cond (B.eq ((p0.getD v4.toNat ty93.dflt).1) (3)) (ob (c100 ((p0.getD v4.toNat ty93.dflt).2)) fun y1=>cond (!y1) (k false) (cond (!B.eq ((p0.getD v4.toNat ty93.dflt).1) (3)) (cond (B.lt (0) (Nat.cast (List.length ((p0.getD v4.toNat ty93.dflt).2)))) (k false) (again (.l0 (IntKind.wrap .i64 (v1+IntKind.wrap .i64 (1-y0))) v3 (IntKind.wrap .i64 (v4+1))))) (again (.l0 (IntKind.wrap .i64 (v1+IntKind.wrap .i64 (1-y0))) v3 (IntKind.wrap .i64 (v4+1)))))) (cond (!B.eq ((p0.getD v4.toNat ty93.dflt).1) (3)) (cond (B.lt (0) (Nat.cast (List.length ((p0.getD v4.toNat ty93.dflt).2)))) (k false) (again (.l0 (IntKind.wrap .i64 (v1+IntKind.wrap .i64 (1-y0))) v3 (IntKind.wrap .i64 (v4+1))))) (again (.l0 (IntKind.wrap .i64 (v1+IntKind.wrap .i64 (1-y0))) v3 (IntKind.wrap .i64 (v4+1)))))))) none) (cond (B.eq v1 (1)) (k (B.le (↑p0.length) (60))) (k false))
def E86 (p0:L93):S86→List AV×Objs
 | .l0 v1 v3 v4=>(mk 57 [(0,.c (.list 93 ty93 p0)),(3,.c (.int .i64 v1)),(7,.c (.list 93 ty93 p0)),(8,.c (.int .i64 v3)),(9,.c (.int .i64 v4))],[])
def I86:S86→Nat
 | .l0 _ _ _=>0
theorem eq86 {R:Type} (B:Ops) (c87:C87) (c100:C100) (p0:L93) (k:AV→Objs→Option R) (n:Nat):afun tau B gl0 X86 (ent 87 (e87 c87) (ent 100 (e100 c100) gnil)) ow Tryd.f86 [.c (.list 93 ty93 p0)] [] k n=T86 B c87 c100 p0 (fun s=>aloop tau B gl0 X86 (ent 87 (e87 c87) (ent 100 (e100 c100) gnil)) ow [] Tryd.f86 k (I86 s) (E86 p0 s) n) (K1 k) none:=by kernel_rfl
theorem el86 {R:Type} (B:Ops) (c87:C87) (c100:C100) (p0:L93) (k:AV→Objs→Option R) (n:Nat):∀ s,aloop tau B gl0 X86 (ent 87 (e87 c87) (ent 100 (e100 c100) gnil)) ow [] Tryd.f86 k (I86 s) (E86 p0 s) (n+1)=T86 B c87 c100 p0 (fun s=>aloop tau B gl0 X86 (ent 87 (e87 c87) (ent 100 (e100 c100) gnil)) ow [] Tryd.f86 k (I86 s) (E86 p0 s) n) (K1 k) (some s):=by
 intro s
 cases s<;>kernel_rfl
theorem nt86 {R R':Type} (B:Ops) (c87:C87) (c100:C100) (p0:L93) (again:S86→Option R) (again':S86→Option R') (k0:(Bool)→Option R') (k:R'→Option R) (h:∀ s,again s=ob (again' s) k):∀ s,T86 B c87 c100 p0 again (fun y=>ob (k0 y) k) s=ob (T86 B c87 c100 p0 again' k0 s) k:=by
 rintro (_ | x)
 all_goals try cases x
 all_goals (unfold T86;repeat' first | exact rfl | exact h _ | apply qaf | (apply qao;intro))
def R86 (c87:C87) (c100:C100) (p0:L93):Nat→S86→Option (Bool)
 | 0,_=>none
 | n+1,s=>T86 Ops.std c87 c100 p0 (R86 c87 c100 p0 n) some (some s)
theorem rr86 {R:Type} (c87:C87) (c100:C100) (p0:L93) (k:AV→Objs→Option R):∀ (n:Nat) (s:S86),aloop tau Ops.std gl0 X86 (ent 87 (e87 c87) (ent 100 (e100 c100) gnil)) ow [] Tryd.f86 k (I86 s) (E86 p0 s) n=ob (R86 c87 c100 p0 n s) (K1 k)
 | 0,s=>by cases s<;>rfl
 | n+1,s=>by rw [el86];exact nt86 Ops.std c87 c100 p0 _ _ some (K1 k) (rr86 c87 c100 p0 k n) (some s)
def F86 (c87:C87) (c100:C100) (p0:L93):Option (Bool):=T86 Ops.std c87 c100 p0 (R86 c87 c100 p0 1000000) some none
def e86 {R:Type} (c:L93→Option (Bool)):Ent R:=fun args objs k=>
 oL args 93 ty93 fun p0 l0=>oE l0 objs <| ob (c p0) (K1 k)
abbrev Sp86 (c:L93→Option (Bool)):Prop:=∀ (p0:L93) (y:Bool),c p0=some y→Spec Tryd.prog gl0 86 [.c (.list 93 ty93 p0)] [] (.c (.bool y)) []
theorem ek86 {R:Type} {c:L93→Option (Bool)} (hs:Sp86 c):EOk 86 (e86 (R:=R) c):=fun args objs k r h=>by
 unfold e86 at h
 obtain ⟨p0,l0,rfl,q3⟩:=qaw h
 obtain ⟨rfl,rfl,q5⟩:=qam q3
 exact qap (hs p0) q5
theorem sf86 {c87:C87} {c100:C100} (h87:Sp87 c87) (h100:Sp100 c100):Sp86 (F86 c87 c100):=fun p0 y hy=>by
 refine qaj (qae (ek87 h87) (qae (ek100 h100) qai)) 1000000 (fn:=Tryd.f86) (by kernel_rfl) (by kernel_rfl) (X:=X86) (by kernel_rfl) ?_
 rw [eq86]
 exact (nt86 Ops.std c87 c100 p0 _ _ some (K1 k0) (rr86 c87 c100 p0 k0 1000000) none).trans (by show ob (F86 c87 c100 p0) _=_;rw [hy];rfl)
noncomputable def M86:L93→Option (Bool):=F86 M87 M100
theorem sm86:Sp86 M86:=sf86 sm87 sm100
abbrev K16 {R:Type} (k:AV→Objs→Option R) (y:(L3)):Option R:=k (.c (.own 500)) [(500,.row 3 ty3 y)]
def e88 {R:Type} (c:L3→Option (L3)):Ent R:=fun args objs k=>
 oL args 3 ty3 fun p0 l0=>oE l0 objs <| ob (c p0) (K16 k)
abbrev Sp88 (c:L3→Option (L3)):Prop:=∀ (p0:L3) (y:L3),c p0=some y→Spec Tryd.prog gl0 88 [.c (.list 3 ty3 p0)] [] (.c (.own 500)) [(500,.row 3 ty3 y)]
theorem ek88 {R:Type} {c:L3→Option (L3)} (hs:Sp88 c):EOk 88 (e88 (R:=R) c):=fun args objs k r h=>by
 unfold e88 at h
 obtain ⟨p0,l0,rfl,q3⟩:=qaw h
 obtain ⟨rfl,rfl,q5⟩:=qam q3
 exact qap (hs p0) q5
def M88:L3→Option (L3):=cloneF (t:=ty3) 8
theorem sm88:Sp88 M88:=by
 have h:∀ (B:Ops) (xs:List (Ty.den ty3)) (k:AV→Objs→Option AO),afun tau B gl0 X0 gnil ow Tryd.f88 [.c (.list 3 ty3 xs)] [] k 1=cloneT B 3 8 ty3 xs k:=fun B xs k=>by kernel_rfl
 refine clone_sp (fun xs v o h0=>?_) fun b=>?_
 ·exact qaj (G:=gnil) qai 1 (fn:=Tryd.f88) (by kernel_rfl) (by kernel_rfl) (X:=X0) (by kernel_rfl) ((h _ _ _).trans h0)
 ·cases b<;>exact qaj (G:=gnil) qai 1 (fn:=Tryd.f88) (by kernel_rfl) (by kernel_rfl) (X:=X0) (by kernel_rfl) (by kernel_rfl)
def X56:Aux:=⟨[(6,([0,1,2,5,6,7,8,9,10]++rg 14 25))],[]⟩
inductive S56 where
 | l0 (v1:Int) (v2:Int) (v3:L22) (v4:L3)
abbrev C86:Type:=L93→Option (Bool)
abbrev C88:Type:=L3→Option (L3)
def T56 {R:Type} (B:Ops) (c86:C86) (c87:C87) (c88:C88) (p0:L93) (again:S56→Option R) (k:(L22)→Option R):Option S56→Option R | none=>ob (c86 p0) fun y0=>cond (!y0) (k (mt (Ty.den ty22))) (again (.l0 (↑p0.length) 0 (mt (Ty.den ty22)) (mt (Ty.den (Ty.int .i64))))) | some (.l0 v1 v2 v3 v4)=>cond (B.lt v2 v1) (cond (B.inb v2 p0.length) (ob (c87 ((p0.getD v2.toNat ty93.dflt).1)) fun y0=>cond (B.inb (IntKind.wrap .i64 (Nat.cast v4.length-y0)) (List.length v4+1)) (ob (c88 (List.drop (Int.toNat (IntKind.wrap .i64 (Nat.cast v4.length-y0))) (List.take v4.length v4))) fun y1=>cond (B.lim (List.length v3+List.length (y1::mt (Ty.den ty22))) (24)) (cond (B.inb (IntKind.wrap .i64 (Nat.cast v4.length-y0)) (List.length v4+1)) (cond (B.lim (List.length (List.take (Int.toNat (IntKind.wrap .i64 (Nat.cast v4.length-y0))) v4)+List.length (v2::mt (Ty.den (Ty.int .i64)))) (8)) (again (.l0 v1 (IntKind.wrap .i64 (v2+1)) (v3++y1::mt (Ty.den ty22)) (List.take (Int.toNat (IntKind.wrap .i64 (Nat.cast v4.length-y0))) v4++v2::mt (Ty.den (Ty.int .i64))))) none) none) none) none) none) (k v3)
def E56 (p0:L93):S56→List AV×Objs
 | .l0 v1 v2 v3 v4=>(mk 39 [(3,.c (.own 3)),(4,.c (.own 4)),(11,.c (.list 93 ty93 p0)),(12,.c (.int .i64 v1)),(13,.c (.int .i64 v2))],[(3,.row 22 ty22 v3),(4,.row 3 ty3 v4)])
def I56:S56→Nat
 | .l0 _ _ _ _=>0
abbrev K17 {R:Type} (k:AV→Objs→Option R) (y:(L22)):Option R:=k (.c (.own 500)) [(500,.row 22 ty22 y)]
theorem eq56 {R:Type} (B:Ops) (c86:C86) (c87:C87) (c88:C88) (p0:L93) (k:AV→Objs→Option R) (n:Nat):afun tau B gl0 X56 (ent 86 (e86 c86) (ent 87 (e87 c87) (ent 88 (e88 c88) gnil))) ow Tryd.f56 [.c (.list 93 ty93 p0)] [] k n=T56 B c86 c87 c88 p0 (fun s=>aloop tau B gl0 X56 (ent 86 (e86 c86) (ent 87 (e87 c87) (ent 88 (e88 c88) gnil))) ow [] Tryd.f56 k (I56 s) (E56 p0 s) n) (K17 k) none:=by kernel_rfl
theorem el56 {R:Type} (B:Ops) (c86:C86) (c87:C87) (c88:C88) (p0:L93) (k:AV→Objs→Option R) (n:Nat):∀ s,aloop tau B gl0 X56 (ent 86 (e86 c86) (ent 87 (e87 c87) (ent 88 (e88 c88) gnil))) ow [] Tryd.f56 k (I56 s) (E56 p0 s) (n+1)=T56 B c86 c87 c88 p0 (fun s=>aloop tau B gl0 X56 (ent 86 (e86 c86) (ent 87 (e87 c87) (ent 88 (e88 c88) gnil))) ow [] Tryd.f56 k (I56 s) (E56 p0 s) n) (K17 k) (some s):=by
 intro s
 cases s<;>kernel_rfl
theorem nt56 {R R':Type} (B:Ops) (c86:C86) (c87:C87) (c88:C88) (p0:L93) (again:S56→Option R) (again':S56→Option R') (k0:(L22)→Option R') (k:R'→Option R) (h:∀ s,again s=ob (again' s) k):∀ s,T56 B c86 c87 c88 p0 again (fun y=>ob (k0 y) k) s=ob (T56 B c86 c87 c88 p0 again' k0 s) k:=by
 rintro (_ | x)
 all_goals try cases x
 all_goals (unfold T56;repeat' first | exact rfl | exact h _ | apply qaf | (apply qao;intro))
def R56 (c86:C86) (c87:C87) (c88:C88) (p0:L93):Nat→S56→Option (L22)
 | 0,_=>none
 | n+1,s=>T56 Ops.std c86 c87 c88 p0 (R56 c86 c87 c88 p0 n) some (some s)
theorem rr56 {R:Type} (c86:C86) (c87:C87) (c88:C88) (p0:L93) (k:AV→Objs→Option R):∀ (n:Nat) (s:S56),aloop tau Ops.std gl0 X56 (ent 86 (e86 c86) (ent 87 (e87 c87) (ent 88 (e88 c88) gnil))) ow [] Tryd.f56 k (I56 s) (E56 p0 s) n=ob (R56 c86 c87 c88 p0 n s) (K17 k)
 | 0,s=>by cases s<;>rfl
 | n+1,s=>by rw [el56];exact nt56 Ops.std c86 c87 c88 p0 _ _ some (K17 k) (rr56 c86 c87 c88 p0 k n) (some s)
def F56 (c86:C86) (c87:C87) (c88:C88) (p0:L93):Option (L22):=T56 Ops.std c86 c87 c88 p0 (R56 c86 c87 c88 p0 1000000) some none
def e56 {R:Type} (c:L93→Option (L22)):Ent R:=fun args objs k=>
 oL args 93 ty93 fun p0 l0=>oE l0 objs <| ob (c p0) (K17 k)
abbrev Sp56 (c:L93→Option (L22)):Prop:=∀ (p0:L93) (y:L22),c p0=some y→Spec Tryd.prog gl0 56 [.c (.list 93 ty93 p0)] [] (.c (.own 500)) [(500,.row 22 ty22 y)]
theorem ek56 {R:Type} {c:L93→Option (L22)} (hs:Sp56 c):EOk 56 (e56 (R:=R) c):=fun args objs k r h=>by
 unfold e56 at h
 obtain ⟨p0,l0,rfl,q3⟩:=qaw h
 obtain ⟨rfl,rfl,q5⟩:=qam q3
 exact qap (hs p0) q5
theorem sf56 {c86:C86} {c87:C87} {c88:C88} (h86:Sp86 c86) (h87:Sp87 c87) (h88:Sp88 c88):Sp56 (F56 c86 c87 c88):=fun p0 y hy=>by
 refine qaj (qae (ek86 h86) (qae (ek87 h87) (qae (ek88 h88) qai))) 1000000 (fn:=Tryd.f56) (by kernel_rfl) (by kernel_rfl) (X:=X56) (by kernel_rfl) ?_
 rw [eq56]
 exact (nt56 Ops.std c86 c87 c88 p0 _ _ some (K17 k0) (rr56 c86 c87 c88 p0 k0 1000000) none).trans (by show ob (F56 c86 c87 c88 p0) _=_;rw [hy];rfl)
noncomputable def M56:L93→Option (L22):=F56 M86 M87 M88
theorem sm56:Sp56 M56:=sf56 sm86 sm87 sm88
def X55:Aux:=⟨[(3,([1,2,4,5,6,7]++rg 11 32))],[]⟩
inductive S55 where
 | l0 (v2:Int) (v3:Int) (v4:L22)
abbrev C56:Type:=L93→Option (L22)
def T55 {R:Type} (B:Ops) (c56:C56) (p0:L93) (again:S55→Option R) (k:(Bool)→Option R):Option S55→Option R | none=>ob (c56 p0) fun y0=>again (.l0 (↑p0.length) 0 y0) | some (.l0 v2 v3 v4)=>cond (B.lt v3 v2) (cond (B.inb v3 p0.length) (cond (B.eq ((p0.getD v3.toNat ty93.dflt).1) (7)) (k false) (cond (B.eq ((p0.getD v3.toNat ty93.dflt).1) (11)) (k false) (cond (B.eq ((p0.getD v3.toNat ty93.dflt).1) (12)) (k false) (cond (B.eq ((p0.getD v3.toNat ty93.dflt).1) (4)) (cond (B.eq (↑v4.length) (0)) (k false) (cond (B.inb v3 v4.length) (cond (B.inb (0) (List.length (v4.getD v3.toNat ty22.dflt))) (cond (B.inb (List.getD (v4.getD v3.toNat ty22.dflt) (Int.toNat (0)) (Ty.dflt (Ty.int .i64))) p0.length) (cond (!B.eq ((p0.getD (Int.toNat (List.getD (v4.getD v3.toNat ty22.dflt) (Int.toNat (0)) (Ty.dflt (Ty.int .i64)))) ty93.dflt).1) (3)) (k false) (again (.l0 v2 (IntKind.wrap .i64 (v3+1)) v4))) none) none) none)) (again (.l0 v2 (IntKind.wrap .i64 (v3+1)) v4)))))) none) (k (B.lt (0) (↑v4.length)))
def E55 (p0:L93):S55→List AV×Objs
 | .l0 v2 v3 v4=>(mk 43 [(0,.c (.list 93 ty93 p0)),(3,.c (.own 3)),(8,.c (.list 93 ty93 p0)),(9,.c (.int .i64 v2)),(10,.c (.int .i64 v3))],[(3,.row 22 ty22 v4)])
def I55:S55→Nat
 | .l0 _ _ _=>0
theorem eq55 {R:Type} (B:Ops) (c56:C56) (p0:L93) (k:AV→Objs→Option R) (n:Nat):afun tau B gl0 X55 (ent 56 (e56 c56) gnil) ow Tryd.f55 [.c (.list 93 ty93 p0)] [] k n=T55 B c56 p0 (fun s=>aloop tau B gl0 X55 (ent 56 (e56 c56) gnil) ow [] Tryd.f55 k (I55 s) (E55 p0 s) n) (K1 k) none:=by kernel_rfl
theorem el55 {R:Type} (B:Ops) (c56:C56) (p0:L93) (k:AV→Objs→Option R) (n:Nat):∀ s,aloop tau B gl0 X55 (ent 56 (e56 c56) gnil) ow [] Tryd.f55 k (I55 s) (E55 p0 s) (n+1)=T55 B c56 p0 (fun s=>aloop tau B gl0 X55 (ent 56 (e56 c56) gnil) ow [] Tryd.f55 k (I55 s) (E55 p0 s) n) (K1 k) (some s):=by
 intro s
 cases s<;>kernel_rfl
theorem nt55 {R R':Type} (B:Ops) (c56:C56) (p0:L93) (again:S55→Option R) (again':S55→Option R') (k0:(Bool)→Option R') (k:R'→Option R) (h:∀ s,again s=ob (again' s) k):∀ s,T55 B c56 p0 again (fun y=>ob (k0 y) k) s=ob (T55 B c56 p0 again' k0 s) k:=by
 rintro (_ | x)
 all_goals try cases x
 all_goals (unfold T55;repeat' first | exact rfl | exact h _ | apply qaf | (apply qao;intro))
def R55 (c56:C56) (p0:L93):Nat→S55→Option (Bool)
 | 0,_=>none
 | n+1,s=>T55 Ops.std c56 p0 (R55 c56 p0 n) some (some s)
theorem rr55 {R:Type} (c56:C56) (p0:L93) (k:AV→Objs→Option R):∀ (n:Nat) (s:S55),aloop tau Ops.std gl0 X55 (ent 56 (e56 c56) gnil) ow [] Tryd.f55 k (I55 s) (E55 p0 s) n=ob (R55 c56 p0 n s) (K1 k)
 | 0,s=>by cases s<;>rfl
 | n+1,s=>by rw [el55];exact nt55 Ops.std c56 p0 _ _ some (K1 k) (rr55 c56 p0 k n) (some s)
def F55 (c56:C56) (p0:L93):Option (Bool):=T55 Ops.std c56 p0 (R55 c56 p0 1000000) some none
def e55 {R:Type} (c:L93→Option (Bool)):Ent R:=fun args objs k=>
 oL args 93 ty93 fun p0 l0=>oE l0 objs <| ob (c p0) (K1 k)
abbrev Sp55 (c:L93→Option (Bool)):Prop:=∀ (p0:L93) (y:Bool),c p0=some y→Spec Tryd.prog gl0 55 [.c (.list 93 ty93 p0)] [] (.c (.bool y)) []
theorem ek55 {R:Type} {c:L93→Option (Bool)} (hs:Sp55 c):EOk 55 (e55 (R:=R) c):=fun args objs k r h=>by
 unfold e55 at h
 obtain ⟨p0,l0,rfl,q3⟩:=qaw h
 obtain ⟨rfl,rfl,q5⟩:=qam q3
 exact qap (hs p0) q5
theorem sf55 {c56:C56} (h56:Sp56 c56):Sp55 (F55 c56):=fun p0 y hy=>by
 refine qaj (qae (ek56 h56) qai) 1000000 (fn:=Tryd.f55) (by kernel_rfl) (by kernel_rfl) (X:=X55) (by kernel_rfl) ?_
 rw [eq55]
 exact (nt55 Ops.std c56 p0 _ _ some (K1 k0) (rr55 c56 p0 k0 1000000) none).trans (by show ob (F55 c56 p0) _=_;rw [hy];rfl)
noncomputable def M55:L93→Option (Bool):=F55 M56
theorem sm55:Sp55 M55:=sf55 sm56
def X22:Aux:=⟨[(5,([0,1,2,4,5,6,7,8]++rg 12 18))],[]⟩
inductive S22 where
 | l0 (v1:Int) (v2:Int) (v3:L3)
abbrev C55:Type:=L93→Option (Bool)
def T22 {R:Type} (B:Ops) (c55:C55) (p0:L93) (again:S22→Option R) (k:(L3)→Option R):Option S22→Option R | none=>ob (c55 p0) fun y0=>cond (!y0) (k (mt (Ty.den (Ty.int .i64)))) (again (.l0 (↑p0.length) 0 (mt (Ty.den (Ty.int .i64))))) | some (.l0 v1 v2 v3)=>cond (B.lt v2 v1) (cond (B.inb v2 p0.length) (cond (B.eq ((p0.getD v2.toNat ty93.dflt).1) (9)) (cond (B.lim (List.length v3+List.length (v2::mt (Ty.den (Ty.int .i64)))) (8)) (again (.l0 v1 (IntKind.wrap .i64 (v2+1)) (v3++v2::mt (Ty.den (Ty.int .i64))))) none) (cond (B.eq ((p0.getD v2.toNat ty93.dflt).1) (10)) (cond (B.lim (List.length v3+List.length (v2::mt (Ty.den (Ty.int .i64)))) (8)) (again (.l0 v1 (IntKind.wrap .i64 (v2+1)) (v3++v2::mt (Ty.den (Ty.int .i64))))) none) (again (.l0 v1 (IntKind.wrap .i64 (v2+1)) v3)))) none) (k v3)
def E22 (p0:L93):S22→List AV×Objs
 | .l0 v1 v2 v3=>(mk 30 [(3,.c (.own 3)),(9,.c (.list 93 ty93 p0)),(10,.c (.int .i64 v1)),(11,.c (.int .i64 v2))],[(3,.row 3 ty3 v3)])
def I22:S22→Nat
 | .l0 _ _ _=>0
theorem eq22 {R:Type} (B:Ops) (c55:C55) (p0:L93) (k:AV→Objs→Option R) (n:Nat):afun tau B gl0 X22 (ent 55 (e55 c55) gnil) ow Tryd.f22 [.c (.list 93 ty93 p0)] [] k n=T22 B c55 p0 (fun s=>aloop tau B gl0 X22 (ent 55 (e55 c55) gnil) ow [] Tryd.f22 k (I22 s) (E22 p0 s) n) (K16 k) none:=by kernel_rfl
theorem el22 {R:Type} (B:Ops) (c55:C55) (p0:L93) (k:AV→Objs→Option R) (n:Nat):∀ s,aloop tau B gl0 X22 (ent 55 (e55 c55) gnil) ow [] Tryd.f22 k (I22 s) (E22 p0 s) (n+1)=T22 B c55 p0 (fun s=>aloop tau B gl0 X22 (ent 55 (e55 c55) gnil) ow [] Tryd.f22 k (I22 s) (E22 p0 s) n) (K16 k) (some s):=by
 intro s
 cases s<;>kernel_rfl
theorem nt22 {R R':Type} (B:Ops) (c55:C55) (p0:L93) (again:S22→Option R) (again':S22→Option R') (k0:(L3)→Option R') (k:R'→Option R) (h:∀ s,again s=ob (again' s) k):∀ s,T22 B c55 p0 again (fun y=>ob (k0 y) k) s=ob (T22 B c55 p0 again' k0 s) k:=by
 rintro (_ | x)
 all_goals try cases x
 all_goals (unfold T22;repeat' first | exact rfl | exact h _ | apply qaf | (apply qao;intro))
def R22 (c55:C55) (p0:L93):Nat→S22→Option (L3)
 | 0,_=>none
 | n+1,s=>T22 Ops.std c55 p0 (R22 c55 p0 n) some (some s)
theorem rr22 {R:Type} (c55:C55) (p0:L93) (k:AV→Objs→Option R):∀ (n:Nat) (s:S22),aloop tau Ops.std gl0 X22 (ent 55 (e55 c55) gnil) ow [] Tryd.f22 k (I22 s) (E22 p0 s) n=ob (R22 c55 p0 n s) (K16 k)
 | 0,s=>by cases s<;>rfl
 | n+1,s=>by rw [el22];exact nt22 Ops.std c55 p0 _ _ some (K16 k) (rr22 c55 p0 k n) (some s)
def F22 (c55:C55) (p0:L93):Option (L3):=T22 Ops.std c55 p0 (R22 c55 p0 1000000) some none
def e22 {R:Type} (c:L93→Option (L3)):Ent R:=fun args objs k=>
 oL args 93 ty93 fun p0 l0=>oE l0 objs <| ob (c p0) (K16 k)
abbrev Sp22 (c:L93→Option (L3)):Prop:=∀ (p0:L93) (y:L3),c p0=some y→Spec Tryd.prog gl0 22 [.c (.list 93 ty93 p0)] [] (.c (.own 500)) [(500,.row 3 ty3 y)]
theorem ek22 {R:Type} {c:L93→Option (L3)} (hs:Sp22 c):EOk 22 (e22 (R:=R) c):=fun args objs k r h=>by
 unfold e22 at h
 obtain ⟨p0,l0,rfl,q3⟩:=qaw h
 obtain ⟨rfl,rfl,q5⟩:=qam q3
 exact qap (hs p0) q5
theorem sf22 {c55:C55} (h55:Sp55 c55):Sp22 (F22 c55):=fun p0 y hy=>by
 refine qaj (qae (ek55 h55) qai) 1000000 (fn:=Tryd.f22) (by kernel_rfl) (by kernel_rfl) (X:=X22) (by kernel_rfl) ?_
 rw [eq22]
 exact (nt22 Ops.std c55 p0 _ _ some (K16 k0) (rr22 c55 p0 k0 1000000) none).trans (by show ob (F22 c55 p0) _=_;rw [hy];rfl)
noncomputable def M22:L93→Option (L3):=F22 M55
theorem sm22:Sp22 M22:=sf22 sm55
def X38:Aux:=⟨[(4,([2,3,4]++rg 6 20))],[(6,.lin [0,1,2,3,4,5,6,7,8])]⟩
inductive S38 where
 | l0 (v2:Int)
def T38 {R:Type} (B:Ops) (p0:L3) (p1:L3) (again:S38→Option R) (k:(Bool)→Option R):Option S38→Option R | none=>cond (!B.eq (↑p0.length) (↑p1.length)) (k false) (again (.l0 0)) | some (.l0 v2)=>cond (B.lt v2 (↑p0.length)) (cond (B.inb v2 p0.length) (cond (B.inb v2 p1.length) (cond (!B.eq (p0.getD v2.toNat ty3.dflt) (p1.getD v2.toNat ty3.dflt)) (k false) (again (.l0 (IntKind.wrap .i64 (v2+1))))) none) none) (k true)
def E38 (p0:L3) (p1:L3):S38→List AV×Objs
 | .l0 v2=>(mk 26 [(0,.c (.list 3 ty3 p0)),(1,.c (.list 3 ty3 p1)),(5,.c (.int .i64 v2))],[])
def I38:S38→Nat
 | .l0 _=>0
theorem eq38 {R:Type} (B:Ops) (p0:L3) (p1:L3) (k:AV→Objs→Option R) (n:Nat):afun tau B gl0 X38 gnil ow Tryd.f38 [.c (.list 3 ty3 p0),.c (.list 3 ty3 p1)] [] k n=T38 B p0 p1 (fun s=>aloop tau B gl0 X38 gnil ow [] Tryd.f38 k (I38 s) (E38 p0 p1 s) n) (K1 k) none:=by kernel_rfl
theorem el38 {R:Type} (B:Ops) (p0:L3) (p1:L3) (k:AV→Objs→Option R) (n:Nat):∀ s,aloop tau B gl0 X38 gnil ow [] Tryd.f38 k (I38 s) (E38 p0 p1 s) (n+1)=T38 B p0 p1 (fun s=>aloop tau B gl0 X38 gnil ow [] Tryd.f38 k (I38 s) (E38 p0 p1 s) n) (K1 k) (some s):=by
 intro s
 cases s<;>kernel_rfl
theorem nt38 {R R':Type} (B:Ops) (p0:L3) (p1:L3) (again:S38→Option R) (again':S38→Option R') (k0:(Bool)→Option R') (k:R'→Option R) (h:∀ s,again s=ob (again' s) k):∀ s,T38 B p0 p1 again (fun y=>ob (k0 y) k) s=ob (T38 B p0 p1 again' k0 s) k:=by
 rintro (_ | x)
 all_goals try cases x
 all_goals (unfold T38;repeat' first | exact rfl | exact h _ | apply qaf | (apply qao;intro))
def R38 (p0:L3) (p1:L3):Nat→S38→Option (Bool)
 | 0,_=>none
 | n+1,s=>T38 Ops.std p0 p1 (R38 p0 p1 n) some (some s)
theorem rr38 {R:Type} (p0:L3) (p1:L3) (k:AV→Objs→Option R):∀ (n:Nat) (s:S38),aloop tau Ops.std gl0 X38 gnil ow [] Tryd.f38 k (I38 s) (E38 p0 p1 s) n=ob (R38 p0 p1 n s) (K1 k)
 | 0,s=>by cases s<;>rfl
 | n+1,s=>by rw [el38];exact nt38 Ops.std p0 p1 _ _ some (K1 k) (rr38 p0 p1 k n) (some s)
def F38 (p0:L3) (p1:L3):Option (Bool):=T38 Ops.std p0 p1 (R38 p0 p1 1000000) some none
def e38 {R:Type} (c:L3→L3→Option (Bool)):Ent R:=fun args objs k=>
 oL args 3 ty3 fun p0 l0=>oL l0 3 ty3 fun p1 l1=>oE l1 objs <| ob (c p0 p1) (K1 k)
abbrev Sp38 (c:L3→L3→Option (Bool)):Prop:=∀ (p0:L3) (p1:L3) (y:Bool),c p0 p1=some y→Spec Tryd.prog gl0 38 [.c (.list 3 ty3 p0),.c (.list 3 ty3 p1)] [] (.c (.bool y)) []
theorem ek38 {R:Type} {c:L3→L3→Option (Bool)} (hs:Sp38 c):EOk 38 (e38 (R:=R) c):=fun args objs k r h=>by
 unfold e38 at h
 obtain ⟨p0,l0,rfl,q3⟩:=qaw h
 obtain ⟨p1,l1,rfl,q6⟩:=qaw q3
 obtain ⟨rfl,rfl,q8⟩:=qam q6
 exact qap (hs p0 p1) q8
theorem sf38:Sp38 (F38):=fun p0 p1 y hy=>by
 refine qaj qai 1000000 (fn:=Tryd.f38) (by kernel_rfl) (by kernel_rfl) (X:=X38) (by kernel_rfl) ?_
 rw [eq38]
 exact (nt38 Ops.std p0 p1 _ _ some (K1 k0) (rr38 p0 p1 k0 1000000) none).trans (by show ob (F38 p0 p1) _=_;rw [hy];rfl)
noncomputable def M38:L3→L3→Option (Bool):=F38
theorem sm38:Sp38 M38:=sf38
def X12:Aux:=⟨[],[]⟩
abbrev C37:Type:=Int→L4→Option (Int×Bool)
abbrev C15:Type:=LB→Option (L93)
abbrev C22:Type:=L93→Option (L3)
abbrev C38:Type:=L3→L3→Option (Bool)
def T12 {R:Type} (B:Ops) (c37:C37) (c15:C15) (c22:C22) (c38:C38) (k:(Bool)→Option R):Option R:=ob (c37 (0) (true::mt (Ty.den Ty.bool))) fun y0=>cond (B.eq y0.1 (0)) (cond y0.2 (ob (c15 ([91,120,93,32,85,32,91,121,93]:LB)) fun y1=>ob (c22 y1) fun y2=>ob (c38 y2 (2::mt (Ty.den (Ty.int .i64)))) fun y3=>k y3) (k false)) (k false)
theorem eq12 {R:Type} (B:Ops) (c37:C37) (c15:C15) (c22:C22) (c38:C38) (k:AV→Objs→Option R) (n:Nat):afun tau B gl0 X12 (ent 37 (e37 c37) (ent 15 (e15 c15) (ent 22 (e22 c22) (ent 38 (e38 c38) gnil)))) ow Tryd.f12 [] [] k n=T12 B c37 c15 c22 c38 (K1 k):=by kernel_rfl
theorem nt12 {R R':Type} (B:Ops) (c37:C37) (c15:C15) (c22:C22) (c38:C38) (k0:(Bool)→Option R') (k:R'→Option R):T12 B c37 c15 c22 c38 (fun y=>ob (k0 y) k)=ob (T12 B c37 c15 c22 c38 k0) k:=by
 unfold T12
 repeat' first | exact rfl | apply qaf | (apply qao;intro)
def F12 (c37:C37) (c15:C15) (c22:C22) (c38:C38):Option (Bool):=T12 Ops.std c37 c15 c22 c38 some
def e12 {R:Type} (c:Option (Bool)):Ent R:=fun args objs k=>
 oNil args <| oNilO objs <| ob (c ) (K1 k)
abbrev Sp12 (c:Option (Bool)):Prop:=∀ (y:Bool),c=some y→Spec Tryd.prog gl0 12 [] [] (.c (.bool y)) []
theorem ek12 {R:Type} {c:Option (Bool)} (hs:Sp12 c):EOk 12 (e12 (R:=R) c):=fun args objs k r h=>by
 unfold e12 at h
 obtain ⟨rfl,rfl,q2⟩:=qam h
 exact qap (hs ) q2
theorem sf12 {c37:C37} {c15:C15} {c22:C22} {c38:C38} (h37:Sp37 c37) (h15:Sp15 c15) (h22:Sp22 c22) (h38:Sp38 c38):Sp12 (F12 c37 c15 c22 c38):=fun y hy=>by
 refine qaj (qae (ek37 h37) (qae (ek15 h15) (qae (ek22 h22) (qae (ek38 h38) qai)))) 1000000 (fn:=Tryd.f12) (by kernel_rfl) (by kernel_rfl) (X:=X12) (by kernel_rfl) ?_
 rw [eq12]
 exact (nt12 Ops.std c37 c15 c22 c38 some (K1 k0)).trans (by show ob (F12 c37 c15 c22 c38) _=_;rw [hy];rfl)
noncomputable def M12:Option (Bool):=F12 M37 M15 M22 M38
theorem sm12:Sp12 M12:=sf12 sm37 sm15 sm22 sm38
def e105 {R:Type} (c:Int→Option (LB)):Ent R:=fun args objs k=>
 oI args .u64 fun p0 l0=>oE l0 objs <| ob (c p0) (K2 k)
abbrev Sp105 (c:Int→Option (LB)):Prop:=∀ (p0:Int) (y:LB),c p0=some y→Spec Tryd.prog gl0 105 [.c (.int .u64 p0)] [] (.c (.str y)) []
theorem ek105 {R:Type} {c:Int→Option (LB)} (hs:Sp105 c):EOk 105 (e105 (R:=R) c):=fun args objs k r h=>by
 unfold e105 at h
 obtain ⟨p0,l0,rfl,q3⟩:=qau h
 obtain ⟨rfl,rfl,q5⟩:=qam q3
 exact qap (hs p0) q5
def X105:Aux:=⟨[],[]⟩
abbrev C105:Type:=Int→Option (LB)
def T105 {R:Type} (B:Ops) (c105:C105) (p0:Int) (k:(LB)→Option R):Option R:=cond (B.eq (10) (0)) none (cond (B.eq (10) (0)) none (cond (B.inb (IntKind.wrap IntKind.u64 (Int.tmod p0 (10)+1)) (10+1)) (cond (bif B.le (0) (Int.tmod p0 (10)) then B.le (Int.tmod p0 (10)) (IntKind.wrap IntKind.u64 (Int.tmod p0 (10)+1)) else false) (cond (B.lt p0 (10)) (k (List.drop (Int.toNat (Int.tmod p0 (10))) (List.take (Int.toNat (IntKind.wrap IntKind.u64 (Int.tmod p0 (10)+1))) ([48,49,50,51,52,53,54,55,56,57]:LB)))) (cond (B.eq (10) (0)) none (ob (c105 (IntKind.wrap IntKind.u64 (Int.tdiv p0 (10)))) fun y0=>cond (B.lim (List.length y0+List.length (List.drop (Int.toNat (Int.tmod p0 (10))) (List.take (Int.toNat (IntKind.wrap IntKind.u64 (Int.tmod p0 (10)+1))) ([48,49,50,51,52,53,54,55,56,57]:LB)))) (1)) (k (y0++List.drop (Int.toNat (Int.tmod p0 (10))) (List.take (Int.toNat (IntKind.wrap IntKind.u64 (Int.tmod p0 (10)+1))) ([48,49,50,51,52,53,54,55,56,57]:LB)))) none))) none) none))
theorem eq105 {R:Type} (B:Ops) (c105:C105) (p0:Int) (k:AV→Objs→Option R) (n:Nat):afun tau B gl0 X105 (ent 105 (e105 c105) gnil) ow Tryd.f105 [.c (.int .u64 p0)] [] k n=T105 B c105 p0 (K2 k):=by kernel_rfl
theorem nt105 {R R':Type} (B:Ops) (c105:C105) (p0:Int) (k0:(LB)→Option R') (k:R'→Option R):T105 B c105 p0 (fun y=>ob (k0 y) k)=ob (T105 B c105 p0 k0) k:=by
 unfold T105
 repeat' first | exact rfl | apply qaf | (apply qao;intro)
def F105 (c105:C105) (p0:Int):Option (LB):=T105 Ops.std c105 p0 some
theorem sf105 {c105:C105} (h105:Sp105 c105):Sp105 (F105 c105):=fun p0 y hy=>by
 refine qaj (qae (ek105 h105) qai) 1000000 (fn:=Tryd.f105) (by kernel_rfl) (by kernel_rfl) (X:=X105) (by kernel_rfl) ?_
 rw [eq105]
 exact (nt105 Ops.std c105 p0 some (K2 k0)).trans (by show ob (F105 c105 p0) _=_;rw [hy];rfl)
noncomputable def Rec105:Nat→(Int→Option (LB))
 | 0=>fun _=>none
 | d+1=>F105 (Rec105 d)
theorem rec105:∀ d,Sp105 (Rec105 d)
 | 0=>fun p0 y (h:(none:Option (LB))=some y)=>by cases h
 | d+1=>sf105 (rec105 d)
noncomputable def M105:Int→Option (LB):=(Rec105 1000000)
theorem sm105:Sp105 M105:=(rec105 1000000)
def X94:Aux:=⟨[],[]⟩
def T94 {R:Type} (B:Ops) (c105:C105) (p0:Int) (k:(LB)→Option R):Option R:=cond (B.lt p0 (0)) (ob (c105 (IntKind.wrap IntKind.u64 (IntKind.wrap IntKind.u64 (IntKind.wrap .i64 (0-IntKind.wrap .i64 (p0+1)))+1))) fun y0=>cond (B.lim (1+List.length y0) (1)) (k (([45]:LB)++y0)) none) (ob (c105 (IntKind.wrap IntKind.u64 p0)) fun y0=>k y0)
theorem eq94 {R:Type} (B:Ops) (c105:C105) (p0:Int) (k:AV→Objs→Option R) (n:Nat):afun tau B gl0 X94 (ent 105 (e105 c105) gnil) ow Tryd.f94 [.c (.int .i64 p0)] [] k n=T94 B c105 p0 (K2 k):=by kernel_rfl
theorem nt94 {R R':Type} (B:Ops) (c105:C105) (p0:Int) (k0:(LB)→Option R') (k:R'→Option R):T94 B c105 p0 (fun y=>ob (k0 y) k)=ob (T94 B c105 p0 k0) k:=by
 unfold T94
 repeat' first | exact rfl | apply qaf | (apply qao;intro)
def F94 (c105:C105) (p0:Int):Option (LB):=T94 Ops.std c105 p0 some
def e94 {R:Type} (c:Int→Option (LB)):Ent R:=fun args objs k=>
 oI args .i64 fun p0 l0=>oE l0 objs <| ob (c p0) (K2 k)
abbrev Sp94 (c:Int→Option (LB)):Prop:=∀ (p0:Int) (y:LB),c p0=some y→Spec Tryd.prog gl0 94 [.c (.int .i64 p0)] [] (.c (.str y)) []
theorem ek94 {R:Type} {c:Int→Option (LB)} (hs:Sp94 c):EOk 94 (e94 (R:=R) c):=fun args objs k r h=>by
 unfold e94 at h
 obtain ⟨p0,l0,rfl,q3⟩:=qau h
 obtain ⟨rfl,rfl,q5⟩:=qam q3
 exact qap (hs p0) q5
theorem sf94 {c105:C105} (h105:Sp105 c105):Sp94 (F94 c105):=fun p0 y hy=>by
 refine qaj (qae (ek105 h105) qai) 1000000 (fn:=Tryd.f94) (by kernel_rfl) (by kernel_rfl) (X:=X94) (by kernel_rfl) ?_
 rw [eq94]
 exact (nt94 Ops.std c105 p0 some (K2 k0)).trans (by show ob (F94 c105 p0) _=_;rw [hy];rfl)
noncomputable def M94:Int→Option (LB):=F94 M105
theorem sm94:Sp94 M94:=sf94 sm105
def X71:Aux:=⟨[],[]⟩
abbrev C94:Type:=Int→Option (LB)
def T71 {R:Type} (B:Ops) (c94:C94) (p0:Int) (k:(LB)→Option R):Option R:=ob (c94 p0) fun y0=>k y0
theorem eq71 {R:Type} (B:Ops) (c94:C94) (p0:Int) (k:AV→Objs→Option R) (n:Nat):afun tau B gl0 X71 (ent 94 (e94 c94) gnil) ow Tryd.f71 [.c (.int .i64 p0)] [] k n=T71 B c94 p0 (K2 k):=by kernel_rfl
theorem nt71 {R R':Type} (B:Ops) (c94:C94) (p0:Int) (k0:(LB)→Option R') (k:R'→Option R):T71 B c94 p0 (fun y=>ob (k0 y) k)=ob (T71 B c94 p0 k0) k:=by
 unfold T71
 repeat' first | exact rfl | apply qaf | (apply qao;intro)
def F71 (c94:C94) (p0:Int):Option (LB):=T71 Ops.std c94 p0 some
def e71 {R:Type} (c:Int→Option (LB)):Ent R:=fun args objs k=>
 oI args .i64 fun p0 l0=>oE l0 objs <| ob (c p0) (K2 k)
abbrev Sp71 (c:Int→Option (LB)):Prop:=∀ (p0:Int) (y:LB),c p0=some y→Spec Tryd.prog gl0 71 [.c (.int .i64 p0)] [] (.c (.str y)) []
theorem ek71 {R:Type} {c:Int→Option (LB)} (hs:Sp71 c):EOk 71 (e71 (R:=R) c):=fun args objs k r h=>by
 unfold e71 at h
 obtain ⟨p0,l0,rfl,q3⟩:=qau h
 obtain ⟨rfl,rfl,q5⟩:=qam q3
 exact qap (hs p0) q5
theorem sf71 {c94:C94} (h94:Sp94 c94):Sp71 (F71 c94):=fun p0 y hy=>by
 refine qaj (qae (ek94 h94) qai) 1000000 (fn:=Tryd.f71) (by kernel_rfl) (by kernel_rfl) (X:=X71) (by kernel_rfl) ?_
 rw [eq71]
 exact (nt71 Ops.std c94 p0 some (K2 k0)).trans (by show ob (F71 c94 p0) _=_;rw [hy];rfl)
noncomputable def M71:Int→Option (LB):=F71 M94
theorem sm71:Sp71 M71:=sf71 sm94
def X40:Aux:=⟨[(3,([0,2]++rg 5 103)),(8,([0,2,4]++rg 7 101)),(15,([0,2,4,6]++rg 8 100))],[(5,.lin (rg 0 11++[15,16,17,18,19,20,25,26,27,28,29,30,11,12,13,14,21,22,23,24,31,32,33,34,35])),(17,.lin ([0,1,2,3,4,8,9,10,11,12,13,5,6,7,14,15,16,17]))]⟩
inductive S40 where
 | l0 (v0:LB) (v1:Int)
 | l1 (v0:LB) (v1:Int) (v2:Int)
 | l2 (v0:LB) (v1:Int) (v2:Int)
abbrev C71:Type:=Int→Option (LB)
abbrev C28:Type:=L3→Int→Option (LB)
def T40 {R:Type} (B:Ops) (c25:C25) (c71:C71) (c28:C28) (p0:Int) (p1:Int) (p2:L22) (again:S40→Option R) (k:(LB)→Option R):Option S40→Option R | none=>again (.l0 (mt UInt8) 0) | some (.l0 v0 v1)=>ob (c25 p1 (2)) fun y0=>cond (B.lt v1 (IntKind.wrap .i64 (2+y0))) (cond (B.lim (List.length v0+4) (1)) (cond (B.inb v1 (3)) (cond (B.lim (List.length (v0++([118,97,114,32]:LB))+List.length (List.getD ((120::mt UInt8)::(121::mt UInt8)::(122::mt UInt8)::mt LB) v1.toNat (mt UInt8))) (1)) (cond (B.lim (List.length (v0++([118,97,114,32]:LB)++List.getD ((120::mt UInt8)::(121::mt UInt8)::(122::mt UInt8)::mt LB) v1.toNat (mt UInt8))+1) (1)) (cond (B.eq (7) (0)) none (cond (B.eq (IntKind.wrap .i64 (2+v1)) (0)) none (cond (B.eq (IntKind.wrap .i64 (5+v1)) (0)) none (ob (c25 (IntKind.wrap .i64 (Int.tdiv p1 (7))) (2)) fun y1=>cond (B.inb y1 (2)) (cond (B.lim (List.length (v0++([118,97,114,32]:LB)++List.getD ((120::mt UInt8)::(121::mt UInt8)::(122::mt UInt8)::mt LB) v1.toNat (mt UInt8)++([32]:LB))+List.length (List.getD (([48]:LB)::([45,49]:LB)::mt LB) y1.toNat (mt UInt8))) (1)) (cond (B.lim (List.length (v0++([118,97,114,32]:LB)++List.getD ((120::mt UInt8)::(121::mt UInt8)::(122::mt UInt8)::mt LB) v1.toNat (mt UInt8)++([32]:LB)++List.getD (([48]:LB)::([45,49]:LB)::mt LB) y1.toNat (mt UInt8))+1) (1)) (ob (c25 (IntKind.wrap .i64 (Int.tdiv p1 (IntKind.wrap .i64 (2+v1)))) (3)) fun y2=>cond (B.inb y2 (3)) (cond (B.lim (List.length (v0++([118,97,114,32]:LB)++List.getD ((120::mt UInt8)::(121::mt UInt8)::(122::mt UInt8)::mt LB) v1.toNat (mt UInt8)++([32]:LB)++List.getD (([48]:LB)::([45,49]:LB)::mt LB) y1.toNat (mt UInt8)++([32]:LB))+List.length (List.getD (([49]:LB)::([50]:LB)::([51]:LB)::mt LB) y2.toNat (mt UInt8))) (1)) (cond (B.lim (List.length (v0++([118,97,114,32]:LB)++List.getD ((120::mt UInt8)::(121::mt UInt8)::(122::mt UInt8)::mt LB) v1.toNat (mt UInt8)++([32]:LB)++List.getD (([48]:LB)::([45,49]:LB)::mt LB) y1.toNat (mt UInt8)++([32]:LB)++List.getD (([49]:LB)::([50]:LB)::([51]:LB)::mt LB) y2.toNat (mt UInt8))+1) (1)) (ob (c25 (IntKind.wrap .i64 (Int.tdiv p1 (IntKind.wrap .i64 (5+v1)))) (2)) fun y3=>cond (B.inb y3 (2)) (cond (B.lim (List.length (v0++([118,97,114,32]:LB)++List.getD ((120::mt UInt8)::(121::mt UInt8)::(122::mt UInt8)::mt LB) v1.toNat (mt UInt8)++([32]:LB)++List.getD (([48]:LB)::([45,49]:LB)::mt LB) y1.toNat (mt UInt8)++([32]:LB)++List.getD (([49]:LB)::([50]:LB)::([51]:LB)::mt LB) y2.toNat (mt UInt8)++([32]:LB))+List.length (List.getD (([48]:LB)::([49]:LB)::mt LB) y3.toNat (mt UInt8))) (1)) (cond (B.lim (List.length (v0++([118,97,114,32]:LB)++List.getD ((120::mt UInt8)::(121::mt UInt8)::(122::mt UInt8)::mt LB) v1.toNat (mt UInt8)++([32]:LB)++List.getD (([48]:LB)::([45,49]:LB)::mt LB) y1.toNat (mt UInt8)++([32]:LB)++List.getD (([49]:LB)::([50]:LB)::([51]:LB)::mt LB) y2.toNat (mt UInt8)++([32]:LB)++List.getD (([48]:LB)::([49]:LB)::mt LB) y3.toNat (mt UInt8))+1) (1)) (again (.l0 (v0++([118,97,114,32]:LB)++List.getD ((120::mt UInt8)::(121::mt UInt8)::(122::mt UInt8)::mt LB) v1.toNat (mt UInt8)++([32]:LB)++List.getD (([48]:LB)::([45,49]:LB)::mt LB) y1.toNat (mt UInt8)++([32]:LB)++List.getD (([49]:LB)::([50]:LB)::([51]:LB)::mt LB) y2.toNat (mt UInt8)++([32]:LB)++List.getD (([48]:LB)::([49]:LB)::mt LB) y3.toNat (mt UInt8)++([10]:LB)) (IntKind.wrap .i64 (v1+1)))) none) none) none) none) none) none) none) none) none)))) none) none) none) none) (ob (c25 p0 (4)) fun y1=>cond (B.eq (3) (0)) none (again (.l1 v0 (IntKind.wrap .i64 (2+IntKind.wrap .i64 (Int.tdiv y1 (3)))) 0))) | some (.l1 v0 v1 v2)=>cond (B.lt v2 v1) (cond (B.lim (List.length v0+5) (1)) (cond (B.inb v2 (3)) (cond (B.lim (List.length (v0++([112,114,111,99,32]:LB))+List.length (List.getD ((112::mt UInt8)::(113::mt UInt8)::(114::mt UInt8)::mt LB) v2.toNat (mt UInt8))) (1)) (cond (B.lim (List.length (v0++([112,114,111,99,32]:LB)++List.getD ((112::mt UInt8)::(113::mt UInt8)::(114::mt UInt8)::mt LB) v2.toNat (mt UInt8))+6) (1)) (cond (B.eq (IntKind.wrap .i64 (2+v2)) (0)) none (ob (c25 (IntKind.wrap .i64 (Int.tdiv p0 (IntKind.wrap .i64 (2+v2)))) (3)) fun y0=>cond (B.eq y0 (0)) (cond (B.lim (List.length (v0++([112,114,111,99,32]:LB)++List.getD ((112::mt UInt8)::(113::mt UInt8)::(114::mt UInt8)::mt LB) v2.toNat (mt UInt8)++([32,97,32,98,32,99]:LB))+2) (1)) (cond (B.lim (List.length (v0++([112,114,111,99,32]:LB)++List.getD ((112::mt UInt8)::(113::mt UInt8)::(114::mt UInt8)::mt LB) v2.toNat (mt UInt8)++([32,97,32,98,32,99]:LB)++([32,100]:LB))+1) (1)) (again (.l1 (v0++([112,114,111,99,32]:LB)++List.getD ((112::mt UInt8)::(113::mt UInt8)::(114::mt UInt8)::mt LB) v2.toNat (mt UInt8)++([32,97,32,98,32,99]:LB)++([32,100]:LB)++([10]:LB)) v1 (IntKind.wrap .i64 (v2+1)))) none) none) (cond (B.lim (List.length (v0++([112,114,111,99,32]:LB)++List.getD ((112::mt UInt8)::(113::mt UInt8)::(114::mt UInt8)::mt LB) v2.toNat (mt UInt8)++([32,97,32,98,32,99]:LB))+1) (1)) (again (.l1 (v0++([112,114,111,99,32]:LB)++List.getD ((112::mt UInt8)::(113::mt UInt8)::(114::mt UInt8)::mt LB) v2.toNat (mt UInt8)++([32,97,32,98,32,99]:LB)++([10]:LB)) v1 (IntKind.wrap .i64 (v2+1)))) none))) none) none) none) none) (again (.l2 v0 v1 0)) | some (.l2 v0 v1 v2)=>cond (B.lt v2 (↑p2.length)) (cond (B.lt v2 (10)) (cond (B.lim (List.length v0+6) (1)) (cond (B.inb v2 p2.length) (ob (c71 (IntKind.wrap .i64 (IntKind.wrap .i64 (3*v2)+1))) fun y0=>cond (B.lim (List.length (v0++([116,114,97,110,115,32]:LB))+List.length y0) (1)) (cond (B.lim (List.length (v0++([116,114,97,110,115,32]:LB)++y0)+1) (1)) (ob (c28 (p2.getD v2.toNat ty22.dflt) v1) fun y1=>cond (B.lim (List.length (v0++([116,114,97,110,115,32]:LB)++y0++([32]:LB))+List.length y1) (1)) (cond (B.lim (List.length (v0++([116,114,97,110,115,32]:LB)++y0++([32]:LB)++y1)+1) (1)) (again (.l2 (v0++([116,114,97,110,115,32]:LB)++y0++([32]:LB)++y1++([10]:LB)) v1 (IntKind.wrap .i64 (v2+1)))) none) none) none) none) none) none) (k v0)) (k v0)
def E40 (p0:Int) (p1:Int) (p2:L22):S40→List AV×Objs
 | .l0 v0 v1=>(mk 108 [(1,.c (.ptr 1 0)),(3,.c (.str v0)),(4,.c (.int .i64 v1))],[(1,.box 35 [.int .i64 p0,.int .i64 p1,.list 22 ty22 p2])])
 | .l1 v0 v1 v2=>(mk 108 [(1,.c (.ptr 1 0)),(3,.c (.str v0)),(5,.c (.int .i64 v1)),(6,.c (.int .i64 v2))],[(1,.box 35 [.int .i64 p0,.int .i64 p1,.list 22 ty22 p2])])
 | .l2 v0 v1 v2=>(mk 108 [(1,.c (.ptr 1 0)),(3,.c (.str v0)),(5,.c (.int .i64 v1)),(7,.c (.int .i64 v2))],[(1,.box 35 [.int .i64 p0,.int .i64 p1,.list 22 ty22 p2])])
def I40:S40→Nat
 | .l0 _ _=>0
 | .l1 _ _ _=>1
 | .l2 _ _ _=>2
theorem eq40 {R:Type} (B:Ops) (c25:C25) (c71:C71) (c28:C28) (p0:Int) (p1:Int) (p2:L22) (k:AV→Objs→Option R) (n:Nat):afun tau B gl0 X40 (ent 25 (e25 c25) (ent 71 (e71 c71) (ent 28 (e28 c28) gnil))) ow Tryd.f40 [.agg [.int .i64 p0,.int .i64 p1,.list 22 ty22 p2]] [] k n=T40 B c25 c71 c28 p0 p1 p2 (fun s=>aloop tau B gl0 X40 (ent 25 (e25 c25) (ent 71 (e71 c71) (ent 28 (e28 c28) gnil))) ow [] Tryd.f40 k (I40 s) (E40 p0 p1 p2 s) n) (K2 k) none:=by kernel_rfl
theorem el40 {R:Type} (B:Ops) (c25:C25) (c71:C71) (c28:C28) (p0:Int) (p1:Int) (p2:L22) (k:AV→Objs→Option R) (n:Nat):∀ s,aloop tau B gl0 X40 (ent 25 (e25 c25) (ent 71 (e71 c71) (ent 28 (e28 c28) gnil))) ow [] Tryd.f40 k (I40 s) (E40 p0 p1 p2 s) (n+1)=T40 B c25 c71 c28 p0 p1 p2 (fun s=>aloop tau B gl0 X40 (ent 25 (e25 c25) (ent 71 (e71 c71) (ent 28 (e28 c28) gnil))) ow [] Tryd.f40 k (I40 s) (E40 p0 p1 p2 s) n) (K2 k) (some s):=by
 intro s
 cases s<;>kernel_rfl
theorem nt40 {R R':Type} (B:Ops) (c25:C25) (c71:C71) (c28:C28) (p0:Int) (p1:Int) (p2:L22) (again:S40→Option R) (again':S40→Option R') (k0:(LB)→Option R') (k:R'→Option R) (h:∀ s,again s=ob (again' s) k):∀ s,T40 B c25 c71 c28 p0 p1 p2 again (fun y=>ob (k0 y) k) s=ob (T40 B c25 c71 c28 p0 p1 p2 again' k0 s) k:=by
 rintro (_ | x)
 all_goals try cases x
 all_goals (unfold T40;repeat' first | exact rfl | exact h _ | apply qaf | (apply qao;intro))
def R40 (c25:C25) (c71:C71) (c28:C28) (p0:Int) (p1:Int) (p2:L22):Nat→S40→Option (LB)
 | 0,_=>none
 | n+1,s=>T40 Ops.std c25 c71 c28 p0 p1 p2 (R40 c25 c71 c28 p0 p1 p2 n) some (some s)
theorem rr40 {R:Type} (c25:C25) (c71:C71) (c28:C28) (p0:Int) (p1:Int) (p2:L22) (k:AV→Objs→Option R):∀ (n:Nat) (s:S40),aloop tau Ops.std gl0 X40 (ent 25 (e25 c25) (ent 71 (e71 c71) (ent 28 (e28 c28) gnil))) ow [] Tryd.f40 k (I40 s) (E40 p0 p1 p2 s) n=ob (R40 c25 c71 c28 p0 p1 p2 n s) (K2 k)
 | 0,s=>by cases s<;>rfl
 | n+1,s=>by rw [el40];exact nt40 Ops.std c25 c71 c28 p0 p1 p2 _ _ some (K2 k) (rr40 c25 c71 c28 p0 p1 p2 k n) (some s)
def F40 (c25:C25) (c71:C71) (c28:C28) (p0:Int) (p1:Int) (p2:L22):Option (LB):=T40 Ops.std c25 c71 c28 p0 p1 p2 (R40 c25 c71 c28 p0 p1 p2 1000000) some none
def e40 {R:Type} (c:Int→Int→L22→Option (LB)):Ent R:=fun args objs k=>
 oCons args fun a0 l0=>oAgg a0 fun x0=>cCons x0 fun z0_0 w0_0=>cInt .i64 z0_0 fun p0=>cCons w0_0 fun z0_1 w0_1=>cInt .i64 z0_1 fun p1=>cCons w0_1 fun z0_2 w0_2=>cList 22 ty22 z0_2 fun p2=>cNil w0_2 <| oE l0 objs <| ob (c p0 p1 p2) (K2 k)
abbrev Sp40 (c:Int→Int→L22→Option (LB)):Prop:=∀ (p0:Int) (p1:Int) (p2:L22) (y:LB),c p0 p1 p2=some y→Spec Tryd.prog gl0 40 [.agg [.int .i64 p0,.int .i64 p1,.list 22 ty22 p2]] [] (.c (.str y)) []
theorem ek40 {R:Type} {c:Int→Int→L22→Option (LB)} (hs:Sp40 c):EOk 40 (e40 (R:=R) c):=fun args objs k r h=>by
 unfold e40 at h
 obtain ⟨a0,l0,rfl,q1⟩:=qal h
 obtain ⟨x0,rfl,q2⟩:=qav q1
 obtain ⟨z0_0,w0_0,rfl,q3⟩:=qab q2
 obtain ⟨p0,rfl,q4⟩:=qaq q3
 obtain ⟨z0_1,w0_1,rfl,q5⟩:=qab q4
 obtain ⟨p1,rfl,q6⟩:=qaq q5
 obtain ⟨z0_2,w0_2,rfl,q7⟩:=qab q6
 obtain ⟨p2,rfl,q8⟩:=qad q7
 obtain ⟨rfl,q9⟩:=qar q8
 obtain ⟨rfl,rfl,q11⟩:=qam q9
 exact qap (hs p0 p1 p2) q11
theorem sf40 {c25:C25} {c71:C71} {c28:C28} (h25:Sp25 c25) (h71:Sp71 c71) (h28:Sp28 c28):Sp40 (F40 c25 c71 c28):=fun p0 p1 p2 y hy=>by
 refine qaj (qae (ek25 h25) (qae (ek71 h71) (qae (ek28 h28) qai))) 1000000 (fn:=Tryd.f40) (by kernel_rfl) (by kernel_rfl) (X:=X40) (by kernel_rfl) ?_
 rw [eq40]
 exact (nt40 Ops.std c25 c71 c28 p0 p1 p2 _ _ some (K2 k0) (rr40 c25 c71 c28 p0 p1 p2 k0 1000000) none).trans (by show ob (F40 c25 c71 c28 p0 p1 p2) _=_;rw [hy];rfl)
noncomputable def M40:Int→Int→L22→Option (LB):=F40 M25 M71 M28
theorem sm40:Sp40 M40:=sf40 sm25 sm71 sm28
def X66:Aux:=⟨[(4,([2,3,4]++rg 8 26))],[]⟩
inductive S66 where
 | l0 (v2:Int) (v3:Int) (v4:L9)
def T66 {R:Type} (B:Ops) (p0:LB) (p1:Int) (again:S66→Option R) (k:(L9)→Option R):Option S66→Option R | none=>again (.l0 0 0 (mt (Ty.den Ty.str))) | some (.l0 v2 v3 v4)=>cond (B.lt v3 (↑p0.length)) (cond (B.inb v3 p0.length) (cond (B.eq (Nat.cast (UInt8.toNat (p0.getD v3.toNat (0)))) p1) (cond (B.inb v3 (List.length p0+1)) (cond (bif B.le (0) v2 then B.le v2 v3 else false) (cond (B.lim (List.length v4+List.length (List.drop v2.toNat (List.take v3.toNat p0)::mt (Ty.den Ty.str))) (16)) (again (.l0 (IntKind.wrap .i64 (v3+1)) (IntKind.wrap .i64 (v3+1)) (v4++List.drop v2.toNat (List.take v3.toNat p0)::mt (Ty.den Ty.str)))) none) none) none) (again (.l0 v2 (IntKind.wrap .i64 (v3+1)) v4))) none) (cond (B.inb v2 (List.length p0+1)) (cond (B.lim (List.length v4+List.length (List.drop v2.toNat (List.take p0.length p0)::mt (Ty.den Ty.str))) (16)) (k (v4++List.drop v2.toNat (List.take p0.length p0)::mt (Ty.den Ty.str))) none) none)
def E66 (p0:LB) (p1:Int):S66→List AV×Objs
 | .l0 v2 v3 v4=>(mk 34 [(0,.c (.str p0)),(1,.c (.int .u8 p1)),(5,.c (.own 5)),(6,.c (.int .i64 v2)),(7,.c (.int .i64 v3))],[(5,.row 9 ty9 v4)])
def I66:S66→Nat
 | .l0 _ _ _=>0
abbrev K18 {R:Type} (k:AV→Objs→Option R) (y:(L9)):Option R:=k (.c (.own 500)) [(500,.row 9 ty9 y)]
theorem eq66 {R:Type} (B:Ops) (p0:LB) (p1:Int) (k:AV→Objs→Option R) (n:Nat):afun tau B gl0 X66 gnil ow Tryd.f66 [.c (.str p0),.c (.int .u8 p1)] [] k n=T66 B p0 p1 (fun s=>aloop tau B gl0 X66 gnil ow [] Tryd.f66 k (I66 s) (E66 p0 p1 s) n) (K18 k) none:=by kernel_rfl
theorem el66 {R:Type} (B:Ops) (p0:LB) (p1:Int) (k:AV→Objs→Option R) (n:Nat):∀ s,aloop tau B gl0 X66 gnil ow [] Tryd.f66 k (I66 s) (E66 p0 p1 s) (n+1)=T66 B p0 p1 (fun s=>aloop tau B gl0 X66 gnil ow [] Tryd.f66 k (I66 s) (E66 p0 p1 s) n) (K18 k) (some s):=by
 intro s
 cases s<;>kernel_rfl
theorem nt66 {R R':Type} (B:Ops) (p0:LB) (p1:Int) (again:S66→Option R) (again':S66→Option R') (k0:(L9)→Option R') (k:R'→Option R) (h:∀ s,again s=ob (again' s) k):∀ s,T66 B p0 p1 again (fun y=>ob (k0 y) k) s=ob (T66 B p0 p1 again' k0 s) k:=by
 rintro (_ | x)
 all_goals try cases x
 all_goals (unfold T66;repeat' first | exact rfl | exact h _ | apply qaf | (apply qao;intro))
def R66 (p0:LB) (p1:Int):Nat→S66→Option (L9)
 | 0,_=>none
 | n+1,s=>T66 Ops.std p0 p1 (R66 p0 p1 n) some (some s)
theorem rr66 {R:Type} (p0:LB) (p1:Int) (k:AV→Objs→Option R):∀ (n:Nat) (s:S66),aloop tau Ops.std gl0 X66 gnil ow [] Tryd.f66 k (I66 s) (E66 p0 p1 s) n=ob (R66 p0 p1 n s) (K18 k)
 | 0,s=>by cases s<;>rfl
 | n+1,s=>by rw [el66];exact nt66 Ops.std p0 p1 _ _ some (K18 k) (rr66 p0 p1 k n) (some s)
def F66 (p0:LB) (p1:Int):Option (L9):=T66 Ops.std p0 p1 (R66 p0 p1 1000000) some none
def e66 {R:Type} (c:LB→Int→Option (L9)):Ent R:=fun args objs k=>
 oS args fun p0 l0=>oI l0 .u8 fun p1 l1=>oE l1 objs <| ob (c p0 p1) (K18 k)
abbrev Sp66 (c:LB→Int→Option (L9)):Prop:=∀ (p0:LB) (p1:Int) (y:L9),c p0 p1=some y→Spec Tryd.prog gl0 66 [.c (.str p0),.c (.int .u8 p1)] [] (.c (.own 500)) [(500,.row 9 ty9 y)]
theorem ek66 {R:Type} {c:LB→Int→Option (L9)} (hs:Sp66 c):EOk 66 (e66 (R:=R) c):=fun args objs k r h=>by
 unfold e66 at h
 obtain ⟨p0,l0,rfl,q3⟩:=qa8 h
 obtain ⟨p1,l1,rfl,q6⟩:=qau q3
 obtain ⟨rfl,rfl,q8⟩:=qam q6
 exact qap (hs p0 p1) q8
theorem sf66:Sp66 (F66):=fun p0 p1 y hy=>by
 refine qaj qai 1000000 (fn:=Tryd.f66) (by kernel_rfl) (by kernel_rfl) (X:=X66) (by kernel_rfl) ?_
 rw [eq66]
 exact (nt66 Ops.std p0 p1 _ _ some (K18 k0) (rr66 p0 p1 k0 1000000) none).trans (by show ob (F66 p0 p1) _=_;rw [hy];rfl)
noncomputable def M66:LB→Int→Option (L9):=F66
theorem sm66:Sp66 M66:=sf66
def X67:Aux:=⟨[(4,([0,1,2]++rg 6 21))],[]⟩
inductive S67 where
 | l0 (v0:Int) (v1:L9) (v2:L9)
abbrev C66:Type:=LB→Int→Option (L9)
def T67 {R:Type} (B:Ops) (c66:C66) (p0:LB) (again:S67→Option R) (k:(L9)→Option R):Option S67→Option R | none=>ob (c66 p0 (32)) fun y0=>again (.l0 0 (mt (Ty.den Ty.str)) y0) | some (.l0 v0 v1 v2)=>cond (B.lt v0 (↑v2.length)) (cond (B.inb v0 v2.length) (cond (!v2.getD v0.toNat ty9.dflt == mt UInt8) (cond (B.inb v0 v2.length) (cond (B.lim (List.length v1+List.length (v2.getD v0.toNat ty9.dflt::mt (Ty.den Ty.str))) (16)) (again (.l0 (IntKind.wrap .i64 (v0+1)) (v1++v2.getD v0.toNat ty9.dflt::mt (Ty.den Ty.str)) v2)) none) none) (again (.l0 (IntKind.wrap .i64 (v0+1)) v1 v2))) none) (k v1)
def E67 (p0:LB):S67→List AV×Objs
 | .l0 v0 v1 v2=>(mk 27 [(3,.c (.own 3)),(4,.c (.own 4)),(5,.c (.int .i64 v0))],[(3,.row 9 ty9 v1),(4,.row 9 ty9 v2)])
def I67:S67→Nat
 | .l0 _ _ _=>0
theorem eq67 {R:Type} (B:Ops) (c66:C66) (p0:LB) (k:AV→Objs→Option R) (n:Nat):afun tau B gl0 X67 (ent 66 (e66 c66) gnil) ow Tryd.f67 [.c (.str p0)] [] k n=T67 B c66 p0 (fun s=>aloop tau B gl0 X67 (ent 66 (e66 c66) gnil) ow [] Tryd.f67 k (I67 s) (E67 p0 s) n) (K18 k) none:=by kernel_rfl
theorem el67 {R:Type} (B:Ops) (c66:C66) (p0:LB) (k:AV→Objs→Option R) (n:Nat):∀ s,aloop tau B gl0 X67 (ent 66 (e66 c66) gnil) ow [] Tryd.f67 k (I67 s) (E67 p0 s) (n+1)=T67 B c66 p0 (fun s=>aloop tau B gl0 X67 (ent 66 (e66 c66) gnil) ow [] Tryd.f67 k (I67 s) (E67 p0 s) n) (K18 k) (some s):=by
 intro s
 cases s<;>kernel_rfl
theorem nt67 {R R':Type} (B:Ops) (c66:C66) (p0:LB) (again:S67→Option R) (again':S67→Option R') (k0:(L9)→Option R') (k:R'→Option R) (h:∀ s,again s=ob (again' s) k):∀ s,T67 B c66 p0 again (fun y=>ob (k0 y) k) s=ob (T67 B c66 p0 again' k0 s) k:=by
 rintro (_ | x)
 all_goals try cases x
 all_goals (unfold T67;repeat' first | exact rfl | exact h _ | apply qaf | (apply qao;intro))
def R67 (c66:C66) (p0:LB):Nat→S67→Option (L9)
 | 0,_=>none
 | n+1,s=>T67 Ops.std c66 p0 (R67 c66 p0 n) some (some s)
theorem rr67 {R:Type} (c66:C66) (p0:LB) (k:AV→Objs→Option R):∀ (n:Nat) (s:S67),aloop tau Ops.std gl0 X67 (ent 66 (e66 c66) gnil) ow [] Tryd.f67 k (I67 s) (E67 p0 s) n=ob (R67 c66 p0 n s) (K18 k)
 | 0,s=>by cases s<;>rfl
 | n+1,s=>by rw [el67];exact nt67 Ops.std c66 p0 _ _ some (K18 k) (rr67 c66 p0 k n) (some s)
def F67 (c66:C66) (p0:LB):Option (L9):=T67 Ops.std c66 p0 (R67 c66 p0 1000000) some none
def e67 {R:Type} (c:LB→Option (L9)):Ent R:=fun args objs k=>
 oS args fun p0 l0=>oE l0 objs <| ob (c p0) (K18 k)
abbrev Sp67 (c:LB→Option (L9)):Prop:=∀ (p0:LB) (y:L9),c p0=some y→Spec Tryd.prog gl0 67 [.c (.str p0)] [] (.c (.own 500)) [(500,.row 9 ty9 y)]
theorem ek67 {R:Type} {c:LB→Option (L9)} (hs:Sp67 c):EOk 67 (e67 (R:=R) c):=fun args objs k r h=>by
 unfold e67 at h
 obtain ⟨p0,l0,rfl,q3⟩:=qa8 h
 obtain ⟨rfl,rfl,q5⟩:=qam q3
 exact qap (hs p0) q5
theorem sf67 {c66:C66} (h66:Sp66 c66):Sp67 (F67 c66):=fun p0 y hy=>by
 refine qaj (qae (ek66 h66) qai) 1000000 (fn:=Tryd.f67) (by kernel_rfl) (by kernel_rfl) (X:=X67) (by kernel_rfl) ?_
 rw [eq67]
 exact (nt67 Ops.std c66 p0 _ _ some (K18 k0) (rr67 c66 p0 k0 1000000) none).trans (by show ob (F67 c66 p0) _=_;rw [hy];rfl)
noncomputable def M67:LB→Option (L9):=F67 M66
theorem sm67:Sp67 M67:=sf67 sm66
def e90 {R:Type} (c:LB→Bool→Option (Int×Bool)):Ent R:=fun args objs k=>
 oS args fun p0 l0=>oCons l0 fun a1 l1=>oC a1 fun x1=>cBool x1 fun p1=>oE l1 objs <| ob (c p0 p1) (K7 k)
abbrev Sp90 (c:LB→Bool→Option (Int×Bool)):Prop:=∀ (p0:LB) (p1:Bool) (y:Int×Bool),c p0 p1=some y→Spec Tryd.prog gl0 90 [.c (.str p0),.c (.bool p1)] [] (.tup [(false,[.int .i64 y.1]),(false,[.bool y.2])]) []
theorem ek90 {R:Type} {c:LB→Bool→Option (Int×Bool)} (hs:Sp90 c):EOk 90 (e90 (R:=R) c):=fun args objs k r h=>by
 unfold e90 at h
 obtain ⟨p0,l0,rfl,q3⟩:=qa8 h
 obtain ⟨a1,l1,rfl,q4⟩:=qal q3
 obtain ⟨x1,rfl,q5⟩:=qa6 q4
 obtain ⟨p1,rfl,q6⟩:=qcw q5
 obtain ⟨rfl,rfl,q8⟩:=qam q6
 exact qap (hs p0 p1) q8
end Go.Proofs.YtfdlgmbbflmbgaaDoor.Av
