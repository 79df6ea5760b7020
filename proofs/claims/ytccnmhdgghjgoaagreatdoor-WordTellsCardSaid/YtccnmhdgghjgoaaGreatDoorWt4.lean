/- Twins of functions,printed by gen.py. Conditions: none. -/
import Derived.Test.YtccnmhdgghjgoaaGreatDoorWt3
import Derived.KernelRfl
set_option linter.unusedSimpArgs false
set_option linter.unusedVariables false
set_option maxRecDepth 100000
set_option maxHeartbeats 8000000
namespace Go.Proofs.YtccnmhdgghjgoaaGreatDoor.Av
open Go
def X142:Aux:=⟨[(1000012,(rg 0 63))],[(1,.lin (rg 0 12))]⟩
inductive S142 where
 | l1012 (v0:L130) (v1 v2 v3:Int) (v4:L66)
def T142 {R:Type} (B:Ops) (c175:C175) (p0:Int) (p1:L130) (p2 p3 p4:Int) (p5:L66) (again:S142→Option R) (k:(Int×L130×Int×Int×Int×L66)→Option R):Option S142→Option R | none=>cond (B.inb p2 p1.length) (cond (B.eq p0 1) (ob (c175 ([45,62]:LB) p1 p2 p3 p4 p5) fun y0=>cond y0.1 (k (7,y0.2.1,y0.2.2.1,y0.2.2.2.1,y0.2.2.2.2.1,y0.2.2.2.2.2)) (cond (B.eq p0 2) (ob (c175 ([124,124]:LB) y0.2.1 y0.2.2.1 y0.2.2.2.1 y0.2.2.2.2.1 y0.2.2.2.2.2) fun y1=>cond y1.1 (k (6,y1.2.1,y1.2.2.1,y1.2.2.2.1,y1.2.2.2.2.1,y1.2.2.2.2.2)) (cond (B.eq p0 3) (ob (c175 ([38,38]:LB) y1.2.1 y1.2.2.1 y1.2.2.2.1 y1.2.2.2.2.1 y1.2.2.2.2.2) fun y2=>cond y2.1 (k (5,y2.2.1,y2.2.2.1,y2.2.2.2.1,y2.2.2.2.2.1,y2.2.2.2.2.2)) (cond (B.eq p0 4) (cond (B.eq (p1.getD p2.toNat ty130.dflt).1 3) (cond (((p1.getD p2.toNat ty130.dflt).2).1 == ([85]:LB)) (k (9,y2.2.1,y2.2.2.1,y2.2.2.2.1,y2.2.2.2.2.1,y2.2.2.2.2.2)) (cond (B.eq p0 4) (cond (B.eq (p1.getD p2.toNat ty130.dflt).1 3) (cond (((p1.getD p2.toNat ty130.dflt).2).1 == ([82]:LB)) (k (10,y2.2.1,y2.2.2.1,y2.2.2.2.1,y2.2.2.2.2.1,y2.2.2.2.2.2)) (again (.l1012 y2.2.1 y2.2.2.1 y2.2.2.2.1 y2.2.2.2.2.1 y2.2.2.2.2.2))) (again (.l1012 y2.2.1 y2.2.2.1 y2.2.2.2.1 y2.2.2.2.2.1 y2.2.2.2.2.2))) (again (.l1012 y2.2.1 y2.2.2.1 y2.2.2.2.1 y2.2.2.2.2.1 y2.2.2.2.2.2)))) (cond (B.eq p0 4) (cond (B.eq (p1.getD p2.toNat ty130.dflt).1 3) (cond (((p1.getD p2.toNat ty130.dflt).2).1 == ([82]:LB)) (k (10,y2.2.1,y2.2.2.1,y2.2.2.2.1,y2.2.2.2.2.1,y2.2.2.2.2.2)) (again (.l1012 y2.2.1 y2.2.2.1 y2.2.2.2.1 y2.2.2.2.2.1 y2.2.2.2.2.2))) (again (.l1012 y2.2.1 y2.2.2.1 y2.2.2.2.1 y2.2.2.2.2.1 y2.2.2.2.2.2))) (again (.l1012 y2.2.1 y2.2.2.1 y2.2.2.2.1 y2.2.2.2.2.1 y2.2.2.2.2.2)))) (cond (B.eq p0 4) (cond (B.eq (p1.getD p2.toNat ty130.dflt).1 3) (cond (((p1.getD p2.toNat ty130.dflt).2).1 == ([82]:LB)) (k (10,y2.2.1,y2.2.2.1,y2.2.2.2.1,y2.2.2.2.2.1,y2.2.2.2.2.2)) (again (.l1012 y2.2.1 y2.2.2.1 y2.2.2.2.1 y2.2.2.2.2.1 y2.2.2.2.2.2))) (again (.l1012 y2.2.1 y2.2.2.1 y2.2.2.2.1 y2.2.2.2.2.1 y2.2.2.2.2.2))) (again (.l1012 y2.2.1 y2.2.2.1 y2.2.2.2.1 y2.2.2.2.2.1 y2.2.2.2.2.2))))) (cond (B.eq p0 4) (cond (B.eq (p1.getD p2.toNat ty130.dflt).1 3) (cond (((p1.getD p2.toNat ty130.dflt).2).1 == ([85]:LB)) (k (9,y1.2.1,y1.2.2.1,y1.2.2.2.1,y1.2.2.2.2.1,y1.2.2.2.2.2)) (cond (B.eq p0 4) (cond (B.eq (p1.getD p2.toNat ty130.dflt).1 3) (cond (((p1.getD p2.toNat ty130.dflt).2).1 == ([82]:LB)) (k (10,y1.2.1,y1.2.2.1,y1.2.2.2.1,y1.2.2.2.2.1,y1.2.2.2.2.2)) (again (.l1012 y1.2.1 y1.2.2.1 y1.2.2.2.1 y1.2.2.2.2.1 y1.2.2.2.2.2))) (again (.l1012 y1.2.1 y1.2.2.1 y1.2.2.2.1 y1.2.2.2.2.1 y1.2.2.2.2.2))) (again (.l1012 y1.2.1 y1.2.2.1 y1.2.2.2.1 y1.2.2.2.2.1 y1.2.2.2.2.2)))) (cond (B.eq p0 4) (cond (B.eq (p1.getD p2.toNat ty130.dflt).1 3) (cond (((p1.getD p2.toNat ty130.dflt).2).1 == ([82]:LB)) (k (10,y1.2.1,y1.2.2.1,y1.2.2.2.1,y1.2.2.2.2.1,y1.2.2.2.2.2)) (again (.l1012 y1.2.1 y1.2.2.1 y1.2.2.2.1 y1.2.2.2.2.1 y1.2.2.2.2.2))) (again (.l1012 y1.2.1 y1.2.2.1 y1.2.2.2.1 y1.2.2.2.2.1 y1.2.2.2.2.2))) (again (.l1012 y1.2.1 y1.2.2.1 y1.2.2.2.1 y1.2.2.2.2.1 y1.2.2.2.2.2)))) (cond (B.eq p0 4) (cond (B.eq (p1.getD p2.toNat ty130.dflt).1 3) (cond (((p1.getD p2.toNat ty130.dflt).2).1 == ([82]:LB)) (k (10,y1.2.1,y1.2.2.1,y1.2.2.2.1,y1.2.2.2.2.1,y1.2.2.2.2.2)) (again (.l1012 y1.2.1 y1.2.2.1 y1.2.2.2.1 y1.2.2.2.2.1 y1.2.2.2.2.2))) (again (.l1012 y1.2.1 y1.2.2.1 y1.2.2.2.1 y1.2.2.2.2.1 y1.2.2.2.2.2))) (again (.l1012 y1.2.1 y1.2.2.1 y1.2.2.2.1 y1.2.2.2.2.1 y1.2.2.2.2.2)))))) (cond (B.eq p0 3) (ob (c175 ([38,38]:LB) y0.2.1 y0.2.2.1 y0.2.2.2.1 y0.2.2.2.2.1 y0.2.2.2.2.2) fun y1=>cond y1.1 (k (5,y1.2.1,y1.2.2.1,y1.2.2.2.1,y1.2.2.2.2.1,y1.2.2.2.2.2)) (cond (B.eq p0 4) (cond (B.eq (p1.getD p2.toNat ty130.dflt).1 3) (cond (((p1.getD p2.toNat ty130.dflt).2).1 == ([85]:LB)) (k (9,y1.2.1,y1.2.2.1,y1.2.2.2.1,y1.2.2.2.2.1,y1.2.2.2.2.2)) (cond (B.eq p0 4) (cond (B.eq (p1.getD p2.toNat ty130.dflt).1 3) (cond (((p1.getD p2.toNat ty130.dflt).2).1 == ([82]:LB)) (k (10,y1.2.1,y1.2.2.1,y1.2.2.2.1,y1.2.2.2.2.1,y1.2.2.2.2.2)) (again (.l1012 y1.2.1 y1.2.2.1 y1.2.2.2.1 y1.2.2.2.2.1 y1.2.2.2.2.2))) (again (.l1012 y1.2.1 y1.2.2.1 y1.2.2.2.1 y1.2.2.2.2.1 y1.2.2.2.2.2))) (again (.l1012 y1.2.1 y1.2.2.1 y1.2.2.2.1 y1.2.2.2.2.1 y1.2.2.2.2.2)))) (cond (B.eq p0 4) (cond (B.eq (p1.getD p2.toNat ty130.dflt).1 3) (cond (((p1.getD p2.toNat ty130.dflt).2).1 == ([82]:LB)) (k (10,y1.2.1,y1.2.2.1,y1.2.2.2.1,y1.2.2.2.2.1,y1.2.2.2.2.2)) (again (.l1012 y1.2.1 y1.2.2.1 y1.2.2.2.1 y1.2.2.2.2.1 y1.2.2.2.2.2))) (again (.l1012 y1.2.1 y1.2.2.1 y1.2.2.2.1 y1.2.2.2.2.1 y1.2.2.2.2.2))) (again (.l1012 y1.2.1 y1.2.2.1 y1.2.2.2.1 y1.2.2.2.2.1 y1.2.2.2.2.2)))) (cond (B.eq p0 4) (cond (B.eq (p1.getD p2.toNat ty130.dflt).1 3) (cond (((p1.getD p2.toNat ty130.dflt).2).1 == ([82]:LB)) (k (10,y1.2.1,y1.2.2.1,y1.2.2.2.1,y1.2.2.2.2.1,y1.2.2.2.2.2)) (again (.l1012 y1.2.1 y1.2.2.1 y1.2.2.2.1 y1.2.2.2.2.1 y1.2.2.2.2.2))) (again (.l1012 y1.2.1 y1.2.2.1 y1.2.2.2.1 y1.2.2.2.2.1 y1.2.2.2.2.2))) (again (.l1012 y1.2.1 y1.2.2.1 y1.2.2.2.1 y1.2.2.2.2.1 y1.2.2.2.2.2))))) (cond (B.eq p0 4) (cond (B.eq (p1.getD p2.toNat ty130.dflt).1 3) (cond (((p1.getD p2.toNat ty130.dflt).2).1 == ([85]:LB)) (k (9,y0.2.1,y0.2.2.1,y0.2.2.2.1,y0.2.2.2.2.1,y0.2.2.2.2.2)) (cond (B.eq p0 4) (cond (B.eq (p1.getD p2.toNat ty130.dflt).1 3) (cond (((p1.getD p2.toNat ty130.dflt).2).1 == ([82]:LB)) (k (10,y0.2.1,y0.2.2.1,y0.2.2.2.1,y0.2.2.2.2.1,y0.2.2.2.2.2)) (again (.l1012 y0.2.1 y0.2.2.1 y0.2.2.2.1 y0.2.2.2.2.1 y0.2.2.2.2.2))) (again (.l1012 y0.2.1 y0.2.2.1 y0.2.2.2.1 y0.2.2.2.2.1 y0.2.2.2.2.2))) (again (.l1012 y0.2.1 y0.2.2.1 y0.2.2.2.1 y0.2.2.2.2.1 y0.2.2.2.2.2)))) (cond (B.eq p0 4) (cond (B.eq (p1.getD p2.toNat ty130.dflt).1 3) (cond (((p1.getD p2.toNat ty130.dflt).2).1 == ([82]:LB)) (k (10,y0.2.1,y0.2.2.1,y0.2.2.2.1,y0.2.2.2.2.1,y0.2.2.2.2.2)) (again (.l1012 y0.2.1 y0.2.2.1 y0.2.2.2.1 y0.2.2.2.2.1 y0.2.2.2.2.2))) (again (.l1012 y0.2.1 y0.2.2.1 y0.2.2.2.1 y0.2.2.2.2.1 y0.2.2.2.2.2))) (again (.l1012 y0.2.1 y0.2.2.1 y0.2.2.2.1 y0.2.2.2.2.1 y0.2.2.2.2.2)))) (cond (B.eq p0 4) (cond (B.eq (p1.getD p2.toNat ty130.dflt).1 3) (cond (((p1.getD p2.toNat ty130.dflt).2).1 == ([82]:LB)) (k (10,y0.2.1,y0.2.2.1,y0.2.2.2.1,y0.2.2.2.2.1,y0.2.2.2.2.2)) (again (.l1012 y0.2.1 y0.2.2.1 y0.2.2.2.1 y0.2.2.2.2.1 y0.2.2.2.2.2))) (again (.l1012 y0.2.1 y0.2.2.1 y0.2.2.2.1 y0.2.2.2.2.1 y0.2.2.2.2.2))) (again (.l1012 y0.2.1 y0.2.2.1 y0.2.2.2.1 y0.2.2.2.2.1 y0.2.2.2.2.2))))))) (cond (B.eq p0 2) (ob (c175 ([124,124]:LB) p1 p2 p3 p4 p5) fun y0=>cond y0.1 (k (6,y0.2.1,y0.2.2.1,y0.2.2.2.1,y0.2.2.2.2.1,y0.2.2.2.2.2)) (cond (B.eq p0 3) (ob (c175 ([38,38]:LB) y0.2.1 y0.2.2.1 y0.2.2.2.1 y0.2.2.2.2.1 y0.2.2.2.2.2) fun y1=>cond y1.1 (k (5,y1.2.1,y1.2.2.1,y1.2.2.2.1,y1.2.2.2.2.1,y1.2.2.2.2.2)) (cond (B.eq p0 4) (cond (B.eq (p1.getD p2.toNat ty130.dflt).1 3) (cond (((p1.getD p2.toNat ty130.dflt).2).1 == ([85]:LB)) (k (9,y1.2.1,y1.2.2.1,y1.2.2.2.1,y1.2.2.2.2.1,y1.2.2.2.2.2)) (cond (B.eq p0 4) (cond (B.eq (p1.getD p2.toNat ty130.dflt).1 3) (cond (((p1.getD p2.toNat ty130.dflt).2).1 == ([82]:LB)) (k (10,y1.2.1,y1.2.2.1,y1.2.2.2.1,y1.2.2.2.2.1,y1.2.2.2.2.2)) (again (.l1012 y1.2.1 y1.2.2.1 y1.2.2.2.1 y1.2.2.2.2.1 y1.2.2.2.2.2))) (again (.l1012 y1.2.1 y1.2.2.1 y1.2.2.2.1 y1.2.2.2.2.1 y1.2.2.2.2.2))) (again (.l1012 y1.2.1 y1.2.2.1 y1.2.2.2.1 y1.2.2.2.2.1 y1.2.2.2.2.2)))) (cond (B.eq p0 4) (cond (B.eq (p1.getD p2.toNat ty130.dflt).1 3) (cond (((p1.getD p2.toNat ty130.dflt).2).1 == ([82]:LB)) (k (10,y1.2.1,y1.2.2.1,y1.2.2.2.1,y1.2.2.2.2.1,y1.2.2.2.2.2)) (again (.l1012 y1.2.1 y1.2.2.1 y1.2.2.2.1 y1.2.2.2.2.1 y1.2.2.2.2.2))) (again (.l1012 y1.2.1 y1.2.2.1 y1.2.2.2.1 y1.2.2.2.2.1 y1.2.2.2.2.2))) (again (.l1012 y1.2.1 y1.2.2.1 y1.2.2.2.1 y1.2.2.2.2.1 y1.2.2.2.2.2)))) (cond (B.eq p0 4) (cond (B.eq (p1.getD p2.toNat ty130.dflt).1 3) (cond (((p1.getD p2.toNat ty130.dflt).2).1 == ([82]:LB)) (k (10,y1.2.1,y1.2.2.1,y1.2.2.2.1,y1.2.2.2.2.1,y1.2.2.2.2.2)) (again (.l1012 y1.2.1 y1.2.2.1 y1.2.2.2.1 y1.2.2.2.2.1 y1.2.2.2.2.2))) (again (.l1012 y1.2.1 y1.2.2.1 y1.2.2.2.1 y1.2.2.2.2.1 y1.2.2.2.2.2))) (again (.l1012 y1.2.1 y1.2.2.1 y1.2.2.2.1 y1.2.2.2.2.1 y1.2.2.2.2.2))))) (cond (B.eq p0 4) (cond (B.eq (p1.getD p2.toNat ty130.dflt).1 3) (cond (((p1.getD p2.toNat ty130.dflt).2).1 == ([85]:LB)) (k (9,y0.2.1,y0.2.2.1,y0.2.2.2.1,y0.2.2.2.2.1,y0.2.2.2.2.2)) (cond (B.eq p0 4) (cond (B.eq (p1.getD p2.toNat ty130.dflt).1 3) (cond (((p1.getD p2.toNat ty130.dflt).2).1 == ([82]:LB)) (k (10,y0.2.1,y0.2.2.1,y0.2.2.2.1,y0.2.2.2.2.1,y0.2.2.2.2.2)) (again (.l1012 y0.2.1 y0.2.2.1 y0.2.2.2.1 y0.2.2.2.2.1 y0.2.2.2.2.2))) (again (.l1012 y0.2.1 y0.2.2.1 y0.2.2.2.1 y0.2.2.2.2.1 y0.2.2.2.2.2))) (again (.l1012 y0.2.1 y0.2.2.1 y0.2.2.2.1 y0.2.2.2.2.1 y0.2.2.2.2.2)))) (cond (B.eq p0 4) (cond (B.eq (p1.getD p2.toNat ty130.dflt).1 3) (cond (((p1.getD p2.toNat ty130.dflt).2).1 == ([82]:LB)) (k (10,y0.2.1,y0.2.2.1,y0.2.2.2.1,y0.2.2.2.2.1,y0.2.2.2.2.2)) (again (.l1012 y0.2.1 y0.2.2.1 y0.2.2.2.1 y0.2.2.2.2.1 y0.2.2.2.2.2))) (again (.l1012 y0.2.1 y0.2.2.1 y0.2.2.2.1 y0.2.2.2.2.1 y0.2.2.2.2.2))) (again (.l1012 y0.2.1 y0.2.2.1 y0.2.2.2.1 y0.2.2.2.2.1 y0.2.2.2.2.2)))) (cond (B.eq p0 4) (cond (B.eq (p1.getD p2.toNat ty130.dflt).1 3) (cond (((p1.getD p2.toNat ty130.dflt).2).1 == ([82]:LB)) (k (10,y0.2.1,y0.2.2.1,y0.2.2.2.1,y0.2.2.2.2.1,y0.2.2.2.2.2)) (again (.l1012 y0.2.1 y0.2.2.1 y0.2.2.2.1 y0.2.2.2.2.1 y0.2.2.2.2.2))) (again (.l1012 y0.2.1 y0.2.2.1 y0.2.2.2.1 y0.2.2.2.2.1 y0.2.2.2.2.2))) (again (.l1012 y0.2.1 y0.2.2.1 y0.2.2.2.1 y0.2.2.2.2.1 y0.2.2.2.2.2)))))) (cond (B.eq p0 3) (ob (c175 ([38,38]:LB) p1 p2 p3 p4 p5) fun y0=>cond y0.1 (k (5,y0.2.1,y0.2.2.1,y0.2.2.2.1,y0.2.2.2.2.1,y0.2.2.2.2.2)) (cond (B.eq p0 4) (cond (B.eq (p1.getD p2.toNat ty130.dflt).1 3) (cond (((p1.getD p2.toNat ty130.dflt).2).1 == ([85]:LB)) (k (9,y0.2.1,y0.2.2.1,y0.2.2.2.1,y0.2.2.2.2.1,y0.2.2.2.2.2)) (cond (B.eq p0 4) (cond (B.eq (p1.getD p2.toNat ty130.dflt).1 3) (cond (((p1.getD p2.toNat ty130.dflt).2).1 == ([82]:LB)) (k (10,y0.2.1,y0.2.2.1,y0.2.2.2.1,y0.2.2.2.2.1,y0.2.2.2.2.2)) (again (.l1012 y0.2.1 y0.2.2.1 y0.2.2.2.1 y0.2.2.2.2.1 y0.2.2.2.2.2))) (again (.l1012 y0.2.1 y0.2.2.1 y0.2.2.2.1 y0.2.2.2.2.1 y0.2.2.2.2.2))) (again (.l1012 y0.2.1 y0.2.2.1 y0.2.2.2.1 y0.2.2.2.2.1 y0.2.2.2.2.2)))) (cond (B.eq p0 4) (cond (B.eq (p1.getD p2.toNat ty130.dflt).1 3) (cond (((p1.getD p2.toNat ty130.dflt).2).1 == ([82]:LB)) (k (10,y0.2.1,y0.2.2.1,y0.2.2.2.1,y0.2.2.2.2.1,y0.2.2.2.2.2)) (again (.l1012 y0.2.1 y0.2.2.1 y0.2.2.2.1 y0.2.2.2.2.1 y0.2.2.2.2.2))) (again (.l1012 y0.2.1 y0.2.2.1 y0.2.2.2.1 y0.2.2.2.2.1 y0.2.2.2.2.2))) (again (.l1012 y0.2.1 y0.2.2.1 y0.2.2.2.1 y0.2.2.2.2.1 y0.2.2.2.2.2)))) (cond (B.eq p0 4) (cond (B.eq (p1.getD p2.toNat ty130.dflt).1 3) (cond (((p1.getD p2.toNat ty130.dflt).2).1 == ([82]:LB)) (k (10,y0.2.1,y0.2.2.1,y0.2.2.2.1,y0.2.2.2.2.1,y0.2.2.2.2.2)) (again (.l1012 y0.2.1 y0.2.2.1 y0.2.2.2.1 y0.2.2.2.2.1 y0.2.2.2.2.2))) (again (.l1012 y0.2.1 y0.2.2.1 y0.2.2.2.1 y0.2.2.2.2.1 y0.2.2.2.2.2))) (again (.l1012 y0.2.1 y0.2.2.1 y0.2.2.2.1 y0.2.2.2.2.1 y0.2.2.2.2.2))))) (cond (B.eq p0 4) (cond (B.eq (p1.getD p2.toNat ty130.dflt).1 3) (cond (((p1.getD p2.toNat ty130.dflt).2).1 == ([85]:LB)) (k (9,p1,p2,p3,p4,p5)) (cond (B.eq p0 4) (cond (B.eq (p1.getD p2.toNat ty130.dflt).1 3) (cond (((p1.getD p2.toNat ty130.dflt).2).1 == ([82]:LB)) (k (10,p1,p2,p3,p4,p5)) (again (.l1012 p1 p2 p3 p4 p5))) (again (.l1012 p1 p2 p3 p4 p5))) (again (.l1012 p1 p2 p3 p4 p5)))) (cond (B.eq p0 4) (cond (B.eq (p1.getD p2.toNat ty130.dflt).1 3) (cond (((p1.getD p2.toNat ty130.dflt).2).1 == ([82]:LB)) (k (10,p1,p2,p3,p4,p5)) (again (.l1012 p1 p2 p3 p4 p5))) (again (.l1012 p1 p2 p3 p4 p5))) (again (.l1012 p1 p2 p3 p4 p5)))) (cond (B.eq p0 4) (cond (B.eq (p1.getD p2.toNat ty130.dflt).1 3) (cond (((p1.getD p2.toNat ty130.dflt).2).1 == ([82]:LB)) (k (10,p1,p2,p3,p4,p5)) (again (.l1012 p1 p2 p3 p4 p5))) (again (.l1012 p1 p2 p3 p4 p5))) (again (.l1012 p1 p2 p3 p4 p5))))))) none | some (.l1012 v0 v1 v2 v3 v4)=>k (0,v0,v1,v2,v3,v4)
def E142 (p0:Int) (p1:L130) (p2 p3 p4:Int) (p5:L66):S142→List AV×Objs
 | .l1012 v0 v1 v2 v3 v4=>(mk 63 [],[(0,.box 127 [.list 130 ty130 v0,.int .i64 v1,.own 1002,.int .i64 v2,.int .i64 v3]),(1002,.row 66 ty66 v4)])
def I142:S142→Nat
 | .l1012 _ _ _ _ _=>1012
abbrev K31 {R:Type} (k:AV→Objs→Option R) (y:(Int×L130×Int×Int×Int×L66)):Option R:=k (.c (.int .i64 y.1)) [(0,.box 127 [.list 130 ty130 y.2.1,.int .i64 y.2.2.1,.own 1002,.int .i64 y.2.2.2.1,.int .i64 y.2.2.2.2.1]),(1002,.row 66 ty66 y.2.2.2.2.2)]
noncomputable abbrev A142 {R:Type} (B:Ops) (c175:C175) (p0:Int) (p1:L130) (p2 p3 p4:Int) (p5:L66) (k:AV→Objs→Option R) (s:S142) (n:Nat):Option R:=aloop tau B gl0 X142 (ent 175 (e175 c175) gnil) ow [0] Tryz.f142 k (I142 s) (E142 p0 p1 p2 p3 p4 p5 s) n
theorem eq142 {R:Type} (B:Ops) (c175:C175) (p0:Int) (p1:L130) (p2 p3 p4:Int) (p5:L66) (k:AV→Objs→Option R) (n:Nat):afun tau B gl0 X142 (ent 175 (e175 c175) gnil) ow Tryz.f142 [.c (.ptr 0 0),.c (.int .i64 p0)] [(0,.box 127 [.list 130 ty130 p1,.int .i64 p2,.own 1002,.int .i64 p3,.int .i64 p4]),(1002,.row 66 ty66 p5)] k n=T142 B c175 p0 p1 p2 p3 p4 p5 (fun s=>A142 B c175 p0 p1 p2 p3 p4 p5 k s n) (K31 k) none:=by kernel_rfl
theorem el142 {R:Type} (B:Ops) (c175:C175) (p0:Int) (p1:L130) (p2 p3 p4:Int) (p5:L66) (k:AV→Objs→Option R) (n:Nat):∀ s,A142 B c175 p0 p1 p2 p3 p4 p5 k s (n+1)=T142 B c175 p0 p1 p2 p3 p4 p5 (fun s=>A142 B c175 p0 p1 p2 p3 p4 p5 k s n) (K31 k) (some s):=by
 intro s
 cases s<;>kernel_rfl
theorem nt142 {R R':Type} (B:Ops) (c175:C175) (p0:Int) (p1:L130) (p2 p3 p4:Int) (p5:L66) (again:S142→Option R) (again':S142→Option R') (k0:(Int×L130×Int×Int×Int×L66)→Option R') (k:R'→Option R) (h:∀ s,again s=ob (again' s) k):∀ s,T142 B c175 p0 p1 p2 p3 p4 p5 again (fun y=>ob (k0 y) k) s=ob (T142 B c175 p0 p1 p2 p3 p4 p5 again' k0 s) k:=by
 rintro (_ | x)
 all_goals try cases x
 all_goals (unfold T142;repeat' first | exact rfl | exact h _ | apply qad | (apply qaj;intro))
def R142 (c175:C175) (p0:Int) (p1:L130) (p2 p3 p4:Int) (p5:L66):Nat→S142→Option (Int×L130×Int×Int×Int×L66)
 | 0,_=>none
 | n+1,s=>T142 Ops.std c175 p0 p1 p2 p3 p4 p5 (R142 c175 p0 p1 p2 p3 p4 p5 n) some (some s)
theorem rr142 {R:Type} (c175:C175) (p0:Int) (p1:L130) (p2 p3 p4:Int) (p5:L66) (k:AV→Objs→Option R):∀ (n:Nat) (s:S142),A142 Ops.std c175 p0 p1 p2 p3 p4 p5 k s n=ob (R142 c175 p0 p1 p2 p3 p4 p5 n s) (K31 k)
 | 0,s=>by cases s<;>rfl
 | n+1,s=>by rw [el142];exact nt142 Ops.std c175 p0 p1 p2 p3 p4 p5 _ _ some (K31 k) (rr142 c175 p0 p1 p2 p3 p4 p5 k n) (some s)
def F142 (c175:C175) (p0:Int) (p1:L130) (p2 p3 p4:Int) (p5:L66):Option (Int×L130×Int×Int×Int×L66):=T142 Ops.std c175 p0 p1 p2 p3 p4 p5 (R142 c175 p0 p1 p2 p3 p4 p5 1000000) some none
abbrev C142:Type:=Int→L130→Int→Int→Int→L66→Option (Int×L130×Int×Int×Int×L66)
def e142 {R:Type} (c:C142):Ent R:=eG [.aC (.cP 0),.aC (.cI .i64)] [.oB 0 127 [.cL 130 ty130,.cI .i64,.cO 1002,.cI .i64,.cI .i64],.oR 1002 66 ty66] fun v k=>ob (c v.1 v.2.1 v.2.2.1 v.2.2.2.1 v.2.2.2.2.1 v.2.2.2.2.2.1) (K31 k)
abbrev Sp142 (c:C142):Prop:=∀ (p0:Int) (p1:L130) (p2 p3 p4:Int) (p5:L66) (y:Int×L130×Int×Int×Int×L66),c p0 p1 p2 p3 p4 p5=some y→Spec Tryz.prog gl0 142 [.c (.ptr 0 0),.c (.int .i64 p0)] [(0,.box 127 [.list 130 ty130 p1,.int .i64 p2,.own 1002,.int .i64 p3,.int .i64 p4]),(1002,.row 66 ty66 p5)] (.c (.int .i64 y.1)) [(0,.box 127 [.list 130 ty130 y.2.1,.int .i64 y.2.2.1,.own 1002,.int .i64 y.2.2.2.1,.int .i64 y.2.2.2.2.1]),(1002,.row 66 ty66 y.2.2.2.2.2)]
theorem ek142 {R:Type} {c:C142} (hs:Sp142 c):EOk 142 (e142 (R:=R) c):=qal fun v=>hs v.1 v.2.1 v.2.2.1 v.2.2.2.1 v.2.2.2.2.1 v.2.2.2.2.2.1
theorem sf142 {c175:C175} (h175:Sp175 c175):Sp142 (F142 c175):=fun p0 p1 p2 p3 p4 p5 y hy=>by
 refine qai (qac (ek175 h175) qah) 1000000 (fn:=Tryz.f142) (by kernel_rfl) (by kernel_rfl) (X:=X142) (by kernel_rfl) ?_
 rw [eq142]
 exact (nt142 Ops.std c175 p0 p1 p2 p3 p4 p5 _ _ some (K31 k0) (rr142 c175 p0 p1 p2 p3 p4 p5 k0 1000000) none).trans (by show ob (F142 c175 p0 p1 p2 p3 p4 p5) _=_;rw [hy];rfl)
noncomputable def M142:C142:=F142 M175
theorem sm142:Sp142 M142:=sf142 sm175
def X66:Aux:=⟨[(3,([5,6,7,8,9,10]++rg 13 195)),(7,([5,6,7,8,9,10,12]++rg 14 194)),(10,([5,6,7,8,9,10,12]++rg 15 193)),(1000004,([5,6,7,8,9,10]++rg 13 195)),(1000015,([5,6,7,8,9,10,12]++rg 16 192)),(1000011,([5,6,7,8,9,10,12]++rg 15 193)),(1000008,([5,6,7,8,9,10,12]++rg 14 194))],[]⟩
inductive S66 where
 | l0 (v5:Int) (v6:L4)
 | l1 (v5:Int) (v6:L4)
 | l2 (v5 v6:Int) (v7:L4)
 | l1004 (v5:Int) (v6:L4)
 | l1008 (v5:Int) (v6:L4)
 | l1011 (v5 v6:Int) (v7:L4)
 | l1015 (v5 v6 v7:Int) (v8:L4)
def T66 {R:Type} (B:Ops) (p0:Int) (p1 p2:L4) (p3 p4:Int) (again:S66→Option R) (k:(L4)→Option R):Option S66→Option R | none=>cond (bif B.eq p3 p3 then bif B.le 0 p3 then B.lim p3.toNat 1 else false else false) (again (.l0 0 (List.replicate p3.toNat (Ty.dflt Ty.bool)))) none | some (.l0 v5 v6)=>cond (B.lt v5 p3) (cond (B.eq p0 10) (cond (B.inb v5 v6.length) (again (.l1004 v5 (List.set v6 v5.toNat true))) none) (cond (B.eq p0 12) (cond (B.inb v5 v6.length) (again (.l1004 v5 (List.set v6 v5.toNat true))) none) (cond (B.inb v5 v6.length) (again (.l1004 v5 (List.set v6 v5.toNat (B.eq p0 1)))) none))) (again (.l1 0 v6)) | some (.l1 v5 v6)=>cond (B.le v5 (IntKind.wrap .i64 (p3+1))) (again (.l2 v5 (IntKind.wrap .i64 (p3-1)) v6)) (k v6) | some (.l2 v5 v6 v7)=>cond (B.le 0 v6) (cond (B.eq (IntKind.wrap .i64 (v6+1)) p3) (again (.l1015 v5 v6 p4 v7)) (again (.l1015 v5 v6 (IntKind.wrap .i64 (v6+1)) v7))) (cond (!B.eq p0 9) (cond (!B.eq p0 10) (cond (!B.eq p0 11) (cond (!B.eq p0 12) (k v7) (again (.l1008 v5 v7))) (again (.l1008 v5 v7))) (again (.l1008 v5 v7))) (again (.l1008 v5 v7))) | some (.l1004 v5 v6)=>again (.l0 (IntKind.wrap .i64 (v5+1)) v6) | some (.l1008 v5 v6)=>again (.l1 (IntKind.wrap .i64 (v5+1)) v6) | some (.l1011 v5 v6 v7)=>again (.l2 v5 (IntKind.wrap .i64 (v6-1)) v7) | some (.l1015 v5 v6 v7 v8)=>cond (B.eq p0 4) (cond (B.inb v6 p1.length) (cond (B.inb v6 v8.length) (again (.l1011 v5 v6 (List.set v8 v6.toNat !p1.getD v6.toNat ty4.dflt))) none) none) (cond (B.eq p0 5) (cond (B.inb v6 p1.length) (cond (p1.getD v6.toNat ty4.dflt) (cond (B.inb v6 p2.length) (cond (B.inb v6 v8.length) (again (.l1011 v5 v6 (List.set v8 v6.toNat (p2.getD v6.toNat ty4.dflt)))) none) none) (cond (B.inb v6 v8.length) (again (.l1011 v5 v6 (List.set v8 v6.toNat false))) none)) none) (cond (B.eq p0 6) (cond (B.inb v6 p1.length) (cond (p1.getD v6.toNat ty4.dflt) (cond (B.inb v6 v8.length) (again (.l1011 v5 v6 (List.set v8 v6.toNat true))) none) (cond (B.inb v6 p2.length) (cond (B.inb v6 v8.length) (again (.l1011 v5 v6 (List.set v8 v6.toNat (p2.getD v6.toNat ty4.dflt)))) none) none)) none) (cond (B.eq p0 7) (cond (B.inb v6 p1.length) (cond (!p1.getD v6.toNat ty4.dflt) (cond (B.inb v6 v8.length) (again (.l1011 v5 v6 (List.set v8 v6.toNat true))) none) (cond (B.inb v6 p2.length) (cond (B.inb v6 v8.length) (again (.l1011 v5 v6 (List.set v8 v6.toNat (p2.getD v6.toNat ty4.dflt)))) none) none)) none) (cond (B.eq p0 8) (cond (B.inb v7 p1.length) (cond (B.inb v6 v8.length) (again (.l1011 v5 v6 (List.set v8 v6.toNat (p1.getD v7.toNat ty4.dflt)))) none) none) (cond (B.eq p0 9) (cond (B.inb v6 p2.length) (cond (p2.getD v6.toNat ty4.dflt) (cond (B.inb v6 v8.length) (again (.l1011 v5 v6 (List.set v8 v6.toNat true))) none) (cond (B.inb v6 p1.length) (cond (p1.getD v6.toNat ty4.dflt) (cond (B.inb v7 v8.length) (cond (B.inb v6 v8.length) (again (.l1011 v5 v6 (List.set v8 v6.toNat (v8.getD v7.toNat ty4.dflt)))) none) none) (cond (B.inb v6 v8.length) (again (.l1011 v5 v6 (List.set v8 v6.toNat false))) none)) none)) none) (cond (B.eq p0 10) (cond (B.inb v6 p2.length) (cond (p2.getD v6.toNat ty4.dflt) (cond (B.inb v6 p1.length) (cond (p1.getD v6.toNat ty4.dflt) (cond (B.inb v6 v8.length) (again (.l1011 v5 v6 (List.set v8 v6.toNat true))) none) (cond (B.inb v7 v8.length) (cond (B.inb v6 v8.length) (again (.l1011 v5 v6 (List.set v8 v6.toNat (v8.getD v7.toNat ty4.dflt)))) none) none)) none) (cond (B.inb v6 v8.length) (again (.l1011 v5 v6 (List.set v8 v6.toNat false))) none)) none) (cond (B.eq p0 11) (cond (B.inb v6 p1.length) (cond (p1.getD v6.toNat ty4.dflt) (cond (B.inb v6 v8.length) (again (.l1011 v5 v6 (List.set v8 v6.toNat true))) none) (cond (B.inb v7 v8.length) (cond (B.inb v6 v8.length) (again (.l1011 v5 v6 (List.set v8 v6.toNat (v8.getD v7.toNat ty4.dflt)))) none) none)) none) (cond (B.eq p0 12) (cond (B.inb v6 p1.length) (cond (p1.getD v6.toNat ty4.dflt) (cond (B.inb v7 v8.length) (cond (B.inb v6 v8.length) (again (.l1011 v5 v6 (List.set v8 v6.toNat (v8.getD v7.toNat ty4.dflt)))) none) none) (cond (B.inb v6 v8.length) (again (.l1011 v5 v6 (List.set v8 v6.toNat false))) none)) none) (again (.l1011 v5 v6 v8))))))))))
def E66 (p0:Int) (p1 p2:L4) (p3 p4:Int):S66→List AV×Objs
 | .l0 v5 v6=>(mk 208 [(0,.c (.int .i64 p0)),(1,.c (.list 4 ty4 p1)),(2,.c (.list 4 ty4 p2)),(3,.c (.int .i64 p3)),(4,.c (.int .i64 p4)),(11,.c (.own 11)),(12,.c (.int .i64 v5))],[(11,.row 4 ty4 v6)])
 | .l1 v5 v6=>(mk 208 [(0,.c (.int .i64 p0)),(1,.c (.list 4 ty4 p1)),(2,.c (.list 4 ty4 p2)),(3,.c (.int .i64 p3)),(4,.c (.int .i64 p4)),(11,.c (.own 11)),(13,.c (.int .i64 v5))],[(11,.row 4 ty4 v6)])
 | .l2 v5 v6 v7=>(mk 208 [(0,.c (.int .i64 p0)),(1,.c (.list 4 ty4 p1)),(2,.c (.list 4 ty4 p2)),(3,.c (.int .i64 p3)),(4,.c (.int .i64 p4)),(11,.c (.own 11)),(13,.c (.int .i64 v5)),(14,.c (.int .i64 v6))],[(11,.row 4 ty4 v7)])
 | .l1004 v5 v6=>(mk 208 [(0,.c (.int .i64 p0)),(1,.c (.list 4 ty4 p1)),(2,.c (.list 4 ty4 p2)),(3,.c (.int .i64 p3)),(4,.c (.int .i64 p4)),(11,.c (.own 11)),(12,.c (.int .i64 v5))],[(11,.row 4 ty4 v6)])
 | .l1008 v5 v6=>(mk 208 [(0,.c (.int .i64 p0)),(1,.c (.list 4 ty4 p1)),(2,.c (.list 4 ty4 p2)),(3,.c (.int .i64 p3)),(4,.c (.int .i64 p4)),(11,.c (.own 11)),(13,.c (.int .i64 v5))],[(11,.row 4 ty4 v6)])
 | .l1011 v5 v6 v7=>(mk 208 [(0,.c (.int .i64 p0)),(1,.c (.list 4 ty4 p1)),(2,.c (.list 4 ty4 p2)),(3,.c (.int .i64 p3)),(4,.c (.int .i64 p4)),(11,.c (.own 11)),(13,.c (.int .i64 v5)),(14,.c (.int .i64 v6))],[(11,.row 4 ty4 v7)])
 | .l1015 v5 v6 v7 v8=>(mk 208 [(0,.c (.int .i64 p0)),(1,.c (.list 4 ty4 p1)),(2,.c (.list 4 ty4 p2)),(3,.c (.int .i64 p3)),(4,.c (.int .i64 p4)),(11,.c (.own 11)),(13,.c (.int .i64 v5)),(14,.c (.int .i64 v6)),(15,.c (.int .i64 v7))],[(11,.row 4 ty4 v8)])
def I66:S66→Nat
 | .l0 _ _=>0
 | .l1 _ _=>1
 | .l2 _ _ _=>2
 | .l1004 _ _=>1004
 | .l1008 _ _=>1008
 | .l1011 _ _ _=>1011
 | .l1015 _ _ _ _=>1015
abbrev K32 {R:Type} (k:AV→Objs→Option R) (y:(L4)):Option R:=k (.c (.own 500)) [(500,.row 4 ty4 y)]
noncomputable abbrev A66 {R:Type} (B:Ops) (p0:Int) (p1 p2:L4) (p3 p4:Int) (k:AV→Objs→Option R) (s:S66) (n:Nat):Option R:=aloop tau B gl0 X66 gnil ow [] Tryz.f66 k (I66 s) (E66 p0 p1 p2 p3 p4 s) n
theorem eq66 {R:Type} (B:Ops) (p0:Int) (p1 p2:L4) (p3 p4:Int) (k:AV→Objs→Option R) (n:Nat):afun tau B gl0 X66 gnil ow Tryz.f66 [.c (.int .i64 p0),.c (.list 4 ty4 p1),.c (.list 4 ty4 p2),.c (.int .i64 p3),.c (.int .i64 p4)] [] k n=T66 B p0 p1 p2 p3 p4 (fun s=>A66 B p0 p1 p2 p3 p4 k s n) (K32 k) none:=by kernel_rfl
theorem el66 {R:Type} (B:Ops) (p0:Int) (p1 p2:L4) (p3 p4:Int) (k:AV→Objs→Option R) (n:Nat):∀ s,A66 B p0 p1 p2 p3 p4 k s (n+1)=T66 B p0 p1 p2 p3 p4 (fun s=>A66 B p0 p1 p2 p3 p4 k s n) (K32 k) (some s):=by
 intro s
 cases s<;>kernel_rfl
theorem nt66 {R R':Type} (B:Ops) (p0:Int) (p1 p2:L4) (p3 p4:Int) (again:S66→Option R) (again':S66→Option R') (k0:(L4)→Option R') (k:R'→Option R) (h:∀ s,again s=ob (again' s) k):∀ s,T66 B p0 p1 p2 p3 p4 again (fun y=>ob (k0 y) k) s=ob (T66 B p0 p1 p2 p3 p4 again' k0 s) k:=by
 rintro (_ | x)
 all_goals try cases x
 all_goals (unfold T66;repeat' first | exact rfl | exact h _ | apply qad | (apply qaj;intro))
def R66 (p0:Int) (p1 p2:L4) (p3 p4:Int):Nat→S66→Option (L4)
 | 0,_=>none
 | n+1,s=>T66 Ops.std p0 p1 p2 p3 p4 (R66 p0 p1 p2 p3 p4 n) some (some s)
theorem rr66 {R:Type} (p0:Int) (p1 p2:L4) (p3 p4:Int) (k:AV→Objs→Option R):∀ (n:Nat) (s:S66),A66 Ops.std p0 p1 p2 p3 p4 k s n=ob (R66 p0 p1 p2 p3 p4 n s) (K32 k)
 | 0,s=>by cases s<;>rfl
 | n+1,s=>by rw [el66];exact nt66 Ops.std p0 p1 p2 p3 p4 _ _ some (K32 k) (rr66 p0 p1 p2 p3 p4 k n) (some s)
def F66 (p0:Int) (p1 p2:L4) (p3 p4:Int):Option (L4):=T66 Ops.std p0 p1 p2 p3 p4 (R66 p0 p1 p2 p3 p4 1000000) some none
abbrev C66:Type:=Int→L4→L4→Int→Int→Option (L4)
def e66 {R:Type} (c:C66):Ent R:=eG [.aC (.cI .i64),.aC (.cL 4 ty4),.aC (.cL 4 ty4),.aC (.cI .i64),.aC (.cI .i64)] [] fun v k=>ob (c v.1 v.2.1 v.2.2.1 v.2.2.2.1 v.2.2.2.2.1) (K32 k)
abbrev Sp66 (c:C66):Prop:=∀ (p0:Int) (p1 p2:L4) (p3 p4:Int) (y:L4),c p0 p1 p2 p3 p4=some y→Spec Tryz.prog gl0 66 [.c (.int .i64 p0),.c (.list 4 ty4 p1),.c (.list 4 ty4 p2),.c (.int .i64 p3),.c (.int .i64 p4)] [] (.c (.own 500)) [(500,.row 4 ty4 y)]
theorem ek66 {R:Type} {c:C66} (hs:Sp66 c):EOk 66 (e66 (R:=R) c):=qal fun v=>hs v.1 v.2.1 v.2.2.1 v.2.2.2.1 v.2.2.2.2.1
theorem sf66:Sp66 (F66):=fun p0 p1 p2 p3 p4 y hy=>by
 refine qai qah 1000000 (fn:=Tryz.f66) (by kernel_rfl) (by kernel_rfl) (X:=X66) (by kernel_rfl) ?_
 rw [eq66]
 exact (nt66 Ops.std p0 p1 p2 p3 p4 _ _ some (K32 k0) (rr66 p0 p1 p2 p3 p4 k0 1000000) none).trans (by show ob (F66 p0 p1 p2 p3 p4) _=_;rw [hy];rfl)
noncomputable def M66:C66:=F66
theorem sm66:Sp66 M66:=sf66
abbrev C83:Type:=Int→L130→Int→Int→Int→L66→Option (L130×Int×Int×Int×L66)
def e83 {R:Type} (c:C83):Ent R:=eG [.aC (.cP 0),.aC (.cI .i64)] [.oB 0 127 [.cL 130 ty130,.cI .i64,.cO 1002,.cI .i64,.cI .i64],.oR 1002 66 ty66] fun v k=>ob (c v.1 v.2.1 v.2.2.1 v.2.2.2.1 v.2.2.2.2.1 v.2.2.2.2.2.1) (K30 k)
abbrev Sp83 (c:C83):Prop:=∀ (p0:Int) (p1:L130) (p2 p3 p4:Int) (p5:L66) (y:L130×Int×Int×Int×L66),c p0 p1 p2 p3 p4 p5=some y→Spec Tryz.prog gl0 83 [.c (.ptr 0 0),.c (.int .i64 p0)] [(0,.box 127 [.list 130 ty130 p1,.int .i64 p2,.own 1002,.int .i64 p3,.int .i64 p4]),(1002,.row 66 ty66 p5)] (.tup []) [(0,.box 127 [.list 130 ty130 y.1,.int .i64 y.2.1,.own 1002,.int .i64 y.2.2.1,.int .i64 y.2.2.2.1]),(1002,.row 66 ty66 y.2.2.2.2)]
theorem ek83 {R:Type} {c:C83} (hs:Sp83 c):EOk 83 (e83 (R:=R) c):=qal fun v=>hs v.1 v.2.1 v.2.2.1 v.2.2.2.1 v.2.2.2.2.1 v.2.2.2.2.2.1
abbrev C141:Type:=L130→Int→Int→Int→L66→Option (L130×Int×Int×Int×L66)
def e141 {R:Type} (c:C141):Ent R:=eG [.aC (.cP 0)] [.oB 0 127 [.cL 130 ty130,.cI .i64,.cO 1002,.cI .i64,.cI .i64],.oR 1002 66 ty66] fun v k=>ob (c v.1 v.2.1 v.2.2.1 v.2.2.2.1 v.2.2.2.2.1) (K30 k)
abbrev Sp141 (c:C141):Prop:=∀ (p0:L130) (p1 p2 p3:Int) (p4:L66) (y:L130×Int×Int×Int×L66),c p0 p1 p2 p3 p4=some y→Spec Tryz.prog gl0 141 [.c (.ptr 0 0)] [(0,.box 127 [.list 130 ty130 p0,.int .i64 p1,.own 1002,.int .i64 p2,.int .i64 p3]),(1002,.row 66 ty66 p4)] (.tup []) [(0,.box 127 [.list 130 ty130 y.1,.int .i64 y.2.1,.own 1002,.int .i64 y.2.2.1,.int .i64 y.2.2.2.1]),(1002,.row 66 ty66 y.2.2.2.2)]
theorem ek141 {R:Type} {c:C141} (hs:Sp141 c):EOk 141 (e141 (R:=R) c):=qal fun v=>hs v.1 v.2.1 v.2.2.1 v.2.2.2.1 v.2.2.2.2.1
def X83:Aux:=⟨[(3,(rg 2 52))],[]⟩
inductive S83 where
 | l0 (v1:L130) (v2 v3 v4:Int) (v5:L66)
def T83 {R:Type} (B:Ops) (c141:C141) (c83:C83) (c142:C142) (p0:Int) (p1:L130) (p2 p3 p4:Int) (p5:L66) (again:S83→Option R) (k:(L130×Int×Int×Int×L66)→Option R):Option S83→Option R | none=>cond (B.lt 4 p0) (ob (c141 p1 p2 p3 p4 p5) fun y0=>k (y0.1,y0.2.1,y0.2.2.1,y0.2.2.2.1,y0.2.2.2.2)) (ob (c83 (IntKind.wrap .i64 (p0+1)) p1 p2 p3 p4 p5) fun y0=>again (.l0 y0.1 y0.2.1 y0.2.2.1 y0.2.2.2.1 y0.2.2.2.2)) | some (.l0 v1 v2 v3 v4 v5)=>cond (B.eq v3 0) (ob (c142 p0 v1 v2 v3 v4 v5) fun y0=>cond (B.eq y0.1 0) (k (y0.2.1,y0.2.2.1,y0.2.2.2.1,y0.2.2.2.2.1,y0.2.2.2.2.2)) (cond (B.eq p0 1) (ob (c83 p0 y0.2.1 (IntKind.wrap .i64 (y0.2.2.1+1)) y0.2.2.2.1 y0.2.2.2.2.1 y0.2.2.2.2.2) fun y1=>cond (B.lim (List.length (y1.2.2.2.2)+List.length ((y0.1,mt (Ty.den ty150))::mt (Ty.den ty66))) 32) (again (.l0 y1.1 y1.2.1 y1.2.2.1 y1.2.2.2.1 (y1.2.2.2.2++(y0.1,mt (Ty.den ty150))::mt (Ty.den ty66)))) none) (cond (B.eq p0 4) (ob (c83 p0 y0.2.1 (IntKind.wrap .i64 (y0.2.2.1+1)) y0.2.2.2.1 y0.2.2.2.2.1 y0.2.2.2.2.2) fun y1=>cond (B.lim (List.length (y1.2.2.2.2)+List.length ((y0.1,mt (Ty.den ty150))::mt (Ty.den ty66))) 32) (again (.l0 y1.1 y1.2.1 y1.2.2.1 y1.2.2.2.1 (y1.2.2.2.2++(y0.1,mt (Ty.den ty150))::mt (Ty.den ty66)))) none) (ob (c83 (IntKind.wrap .i64 (p0+1)) y0.2.1 (IntKind.wrap .i64 (y0.2.2.1+1)) y0.2.2.2.1 y0.2.2.2.2.1 y0.2.2.2.2.2) fun y1=>cond (B.lim (List.length (y1.2.2.2.2)+List.length ((y0.1,mt (Ty.den ty150))::mt (Ty.den ty66))) 32) (again (.l0 y1.1 y1.2.1 y1.2.2.1 y1.2.2.2.1 (y1.2.2.2.2++(y0.1,mt (Ty.den ty150))::mt (Ty.den ty66)))) none)))) (k (v1,v2,v3,v4,v5))
def E83 (p0:Int) (p1:L130) (p2 p3 p4:Int) (p5:L66):S83→List AV×Objs
 | .l0 v1 v2 v3 v4 v5=>(mk 54 [(0,.c (.ptr 0 0)),(1,.c (.int .i64 p0))],[(0,.box 127 [.list 130 ty130 v1,.int .i64 v2,.own 1002,.int .i64 v3,.int .i64 v4]),(1002,.row 66 ty66 v5)])
def I83:S83→Nat
 | .l0 _ _ _ _ _=>0
noncomputable abbrev A83 {R:Type} (B:Ops) (c141:C141) (c83:C83) (c142:C142) (p0:Int) (p1:L130) (p2 p3 p4:Int) (p5:L66) (k:AV→Objs→Option R) (s:S83) (n:Nat):Option R:=aloop tau B gl0 X83 (ent 141 (e141 c141) (ent 83 (e83 c83) (ent 142 (e142 c142) gnil))) ow [0] Tryz.f83 k (I83 s) (E83 p0 p1 p2 p3 p4 p5 s) n
theorem eq83 {R:Type} (B:Ops) (c141:C141) (c83:C83) (c142:C142) (p0:Int) (p1:L130) (p2 p3 p4:Int) (p5:L66) (k:AV→Objs→Option R) (n:Nat):afun tau B gl0 X83 (ent 141 (e141 c141) (ent 83 (e83 c83) (ent 142 (e142 c142) gnil))) ow Tryz.f83 [.c (.ptr 0 0),.c (.int .i64 p0)] [(0,.box 127 [.list 130 ty130 p1,.int .i64 p2,.own 1002,.int .i64 p3,.int .i64 p4]),(1002,.row 66 ty66 p5)] k n=T83 B c141 c83 c142 p0 p1 p2 p3 p4 p5 (fun s=>A83 B c141 c83 c142 p0 p1 p2 p3 p4 p5 k s n) (K30 k) none:=by kernel_rfl
theorem el83 {R:Type} (B:Ops) (c141:C141) (c83:C83) (c142:C142) (p0:Int) (p1:L130) (p2 p3 p4:Int) (p5:L66) (k:AV→Objs→Option R) (n:Nat):∀ s,A83 B c141 c83 c142 p0 p1 p2 p3 p4 p5 k s (n+1)=T83 B c141 c83 c142 p0 p1 p2 p3 p4 p5 (fun s=>A83 B c141 c83 c142 p0 p1 p2 p3 p4 p5 k s n) (K30 k) (some s):=by
 intro s
 cases s<;>kernel_rfl
theorem nt83 {R R':Type} (B:Ops) (c141:C141) (c83:C83) (c142:C142) (p0:Int) (p1:L130) (p2 p3 p4:Int) (p5:L66) (again:S83→Option R) (again':S83→Option R') (k0:(L130×Int×Int×Int×L66)→Option R') (k:R'→Option R) (h:∀ s,again s=ob (again' s) k):∀ s,T83 B c141 c83 c142 p0 p1 p2 p3 p4 p5 again (fun y=>ob (k0 y) k) s=ob (T83 B c141 c83 c142 p0 p1 p2 p3 p4 p5 again' k0 s) k:=by
 rintro (_ | x)
 all_goals try cases x
 all_goals (unfold T83;repeat' first | exact rfl | exact h _ | apply qad | (apply qaj;intro))
def R83 (c141:C141) (c83:C83) (c142:C142) (p0:Int) (p1:L130) (p2 p3 p4:Int) (p5:L66):Nat→S83→Option (L130×Int×Int×Int×L66)
 | 0,_=>none
 | n+1,s=>T83 Ops.std c141 c83 c142 p0 p1 p2 p3 p4 p5 (R83 c141 c83 c142 p0 p1 p2 p3 p4 p5 n) some (some s)
theorem rr83 {R:Type} (c141:C141) (c83:C83) (c142:C142) (p0:Int) (p1:L130) (p2 p3 p4:Int) (p5:L66) (k:AV→Objs→Option R):∀ (n:Nat) (s:S83),A83 Ops.std c141 c83 c142 p0 p1 p2 p3 p4 p5 k s n=ob (R83 c141 c83 c142 p0 p1 p2 p3 p4 p5 n s) (K30 k)
 | 0,s=>by cases s<;>rfl
 | n+1,s=>by rw [el83];exact nt83 Ops.std c141 c83 c142 p0 p1 p2 p3 p4 p5 _ _ some (K30 k) (rr83 c141 c83 c142 p0 p1 p2 p3 p4 p5 k n) (some s)
def F83 (c141:C141) (c83:C83) (c142:C142) (p0:Int) (p1:L130) (p2 p3 p4:Int) (p5:L66):Option (L130×Int×Int×Int×L66):=T83 Ops.std c141 c83 c142 p0 p1 p2 p3 p4 p5 (R83 c141 c83 c142 p0 p1 p2 p3 p4 p5 1000000) some none
theorem sf83 {c141:C141} {c83:C83} {c142:C142} (h141:Sp141 c141) (h83:Sp83 c83) (h142:Sp142 c142):Sp83 (F83 c141 c83 c142):=fun p0 p1 p2 p3 p4 p5 y hy=>by
 refine qai (qac (ek141 h141) (qac (ek83 h83) (qac (ek142 h142) qah))) 1000000 (fn:=Tryz.f83) (by kernel_rfl) (by kernel_rfl) (X:=X83) (by kernel_rfl) ?_
 rw [eq83]
 exact (nt83 Ops.std c141 c83 c142 p0 p1 p2 p3 p4 p5 _ _ some (K30 k0) (rr83 c141 c83 c142 p0 p1 p2 p3 p4 p5 k0 1000000) none).trans (by show ob (F83 c141 c83 c142 p0 p1 p2 p3 p4 p5) _=_;rw [hy];rfl)
def X141:Aux:=⟨[(1000011,([1]++rg 4 194)),(1000021,(rg 1 197)),(1000024,(rg 1 197)),(1000028,([1,2,3]++rg 5 193))],[(1,.lin (rg 0 12)),(28,.lin (rg 0 17))]⟩
inductive S141 where
 | l1011 (v0:Int) (v1:L130) (v2 v3 v4 v5:Int) (v6:LB) (v7 v8:Int) (v9:L66)
 | l1021 (v0:L130) (v1 v2 v3:Int) (v4:L66)
 | l1024 (v0:L130) (v1 v2 v3:Int) (v4:L66)
 | l1028 (v0:Int) (v1:L130) (v2 v3 v4:Int) (v5:L66)
def T141 {R:Type} (B:Ops) (c175:C175) (c141:C141) (c83:C83) (c176:C176) (c177:C177) (c84:C84) (p0:L130) (p1 p2 p3:Int) (p4:L66) (again:S141→Option R) (k:(L130×Int×Int×Int×L66)→Option R):Option S141→Option R | none=>cond (!B.eq p2 0) (k (p0,p1,p2,p3,p4)) (cond (B.inb p1 p0.length) (ob (c175 ([33]:LB) p0 p1 p2 p3 p4) fun y0=>cond y0.1 (again (.l1011 4 y0.2.1 y0.2.2.1 y0.2.2.2.1 y0.2.2.2.2.1 (p0.getD p1.toNat ty130.dflt).1 ((p0.getD p1.toNat ty130.dflt).2).1 (((p0.getD p1.toNat ty130.dflt).2).2).1 (((p0.getD p1.toNat ty130.dflt).2).2).2 y0.2.2.2.2.2)) (cond (B.eq (p0.getD p1.toNat ty130.dflt).1 3) (cond (((p0.getD p1.toNat ty130.dflt).2).1 == ([88]:LB)) (again (.l1011 8 y0.2.1 y0.2.2.1 y0.2.2.2.1 y0.2.2.2.2.1 (p0.getD p1.toNat ty130.dflt).1 ((p0.getD p1.toNat ty130.dflt).2).1 (((p0.getD p1.toNat ty130.dflt).2).2).1 (((p0.getD p1.toNat ty130.dflt).2).2).2 y0.2.2.2.2.2)) (cond (B.eq (p0.getD p1.toNat ty130.dflt).1 3) (cond (((p0.getD p1.toNat ty130.dflt).2).1 == ([70]:LB)) (again (.l1011 11 y0.2.1 y0.2.2.1 y0.2.2.2.1 y0.2.2.2.2.1 (p0.getD p1.toNat ty130.dflt).1 ((p0.getD p1.toNat ty130.dflt).2).1 (((p0.getD p1.toNat ty130.dflt).2).2).1 (((p0.getD p1.toNat ty130.dflt).2).2).2 y0.2.2.2.2.2)) (cond (B.eq (p0.getD p1.toNat ty130.dflt).1 3) (cond (((p0.getD p1.toNat ty130.dflt).2).1 == ([71]:LB)) (again (.l1011 12 y0.2.1 y0.2.2.1 y0.2.2.2.1 y0.2.2.2.2.1 (p0.getD p1.toNat ty130.dflt).1 ((p0.getD p1.toNat ty130.dflt).2).1 (((p0.getD p1.toNat ty130.dflt).2).2).1 (((p0.getD p1.toNat ty130.dflt).2).2).2 y0.2.2.2.2.2)) (again (.l1011 0 y0.2.1 y0.2.2.1 y0.2.2.2.1 y0.2.2.2.2.1 (p0.getD p1.toNat ty130.dflt).1 ((p0.getD p1.toNat ty130.dflt).2).1 (((p0.getD p1.toNat ty130.dflt).2).2).1 (((p0.getD p1.toNat ty130.dflt).2).2).2 y0.2.2.2.2.2))) (again (.l1011 0 y0.2.1 y0.2.2.1 y0.2.2.2.1 y0.2.2.2.2.1 (p0.getD p1.toNat ty130.dflt).1 ((p0.getD p1.toNat ty130.dflt).2).1 (((p0.getD p1.toNat ty130.dflt).2).2).1 (((p0.getD p1.toNat ty130.dflt).2).2).2 y0.2.2.2.2.2)))) (cond (B.eq (p0.getD p1.toNat ty130.dflt).1 3) (cond (((p0.getD p1.toNat ty130.dflt).2).1 == ([71]:LB)) (again (.l1011 12 y0.2.1 y0.2.2.1 y0.2.2.2.1 y0.2.2.2.2.1 (p0.getD p1.toNat ty130.dflt).1 ((p0.getD p1.toNat ty130.dflt).2).1 (((p0.getD p1.toNat ty130.dflt).2).2).1 (((p0.getD p1.toNat ty130.dflt).2).2).2 y0.2.2.2.2.2)) (again (.l1011 0 y0.2.1 y0.2.2.1 y0.2.2.2.1 y0.2.2.2.2.1 (p0.getD p1.toNat ty130.dflt).1 ((p0.getD p1.toNat ty130.dflt).2).1 (((p0.getD p1.toNat ty130.dflt).2).2).1 (((p0.getD p1.toNat ty130.dflt).2).2).2 y0.2.2.2.2.2))) (again (.l1011 0 y0.2.1 y0.2.2.1 y0.2.2.2.1 y0.2.2.2.2.1 (p0.getD p1.toNat ty130.dflt).1 ((p0.getD p1.toNat ty130.dflt).2).1 (((p0.getD p1.toNat ty130.dflt).2).2).1 (((p0.getD p1.toNat ty130.dflt).2).2).2 y0.2.2.2.2.2))))) (cond (B.eq (p0.getD p1.toNat ty130.dflt).1 3) (cond (((p0.getD p1.toNat ty130.dflt).2).1 == ([70]:LB)) (again (.l1011 11 y0.2.1 y0.2.2.1 y0.2.2.2.1 y0.2.2.2.2.1 (p0.getD p1.toNat ty130.dflt).1 ((p0.getD p1.toNat ty130.dflt).2).1 (((p0.getD p1.toNat ty130.dflt).2).2).1 (((p0.getD p1.toNat ty130.dflt).2).2).2 y0.2.2.2.2.2)) (cond (B.eq (p0.getD p1.toNat ty130.dflt).1 3) (cond (((p0.getD p1.toNat ty130.dflt).2).1 == ([71]:LB)) (again (.l1011 12 y0.2.1 y0.2.2.1 y0.2.2.2.1 y0.2.2.2.2.1 (p0.getD p1.toNat ty130.dflt).1 ((p0.getD p1.toNat ty130.dflt).2).1 (((p0.getD p1.toNat ty130.dflt).2).2).1 (((p0.getD p1.toNat ty130.dflt).2).2).2 y0.2.2.2.2.2)) (again (.l1011 0 y0.2.1 y0.2.2.1 y0.2.2.2.1 y0.2.2.2.2.1 (p0.getD p1.toNat ty130.dflt).1 ((p0.getD p1.toNat ty130.dflt).2).1 (((p0.getD p1.toNat ty130.dflt).2).2).1 (((p0.getD p1.toNat ty130.dflt).2).2).2 y0.2.2.2.2.2))) (again (.l1011 0 y0.2.1 y0.2.2.1 y0.2.2.2.1 y0.2.2.2.2.1 (p0.getD p1.toNat ty130.dflt).1 ((p0.getD p1.toNat ty130.dflt).2).1 (((p0.getD p1.toNat ty130.dflt).2).2).1 (((p0.getD p1.toNat ty130.dflt).2).2).2 y0.2.2.2.2.2)))) (cond (B.eq (p0.getD p1.toNat ty130.dflt).1 3) (cond (((p0.getD p1.toNat ty130.dflt).2).1 == ([71]:LB)) (again (.l1011 12 y0.2.1 y0.2.2.1 y0.2.2.2.1 y0.2.2.2.2.1 (p0.getD p1.toNat ty130.dflt).1 ((p0.getD p1.toNat ty130.dflt).2).1 (((p0.getD p1.toNat ty130.dflt).2).2).1 (((p0.getD p1.toNat ty130.dflt).2).2).2 y0.2.2.2.2.2)) (again (.l1011 0 y0.2.1 y0.2.2.1 y0.2.2.2.1 y0.2.2.2.2.1 (p0.getD p1.toNat ty130.dflt).1 ((p0.getD p1.toNat ty130.dflt).2).1 (((p0.getD p1.toNat ty130.dflt).2).2).1 (((p0.getD p1.toNat ty130.dflt).2).2).2 y0.2.2.2.2.2))) (again (.l1011 0 y0.2.1 y0.2.2.1 y0.2.2.2.1 y0.2.2.2.2.1 (p0.getD p1.toNat ty130.dflt).1 ((p0.getD p1.toNat ty130.dflt).2).1 (((p0.getD p1.toNat ty130.dflt).2).2).1 (((p0.getD p1.toNat ty130.dflt).2).2).2 y0.2.2.2.2.2)))))) none) | some (.l1011 v0 v1 v2 v3 v4 v5 v6 v7 v8 v9)=>cond (!B.eq v0 0) (ob (c141 v1 (IntKind.wrap .i64 (v2+1)) v3 v4 v9) fun y0=>cond (B.lim (List.length (y0.2.2.2.2)+List.length ((v0,mt (Ty.den ty150))::mt (Ty.den ty66))) 32) (k ((y0.1,y0.2.1,y0.2.2.1,y0.2.2.2.1,y0.2.2.2.2++(v0,mt (Ty.den ty150))::mt (Ty.den ty66)))) none) (cond (B.eq v5 2) (cond (v6 == ([116,114,117,101]:LB)) (cond (B.lim (List.length v9+List.length ((1,mt (Ty.den ty150))::mt (Ty.den ty66))) 32) (k ((v1,IntKind.wrap .i64 (v2+1),v3,v4,v9++(1,mt (Ty.den ty150))::mt (Ty.den ty66)))) none) (cond (B.eq v5 2) (cond (v6 == ([102,97,108,115,101]:LB)) (again (.l1021 v1 (IntKind.wrap .i64 (v2+1)) v3 v4 v9)) (ob (c175 ([40]:LB) v1 v2 v3 v4 v9) fun y0=>cond y0.1 (again (.l1024 y0.2.1 (IntKind.wrap .i64 (y0.2.2.1+1)) y0.2.2.2.1 y0.2.2.2.2.1 y0.2.2.2.2.2)) (ob (c175 ([91]:LB) y0.2.1 y0.2.2.1 y0.2.2.2.1 y0.2.2.2.2.1 y0.2.2.2.2.2) fun y1=>cond y1.1 (again (.l1028 y1.2.2.1 y1.2.1 y1.2.2.1 y1.2.2.2.1 y1.2.2.2.2.1 y1.2.2.2.2.2)) (ob (c84 2 y1.2.2.1 y1.2.1 y1.2.2.1 y1.2.2.2.1 y1.2.2.2.2.1 y1.2.2.2.2.2) fun y2=>k (y2.1,y2.2.1,y2.2.2.1,y2.2.2.2.1,y2.2.2.2.2))))) (ob (c175 ([40]:LB) v1 v2 v3 v4 v9) fun y0=>cond y0.1 (again (.l1024 y0.2.1 (IntKind.wrap .i64 (y0.2.2.1+1)) y0.2.2.2.1 y0.2.2.2.2.1 y0.2.2.2.2.2)) (ob (c175 ([91]:LB) y0.2.1 y0.2.2.1 y0.2.2.2.1 y0.2.2.2.2.1 y0.2.2.2.2.2) fun y1=>cond y1.1 (again (.l1028 y1.2.2.1 y1.2.1 y1.2.2.1 y1.2.2.2.1 y1.2.2.2.2.1 y1.2.2.2.2.2)) (ob (c84 2 y1.2.2.1 y1.2.1 y1.2.2.1 y1.2.2.2.1 y1.2.2.2.2.1 y1.2.2.2.2.2) fun y2=>k (y2.1,y2.2.1,y2.2.2.1,y2.2.2.2.1,y2.2.2.2.2)))))) (cond (B.eq v5 2) (cond (v6 == ([102,97,108,115,101]:LB)) (again (.l1021 v1 (IntKind.wrap .i64 (v2+1)) v3 v4 v9)) (ob (c175 ([40]:LB) v1 v2 v3 v4 v9) fun y0=>cond y0.1 (again (.l1024 y0.2.1 (IntKind.wrap .i64 (y0.2.2.1+1)) y0.2.2.2.1 y0.2.2.2.2.1 y0.2.2.2.2.2)) (ob (c175 ([91]:LB) y0.2.1 y0.2.2.1 y0.2.2.2.1 y0.2.2.2.2.1 y0.2.2.2.2.2) fun y1=>cond y1.1 (again (.l1028 y1.2.2.1 y1.2.1 y1.2.2.1 y1.2.2.2.1 y1.2.2.2.2.1 y1.2.2.2.2.2)) (ob (c84 2 y1.2.2.1 y1.2.1 y1.2.2.1 y1.2.2.2.1 y1.2.2.2.2.1 y1.2.2.2.2.2) fun y2=>k (y2.1,y2.2.1,y2.2.2.1,y2.2.2.2.1,y2.2.2.2.2))))) (ob (c175 ([40]:LB) v1 v2 v3 v4 v9) fun y0=>cond y0.1 (again (.l1024 y0.2.1 (IntKind.wrap .i64 (y0.2.2.1+1)) y0.2.2.2.1 y0.2.2.2.2.1 y0.2.2.2.2.2)) (ob (c175 ([91]:LB) y0.2.1 y0.2.2.1 y0.2.2.2.1 y0.2.2.2.2.1 y0.2.2.2.2.2) fun y1=>cond y1.1 (again (.l1028 y1.2.2.1 y1.2.1 y1.2.2.1 y1.2.2.2.1 y1.2.2.2.2.1 y1.2.2.2.2.2)) (ob (c84 2 y1.2.2.1 y1.2.1 y1.2.2.1 y1.2.2.2.1 y1.2.2.2.2.1 y1.2.2.2.2.2) fun y2=>k (y2.1,y2.2.1,y2.2.2.1,y2.2.2.2.1,y2.2.2.2.2)))))) | some (.l1021 v0 v1 v2 v3 v4)=>cond (B.lim (List.length v4+List.length ((2,mt (Ty.den ty150))::mt (Ty.den ty66))) 32) (k ((v0,v1,v2,v3,v4++(2,mt (Ty.den ty150))::mt (Ty.den ty66)))) none | some (.l1024 v0 v1 v2 v3 v4)=>ob (c83 1 v0 v1 v2 v3 v4) fun y0=>ob (c176 ([41]:LB) y0.1 y0.2.1 y0.2.2.1 y0.2.2.2.1 y0.2.2.2.2) fun y1=>k (y1.1,y1.2.1,y1.2.2.1,y1.2.2.2.1,y1.2.2.2.2) | some (.l1028 v0 v1 v2 v3 v4 v5)=>ob (c177 v1 (IntKind.wrap .i64 (v2+1))) fun y0=>cond (B.eq y0.2.1 13) (ob (c84 y0.2.1 v0 v1 v2 v3 v4 v5) fun y1=>k (y1.1,y1.2.1,y1.2.2.1,y1.2.2.2.1,y1.2.2.2.2)) (cond (B.eq y0.2.1 2) (ob (c84 y0.2.1 y0.1 v1 v2 v3 v4 v5) fun y1=>k (y1.1,y1.2.1,y1.2.2.1,y1.2.2.2.1,y1.2.2.2.2)) (cond (B.lim (List.length v5+List.length ((3,y0.2.2)::mt (Ty.den ty66))) 32) (ob (c176 ([93]:LB) v1 y0.1 v3 v4 (v5++(3,y0.2.2)::mt (Ty.den ty66))) fun y1=>k (y1.1,y1.2.1,y1.2.2.1,y1.2.2.2.1,y1.2.2.2.2)) none))
def E141 (p0:L130) (p1 p2 p3:Int) (p4:L66):S141→List AV×Objs
 | .l1011 v0 v1 v2 v3 v4 v5 v6 v7 v8 v9=>(mk 198 [(0,.c (.ptr 0 0)),(2,.c (.ptr 2 0)),(3,.c (.int .i64 v0))],[(0,.box 127 [.list 130 ty130 v1,.int .i64 v2,.own 1002,.int .i64 v3,.int .i64 v4]),(2,.box 130 [.int .i64 v5,.str v6,.int .i64 v7,.int .i64 v8]),(1002,.row 66 ty66 v9)])
 | .l1021 v0 v1 v2 v3 v4=>(mk 198 [(0,.c (.ptr 0 0))],[(0,.box 127 [.list 130 ty130 v0,.int .i64 v1,.own 1002,.int .i64 v2,.int .i64 v3]),(1002,.row 66 ty66 v4)])
 | .l1024 v0 v1 v2 v3 v4=>(mk 198 [(0,.c (.ptr 0 0))],[(0,.box 127 [.list 130 ty130 v0,.int .i64 v1,.own 1002,.int .i64 v2,.int .i64 v3]),(1002,.row 66 ty66 v4)])
 | .l1028 v0 v1 v2 v3 v4 v5=>(mk 198 [(0,.c (.ptr 0 0)),(4,.c (.int .i64 v0))],[(0,.box 127 [.list 130 ty130 v1,.int .i64 v2,.own 1002,.int .i64 v3,.int .i64 v4]),(1002,.row 66 ty66 v5)])
def I141:S141→Nat
 | .l1011 _ _ _ _ _ _ _ _ _ _=>1011
 | .l1021 _ _ _ _ _=>1021
 | .l1024 _ _ _ _ _=>1024
 | .l1028 _ _ _ _ _ _=>1028
noncomputable abbrev A141 {R:Type} (B:Ops) (c175:C175) (c141:C141) (c83:C83) (c176:C176) (c177:C177) (c84:C84) (p0:L130) (p1 p2 p3:Int) (p4:L66) (k:AV→Objs→Option R) (s:S141) (n:Nat):Option R:=aloop tau B gl0 X141 (ent 175 (e175 c175) (ent 141 (e141 c141) (ent 83 (e83 c83) (ent 176 (e176 c176) (ent 177 (e177 c177) (ent 84 (e84 c84) gnil)))))) ow [0] Tryz.f141 k (I141 s) (E141 p0 p1 p2 p3 p4 s) n
theorem eq141 {R:Type} (B:Ops) (c175:C175) (c141:C141) (c83:C83) (c176:C176) (c177:C177) (c84:C84) (p0:L130) (p1 p2 p3:Int) (p4:L66) (k:AV→Objs→Option R) (n:Nat):afun tau B gl0 X141 (ent 175 (e175 c175) (ent 141 (e141 c141) (ent 83 (e83 c83) (ent 176 (e176 c176) (ent 177 (e177 c177) (ent 84 (e84 c84) gnil)))))) ow Tryz.f141 [.c (.ptr 0 0)] [(0,.box 127 [.list 130 ty130 p0,.int .i64 p1,.own 1002,.int .i64 p2,.int .i64 p3]),(1002,.row 66 ty66 p4)] k n=T141 B c175 c141 c83 c176 c177 c84 p0 p1 p2 p3 p4 (fun s=>A141 B c175 c141 c83 c176 c177 c84 p0 p1 p2 p3 p4 k s n) (K30 k) none:=by kernel_rfl
theorem el141 {R:Type} (B:Ops) (c175:C175) (c141:C141) (c83:C83) (c176:C176) (c177:C177) (c84:C84) (p0:L130) (p1 p2 p3:Int) (p4:L66) (k:AV→Objs→Option R) (n:Nat):∀ s,A141 B c175 c141 c83 c176 c177 c84 p0 p1 p2 p3 p4 k s (n+1)=T141 B c175 c141 c83 c176 c177 c84 p0 p1 p2 p3 p4 (fun s=>A141 B c175 c141 c83 c176 c177 c84 p0 p1 p2 p3 p4 k s n) (K30 k) (some s):=by
 intro s
 cases s<;>kernel_rfl
theorem nt141 {R R':Type} (B:Ops) (c175:C175) (c141:C141) (c83:C83) (c176:C176) (c177:C177) (c84:C84) (p0:L130) (p1 p2 p3:Int) (p4:L66) (again:S141→Option R) (again':S141→Option R') (k0:(L130×Int×Int×Int×L66)→Option R') (k:R'→Option R) (h:∀ s,again s=ob (again' s) k):∀ s,T141 B c175 c141 c83 c176 c177 c84 p0 p1 p2 p3 p4 again (fun y=>ob (k0 y) k) s=ob (T141 B c175 c141 c83 c176 c177 c84 p0 p1 p2 p3 p4 again' k0 s) k:=by
 rintro (_ | x)
 all_goals try cases x
 all_goals (unfold T141;repeat' first | exact rfl | exact h _ | apply qad | (apply qaj;intro))
def R141 (c175:C175) (c141:C141) (c83:C83) (c176:C176) (c177:C177) (c84:C84) (p0:L130) (p1 p2 p3:Int) (p4:L66):Nat→S141→Option (L130×Int×Int×Int×L66)
 | 0,_=>none
 | n+1,s=>T141 Ops.std c175 c141 c83 c176 c177 c84 p0 p1 p2 p3 p4 (R141 c175 c141 c83 c176 c177 c84 p0 p1 p2 p3 p4 n) some (some s)
theorem rr141 {R:Type} (c175:C175) (c141:C141) (c83:C83) (c176:C176) (c177:C177) (c84:C84) (p0:L130) (p1 p2 p3:Int) (p4:L66) (k:AV→Objs→Option R):∀ (n:Nat) (s:S141),A141 Ops.std c175 c141 c83 c176 c177 c84 p0 p1 p2 p3 p4 k s n=ob (R141 c175 c141 c83 c176 c177 c84 p0 p1 p2 p3 p4 n s) (K30 k)
 | 0,s=>by cases s<;>rfl
 | n+1,s=>by rw [el141];exact nt141 Ops.std c175 c141 c83 c176 c177 c84 p0 p1 p2 p3 p4 _ _ some (K30 k) (rr141 c175 c141 c83 c176 c177 c84 p0 p1 p2 p3 p4 k n) (some s)
def F141 (c175:C175) (c141:C141) (c83:C83) (c176:C176) (c177:C177) (c84:C84) (p0:L130) (p1 p2 p3:Int) (p4:L66):Option (L130×Int×Int×Int×L66):=T141 Ops.std c175 c141 c83 c176 c177 c84 p0 p1 p2 p3 p4 (R141 c175 c141 c83 c176 c177 c84 p0 p1 p2 p3 p4 1000000) some none
theorem sf141 {c175:C175} {c141:C141} {c83:C83} {c176:C176} {c177:C177} {c84:C84} (h175:Sp175 c175) (h141:Sp141 c141) (h83:Sp83 c83) (h176:Sp176 c176) (h177:Sp177 c177) (h84:Sp84 c84):Sp141 (F141 c175 c141 c83 c176 c177 c84):=fun p0 p1 p2 p3 p4 y hy=>by
 refine qai (qac (ek175 h175) (qac (ek141 h141) (qac (ek83 h83) (qac (ek176 h176) (qac (ek177 h177) (qac (ek84 h84) qah)))))) 1000000 (fn:=Tryz.f141) (by kernel_rfl) (by kernel_rfl) (X:=X141) (by kernel_rfl) ?_
 rw [eq141]
 exact (nt141 Ops.std c175 c141 c83 c176 c177 c84 p0 p1 p2 p3 p4 _ _ some (K30 k0) (rr141 c175 c141 c83 c176 c177 c84 p0 p1 p2 p3 p4 k0 1000000) none).trans (by show ob (F141 c175 c141 c83 c176 c177 c84 p0 p1 p2 p3 p4) _=_;rw [hy];rfl)
noncomputable def Rec83:Nat→(Int→L130→Int→Int→Int→L66→Option (L130×Int×Int×Int×L66))×(L130→Int→Int→Int→L66→Option (L130×Int×Int×Int×L66))
 | 0=>(fun _ _ _ _ _ _=>none,fun _ _ _ _ _=>none)
 | d+1=>(F83 (Rec83 d).2 (Rec83 d).1 M142,F141 M175 (Rec83 d).2 (Rec83 d).1 M176 M177 M84)
theorem rec83:∀ d,Sp83 (Rec83 d).1∧Sp141 (Rec83 d).2
 | 0=>⟨(fun p0 p1 p2 p3 p4 p5 y (h:(none:Option (L130×Int×Int×Int×L66))=some y)=>by cases h),(fun p0 p1 p2 p3 p4 y (h:(none:Option (L130×Int×Int×Int×L66))=some y)=>by cases h)⟩
 | d+1=>⟨sf83 (rec83 d).2 (rec83 d).1 sm142,sf141 sm175 (rec83 d).2 (rec83 d).1 sm176 sm177 sm84⟩
noncomputable def M83:C83:=(Rec83 1000000).1
theorem sm83:Sp83 M83:=(rec83 1000000).1
def X45:Aux:=⟨[],[(9,.lin (rg 0 15))]⟩
def T45 {R:Type} (B:Ops) (c82:C82) (c83:C83) (c84:C84) (p0:LB) (k:(Int×Int×L66)→Option R):Option R:=ob (c82 p0) fun y0=>cond (!B.eq y0.1 0) (k ((y0.1,y0.2.1,mt (Ty.den ty66)))) (ob (c83 1 y0.2.2 0 0 0 (mt (Ty.den ty66))) fun y1=>cond (B.eq y1.2.2.1 0) (cond (B.inb y1.2.1 (List.length y0.2.2)) (cond (!B.eq (List.getD y0.2.2 (Int.toNat y1.2.1) ty130.dflt).1 5) (ob (c84 2 y1.2.1 y1.1 y1.2.1 y1.2.2.1 y1.2.2.2.1 y1.2.2.2.2) fun y2=>cond (!B.eq y2.2.2.1 0) (cond (B.inb y2.2.2.2.1 (List.length y0.2.2)) (k ((y2.2.2.1,(((List.getD y0.2.2 (Int.toNat y2.2.2.2.1) ty130.dflt).2).2).2,mt (Ty.den ty66)))) none) (cond (B.lt 24 (Nat.cast (List.length y2.2.2.2.2))) (k ((13,0,mt (Ty.den ty66)))) (k (0,0,y2.2.2.2.2)))) (cond (!B.eq y1.2.2.1 0) (cond (B.inb y1.2.2.2.1 (List.length y0.2.2)) (k ((y1.2.2.1,(((List.getD y0.2.2 (Int.toNat y1.2.2.2.1) ty130.dflt).2).2).2,mt (Ty.den ty66)))) none) (cond (B.lt 24 (Nat.cast (List.length y1.2.2.2.2))) (k ((13,0,mt (Ty.den ty66)))) (k (0,0,y1.2.2.2.2))))) none) (cond (!B.eq y1.2.2.1 0) (cond (B.inb y1.2.2.2.1 (List.length y0.2.2)) (k ((y1.2.2.1,(((List.getD y0.2.2 (Int.toNat y1.2.2.2.1) ty130.dflt).2).2).2,mt (Ty.den ty66)))) none) (cond (B.lt 24 (Nat.cast (List.length y1.2.2.2.2))) (k ((13,0,mt (Ty.den ty66)))) (k (0,0,y1.2.2.2.2)))))
abbrev K33 {R:Type} (k:AV→Objs→Option R) (y:(Int×Int×L66)):Option R:=k (.tup [(false,[.own 501000]),(false,[.int .i64 y.1]),(false,[.int .i64 y.2.1])]) [(501000,.row 66 ty66 y.2.2)]
theorem eq45 {R:Type} (B:Ops) (c82:C82) (c83:C83) (c84:C84) (p0:LB) (k:AV→Objs→Option R) (n:Nat):afun tau B gl0 X45 (ent 82 (e82 c82) (ent 83 (e83 c83) (ent 84 (e84 c84) gnil))) ow Tryz.f45 [.c (.str p0)] [] k n=T45 B c82 c83 c84 p0 (K33 k):=by kernel_rfl
theorem nt45 {R R':Type} (B:Ops) (c82:C82) (c83:C83) (c84:C84) (p0:LB) (k0:(Int×Int×L66)→Option R') (k:R'→Option R):T45 B c82 c83 c84 p0 (fun y=>ob (k0 y) k)=ob (T45 B c82 c83 c84 p0 k0) k:=by
 unfold T45
 repeat' first | exact rfl | apply qad | (apply qaj;intro)
def F45 (c82:C82) (c83:C83) (c84:C84) (p0:LB):Option (Int×Int×L66):=T45 Ops.std c82 c83 c84 p0 some
abbrev C45:Type:=LB→Option (Int×Int×L66)
def e45 {R:Type} (c:C45):Ent R:=eG [.aC .cS] [] fun v k=>ob (c v.1) (K33 k)
abbrev Sp45 (c:C45):Prop:=∀ (p0:LB) (y:Int×Int×L66),c p0=some y→Spec Tryz.prog gl0 45 [.c (.str p0)] [] (.tup [(false,[.own 501000]),(false,[.int .i64 y.1]),(false,[.int .i64 y.2.1])]) [(501000,.row 66 ty66 y.2.2)]
theorem ek45 {R:Type} {c:C45} (hs:Sp45 c):EOk 45 (e45 (R:=R) c):=qal fun v=>hs v.1
theorem sf45 {c82:C82} {c83:C83} {c84:C84} (h82:Sp82 c82) (h83:Sp83 c83) (h84:Sp84 c84):Sp45 (F45 c82 c83 c84):=fun p0 y hy=>by
 refine qai (qac (ek82 h82) (qac (ek83 h83) (qac (ek84 h84) qah))) 1000000 (fn:=Tryz.f45) (by kernel_rfl) (by kernel_rfl) (X:=X45) (by kernel_rfl) ?_
 rw [eq45]
 exact (nt45 Ops.std c82 c83 c84 p0 some (K33 k0)).trans (by show ob (F45 c82 c83 c84 p0) _=_;rw [hy];rfl)
noncomputable def M45:C45:=F45 M82 M83 M84
theorem sm45:Sp45 M45:=sf45 sm82 sm83 sm84
def X73:Aux:=⟨[],[]⟩
def T73 {R:Type} (B:Ops) (p0:Int) (k:(Int)→Option R):Option R:=cond (B.eq p0 1) (k 0) (cond (B.eq p0 2) (k 0) (cond (B.eq p0 3) (k 0) (cond (B.eq p0 4) (k 1) (cond (B.eq p0 8) (k 1) (cond (B.eq p0 11) (k 1) (cond (B.eq p0 12) (k 1) (cond (B.eq p0 5) (k 2) (cond (B.eq p0 6) (k 2) (cond (B.eq p0 7) (k 2) (cond (B.eq p0 9) (k 2) (cond (B.eq p0 10) (k 2) (k (-1)))))))))))))
theorem eq73 {R:Type} (B:Ops) (p0:Int) (k:AV→Objs→Option R) (n:Nat):afun tau B gl0 X73 gnil ow Tryz.f73 [.c (.int .i64 p0)] [] k n=T73 B p0 (K1 k):=by kernel_rfl
theorem nt73 {R R':Type} (B:Ops) (p0:Int) (k0:(Int)→Option R') (k:R'→Option R):T73 B p0 (fun y=>ob (k0 y) k)=ob (T73 B p0 k0) k:=by
 unfold T73
 repeat' first | exact rfl | apply qad | (apply qaj;intro)
def F73 (p0:Int):Option (Int):=T73 Ops.std p0 some
abbrev C73:Type:=Int→Option (Int)
def e73 {R:Type} (c:C73):Ent R:=eG [.aC (.cI .i64)] [] fun v k=>ob (c v.1) (K1 k)
abbrev Sp73 (c:C73):Prop:=∀ (p0 y:Int),c p0=some y→Spec Tryz.prog gl0 73 [.c (.int .i64 p0)] [] (.c (.int .i64 y)) []
theorem ek73 {R:Type} {c:C73} (hs:Sp73 c):EOk 73 (e73 (R:=R) c):=qal fun v=>hs v.1
theorem sf73:Sp73 (F73):=fun p0 y hy=>by
 refine qai qah 1000000 (fn:=Tryz.f73) (by kernel_rfl) (by kernel_rfl) (X:=X73) (by kernel_rfl) ?_
 rw [eq73]
 exact (nt73 Ops.std p0 some (K1 k0)).trans (by show ob (F73 p0) _=_;rw [hy];rfl)
noncomputable def M73:C73:=F73
theorem sm73:Sp73 M73:=sf73
def X63:Aux:=⟨[(3,([1,2]++rg 5 65))],[]⟩
inductive S63 where
 | l0 (v1 v2:Int)
def T63 {R:Type} (B:Ops) (c73:C73) (c110:C110) (p0:L66) (again:S63→Option R) (k:(Bool)→Option R):Option S63→Option R | none=>again (.l0 0 0) | some (.l0 v1 v2)=>cond (B.lt v2 (↑p0.length)) (cond (B.inb v2 p0.length) (ob (c73 (p0.getD v2.toNat ty66.dflt).1) fun y0=>cond (B.lt y0 0) (k false) (cond (B.lt v1 y0) (k false) (cond (B.inb v2 p0.length) (cond (B.eq (p0.getD v2.toNat ty66.dflt).1 3) (cond (B.inb v2 p0.length) (ob (c110 (p0.getD v2.toNat ty66.dflt).2) fun y1=>cond (!y1) (k false) (cond (B.inb v2 p0.length) (cond (!B.eq (p0.getD v2.toNat ty66.dflt).1 3) (cond (B.inb v2 p0.length) (cond (B.lt 0 (Nat.cast (List.length (p0.getD v2.toNat ty66.dflt).2))) (k false) (again (.l0 (IntKind.wrap .i64 (IntKind.wrap .i64 (v1-y0)+1)) (IntKind.wrap .i64 (v2+1))))) none) (again (.l0 (IntKind.wrap .i64 (IntKind.wrap .i64 (v1-y0)+1)) (IntKind.wrap .i64 (v2+1))))) none)) none) (cond (B.inb v2 p0.length) (cond (!B.eq (p0.getD v2.toNat ty66.dflt).1 3) (cond (B.inb v2 p0.length) (cond (B.lt 0 (Nat.cast (List.length (p0.getD v2.toNat ty66.dflt).2))) (k false) (again (.l0 (IntKind.wrap .i64 (IntKind.wrap .i64 (v1-y0)+1)) (IntKind.wrap .i64 (v2+1))))) none) (again (.l0 (IntKind.wrap .i64 (IntKind.wrap .i64 (v1-y0)+1)) (IntKind.wrap .i64 (v2+1))))) none)) none))) none) (cond (B.eq v1 1) (k (B.le (↑p0.length) 60)) (k false))
def E63 (p0:L66):S63→List AV×Objs
 | .l0 v1 v2=>(mk 70 [(0,.c (.list 66 ty66 p0)),(3,.c (.int .i64 v1)),(4,.c (.int .i64 v2))],[])
def I63:S63→Nat
 | .l0 _ _=>0
noncomputable abbrev A63 {R:Type} (B:Ops) (c73:C73) (c110:C110) (p0:L66) (k:AV→Objs→Option R) (s:S63) (n:Nat):Option R:=aloop tau B gl0 X63 (ent 73 (e73 c73) (ent 110 (e110 c110) gnil)) ow [] Tryz.f63 k (I63 s) (E63 p0 s) n
theorem eq63 {R:Type} (B:Ops) (c73:C73) (c110:C110) (p0:L66) (k:AV→Objs→Option R) (n:Nat):afun tau B gl0 X63 (ent 73 (e73 c73) (ent 110 (e110 c110) gnil)) ow Tryz.f63 [.c (.list 66 ty66 p0)] [] k n=T63 B c73 c110 p0 (fun s=>A63 B c73 c110 p0 k s n) (K2 k) none:=by kernel_rfl
theorem el63 {R:Type} (B:Ops) (c73:C73) (c110:C110) (p0:L66) (k:AV→Objs→Option R) (n:Nat):∀ s,A63 B c73 c110 p0 k s (n+1)=T63 B c73 c110 p0 (fun s=>A63 B c73 c110 p0 k s n) (K2 k) (some s):=by
 intro s
 cases s<;>kernel_rfl
theorem nt63 {R R':Type} (B:Ops) (c73:C73) (c110:C110) (p0:L66) (again:S63→Option R) (again':S63→Option R') (k0:(Bool)→Option R') (k:R'→Option R) (h:∀ s,again s=ob (again' s) k):∀ s,T63 B c73 c110 p0 again (fun y=>ob (k0 y) k) s=ob (T63 B c73 c110 p0 again' k0 s) k:=by
 rintro (_ | x)
 all_goals try cases x
 all_goals (unfold T63;repeat' first | exact rfl | exact h _ | apply qad | (apply qaj;intro))
def R63 (c73:C73) (c110:C110) (p0:L66):Nat→S63→Option (Bool)
 | 0,_=>none
 | n+1,s=>T63 Ops.std c73 c110 p0 (R63 c73 c110 p0 n) some (some s)
theorem rr63 {R:Type} (c73:C73) (c110:C110) (p0:L66) (k:AV→Objs→Option R):∀ (n:Nat) (s:S63),A63 Ops.std c73 c110 p0 k s n=ob (R63 c73 c110 p0 n s) (K2 k)
 | 0,s=>by cases s<;>rfl
 | n+1,s=>by rw [el63];exact nt63 Ops.std c73 c110 p0 _ _ some (K2 k) (rr63 c73 c110 p0 k n) (some s)
def F63 (c73:C73) (c110:C110) (p0:L66):Option (Bool):=T63 Ops.std c73 c110 p0 (R63 c73 c110 p0 1000000) some none
abbrev C63:Type:=L66→Option (Bool)
def e63 {R:Type} (c:C63):Ent R:=eG [.aC (.cL 66 ty66)] [] fun v k=>ob (c v.1) (K2 k)
abbrev Sp63 (c:C63):Prop:=∀ (p0:L66) (y:Bool),c p0=some y→Spec Tryz.prog gl0 63 [.c (.list 66 ty66 p0)] [] (.c (.bool y)) []
theorem ek63 {R:Type} {c:C63} (hs:Sp63 c):EOk 63 (e63 (R:=R) c):=qal fun v=>hs v.1
theorem sf63 {c73:C73} {c110:C110} (h73:Sp73 c73) (h110:Sp110 c110):Sp63 (F63 c73 c110):=fun p0 y hy=>by
 refine qai (qac (ek73 h73) (qac (ek110 h110) qah)) 1000000 (fn:=Tryz.f63) (by kernel_rfl) (by kernel_rfl) (X:=X63) (by kernel_rfl) ?_
 rw [eq63]
 exact (nt63 Ops.std c73 c110 p0 _ _ some (K2 k0) (rr63 c73 c110 p0 k0 1000000) none).trans (by show ob (F63 c73 c110 p0) _=_;rw [hy];rfl)
noncomputable def M63:C63:=F63 M73 M110
theorem sm63:Sp63 M63:=sf63 sm73 sm110
abbrev C50:Type:=Int→L3→Int→Option (LB×L3×Int)
def e50 {R:Type} (c:C50):Ent R:=eG [.aC (.cP 0),.aC (.cI .i64)] [.oB 0 86 [.cL 3 ty3,.cI .i64]] fun v k=>ob (c v.1 v.2.1 v.2.2.1) (K18 k)
abbrev Sp50 (c:C50):Prop:=∀ (p0:Int) (p1:L3) (p2:Int) (y:LB×L3×Int),c p0 p1 p2=some y→Spec Tryz.prog gl0 50 [.c (.ptr 0 0),.c (.int .i64 p0)] [(0,.box 86 [.list 3 ty3 p1,.int .i64 p2])] (.c (.str y.1)) [(0,.box 86 [.list 3 ty3 y.2.1,.int .i64 y.2.2])]
theorem ek50 {R:Type} {c:C50} (hs:Sp50 c):EOk 50 (e50 (R:=R) c):=qal fun v=>hs v.1 v.2.1 v.2.2.1
def X50:Aux:=⟨[(1000004,([2,3,4]++rg 6 105))],[(11,.lin ([0,1,2,5,6,10,11,12,3,4,7,8,9,13,14,15,16])),(13,.lin ([0,1,2,5,6,10,11,12,3,4,7,8,9,13,14,15,16]))]⟩
inductive S50 where
 | l1004 (v1:Int) (v2:L3) (v3:Int)
def T50 {R:Type} (B:Ops) (c94:C94) (c50:C50) (p0:Int) (p1:L3) (p2:Int) (again:S50→Option R) (k:(LB×L3×Int)→Option R):Option S50→Option R | none=>ob (c94 22 p1 p2) fun y0=>cond (B.lt 2 p0) (cond (B.eq 4 0) none (again (.l1004 (IntKind.wrap .i64 (18+Int.tmod y0.1 4)) y0.2.1 y0.2.2))) (cond (B.lt 9 y0.2.2) (cond (B.eq 4 0) none (again (.l1004 (IntKind.wrap .i64 (18+Int.tmod y0.1 4)) y0.2.1 y0.2.2))) (again (.l1004 y0.1 y0.2.1 y0.2.2))) | some (.l1004 v1 v2 v3)=>cond (B.lt v1 3) (ob (c50 (IntKind.wrap .i64 (p0+1)) v2 v3) fun y0=>cond (B.lim (3+List.length y0.1) 1) (cond (B.lim (List.length (([71,32,40]:LB)++y0.1)+1) 1) (k ((([71,32,40]:LB)++y0.1++([41]:LB),y0.2.1,y0.2.2))) none) none) (cond (B.lt v1 6) (ob (c50 (IntKind.wrap .i64 (p0+1)) v2 v3) fun y0=>cond (B.lim (3+List.length y0.1) 1) (cond (B.lim (List.length (([70,32,40]:LB)++y0.1)+1) 1) (k ((([70,32,40]:LB)++y0.1++([41]:LB),y0.2.1,y0.2.2))) none) none) (cond (B.lt v1 8) (ob (c50 (IntKind.wrap .i64 (p0+1)) v2 v3) fun y0=>cond (B.lim (2+List.length y0.1) 1) (k ((([88,32]:LB)++y0.1,y0.2.1,y0.2.2))) none) (cond (B.lt v1 11) (ob (c50 (IntKind.wrap .i64 (p0+1)) v2 v3) fun y0=>cond (B.lim (1+List.length y0.1) 1) (ob (c94 2 y0.2.1 y0.2.2) fun y1=>cond (B.inb y1.1 2) (cond (B.lim (List.length (([40]:LB)++y0.1)+List.length (List.getD (([32,85,32]:LB)::([32,82,32]:LB)::mt LB) (Int.toNat y1.1) (mt UInt8))) 1) (ob (c50 (IntKind.wrap .i64 (p0+1)) y1.2.1 y1.2.2) fun y2=>cond (B.lim (List.length (([40]:LB)++y0.1++List.getD (([32,85,32]:LB)::([32,82,32]:LB)::mt LB) (Int.toNat y1.1) (mt UInt8))+List.length y2.1) 1) (cond (B.lim (List.length (([40]:LB)++y0.1++List.getD (([32,85,32]:LB)::([32,82,32]:LB)::mt LB) (Int.toNat y1.1) (mt UInt8)++y2.1)+1) 1) (k ((([40]:LB)++y0.1++List.getD (([32,85,32]:LB)::([32,82,32]:LB)::mt LB) (Int.toNat y1.1) (mt UInt8)++y2.1++([41]:LB),y2.2.1,y2.2.2))) none) none) none) none) none) (cond (B.lt v1 15) (ob (c50 (IntKind.wrap .i64 (p0+1)) v2 v3) fun y0=>cond (B.lim (1+List.length y0.1) 1) (ob (c94 3 y0.2.1 y0.2.2) fun y1=>cond (B.inb y1.1 3) (cond (B.lim (List.length (([40]:LB)++y0.1)+List.length (List.getD (([32,38,38,32]:LB)::([32,124,124,32]:LB)::([32,45,62,32]:LB)::mt LB) (Int.toNat y1.1) (mt UInt8))) 1) (ob (c50 (IntKind.wrap .i64 (p0+1)) y1.2.1 y1.2.2) fun y2=>cond (B.lim (List.length (([40]:LB)++y0.1++List.getD (([32,38,38,32]:LB)::([32,124,124,32]:LB)::([32,45,62,32]:LB)::mt LB) (Int.toNat y1.1) (mt UInt8))+List.length y2.1) 1) (cond (B.lim (List.length (([40]:LB)++y0.1++List.getD (([32,38,38,32]:LB)::([32,124,124,32]:LB)::([32,45,62,32]:LB)::mt LB) (Int.toNat y1.1) (mt UInt8)++y2.1)+1) 1) (k ((([40]:LB)++y0.1++List.getD (([32,38,38,32]:LB)::([32,124,124,32]:LB)::([32,45,62,32]:LB)::mt LB) (Int.toNat y1.1) (mt UInt8)++y2.1++([41]:LB),y2.2.1,y2.2.2))) none) none) none) none) none) (cond (B.lt v1 17) (ob (c50 (IntKind.wrap .i64 (p0+1)) v2 v3) fun y0=>cond (B.lim (1+List.length y0.1) 1) (k ((([33]:LB)++y0.1,y0.2.1,y0.2.2))) none) (cond (B.eq v1 17) (ob (c50 (IntKind.wrap .i64 (p0+1)) v2 v3) fun y0=>cond (B.lim (4+List.length y0.1) 1) (k ((([71,32,70,32]:LB)++y0.1,y0.2.1,y0.2.2))) none) (cond (B.eq v1 18) (ob (c94 2 v2 v3) fun y0=>cond (B.inb y0.1 2) (k ((List.getD (([116,114,117,101]:LB)::([102,97,108,115,101]:LB)::mt LB) (Int.toNat y0.1) (mt UInt8),y0.2.1,y0.2.2))) none) (ob (c94 6 v2 v3) fun y0=>cond (B.inb y0.1 6) (k ((List.getD (([91,120,61,61,49,93]:LB)::([91,112,64,97,93]:LB)::([91,121,60,49,93]:LB)::([91,113,64,98,38,38,120,62,48,93]:LB)::([91,120,61,61,121,93]:LB)::([91,112,64,98,93]:LB)::mt LB) (Int.toNat y0.1) (mt UInt8),y0.2.1,y0.2.2))) none))))))))
def E50 (p0:Int) (p1:L3) (p2:Int):S50→List AV×Objs
 | .l1004 v1 v2 v3=>(mk 111 [(0,.c (.ptr 0 0)),(1,.c (.int .i64 p0)),(5,.c (.int .i64 v1))],[(0,.box 86 [.list 3 ty3 v2,.int .i64 v3])])
def I50:S50→Nat
 | .l1004 _ _ _=>1004
noncomputable abbrev A50 {R:Type} (B:Ops) (c94:C94) (c50:C50) (p0:Int) (p1:L3) (p2:Int) (k:AV→Objs→Option R) (s:S50) (n:Nat):Option R:=aloop tau B gl0 X50 (ent 94 (e94 c94) (ent 50 (e50 c50) gnil)) ow [0] Tryz.f50 k (I50 s) (E50 p0 p1 p2 s) n
theorem eq50 {R:Type} (B:Ops) (c94:C94) (c50:C50) (p0:Int) (p1:L3) (p2:Int) (k:AV→Objs→Option R) (n:Nat):afun tau B gl0 X50 (ent 94 (e94 c94) (ent 50 (e50 c50) gnil)) ow Tryz.f50 [.c (.ptr 0 0),.c (.int .i64 p0)] [(0,.box 86 [.list 3 ty3 p1,.int .i64 p2])] k n=T50 B c94 c50 p0 p1 p2 (fun s=>A50 B c94 c50 p0 p1 p2 k s n) (K18 k) none:=by kernel_rfl
theorem el50 {R:Type} (B:Ops) (c94:C94) (c50:C50) (p0:Int) (p1:L3) (p2:Int) (k:AV→Objs→Option R) (n:Nat):∀ s,A50 B c94 c50 p0 p1 p2 k s (n+1)=T50 B c94 c50 p0 p1 p2 (fun s=>A50 B c94 c50 p0 p1 p2 k s n) (K18 k) (some s):=by
 intro s
 cases s<;>kernel_rfl
theorem nt50 {R R':Type} (B:Ops) (c94:C94) (c50:C50) (p0:Int) (p1:L3) (p2:Int) (again:S50→Option R) (again':S50→Option R') (k0:(LB×L3×Int)→Option R') (k:R'→Option R) (h:∀ s,again s=ob (again' s) k):∀ s,T50 B c94 c50 p0 p1 p2 again (fun y=>ob (k0 y) k) s=ob (T50 B c94 c50 p0 p1 p2 again' k0 s) k:=by
 rintro (_ | x)
 all_goals try cases x
 all_goals (unfold T50;repeat' first | exact rfl | exact h _ | apply qad | (apply qaj;intro))
def R50 (c94:C94) (c50:C50) (p0:Int) (p1:L3) (p2:Int):Nat→S50→Option (LB×L3×Int)
 | 0,_=>none
 | n+1,s=>T50 Ops.std c94 c50 p0 p1 p2 (R50 c94 c50 p0 p1 p2 n) some (some s)
theorem rr50 {R:Type} (c94:C94) (c50:C50) (p0:Int) (p1:L3) (p2:Int) (k:AV→Objs→Option R):∀ (n:Nat) (s:S50),A50 Ops.std c94 c50 p0 p1 p2 k s n=ob (R50 c94 c50 p0 p1 p2 n s) (K18 k)
 | 0,s=>by cases s<;>rfl
 | n+1,s=>by rw [el50];exact nt50 Ops.std c94 c50 p0 p1 p2 _ _ some (K18 k) (rr50 c94 c50 p0 p1 p2 k n) (some s)
def F50 (c94:C94) (c50:C50) (p0:Int) (p1:L3) (p2:Int):Option (LB×L3×Int):=T50 Ops.std c94 c50 p0 p1 p2 (R50 c94 c50 p0 p1 p2 1000000) some none
theorem sf50 {c94:C94} {c50:C50} (h94:Sp94 c94) (h50:Sp50 c50):Sp50 (F50 c94 c50):=fun p0 p1 p2 y hy=>by
 refine qai (qac (ek94 h94) (qac (ek50 h50) qah)) 1000000 (fn:=Tryz.f50) (by kernel_rfl) (by kernel_rfl) (X:=X50) (by kernel_rfl) ?_
 rw [eq50]
 exact (nt50 Ops.std c94 c50 p0 p1 p2 _ _ some (K18 k0) (rr50 c94 c50 p0 p1 p2 k0 1000000) none).trans (by show ob (F50 c94 c50 p0 p1 p2) _=_;rw [hy];rfl)
noncomputable def Rec50:Nat→(Int→L3→Int→Option (LB×L3×Int))
 | 0=>fun _ _ _=>none
 | d+1=>F50 M94 (Rec50 d)
theorem rec50:∀ d,Sp50 (Rec50 d)
 | 0=>fun p0 p1 p2 y (h:(none:Option (LB×L3×Int))=some y)=>by cases h
 | d+1=>sf50 sm94 (rec50 d)
noncomputable def M50:C50:=(Rec50 1000000)
theorem sm50:Sp50 M50:=(rec50 1000000)
def X15:Aux:=⟨[],[]⟩
def T15 {R:Type} (B:Ops) (c50:C50) (p0:L3) (k:(LB)→Option R):Option R:=ob (c50 0 p0 0) fun y0=>k y0.1
theorem eq15 {R:Type} (B:Ops) (c50:C50) (p0:L3) (k:AV→Objs→Option R) (n:Nat):afun tau B gl0 X15 (ent 50 (e50 c50) gnil) ow Tryz.f15 [.c (.list 3 ty3 p0)] [] k n=T15 B c50 p0 (K3 k):=by kernel_rfl
theorem nt15 {R R':Type} (B:Ops) (c50:C50) (p0:L3) (k0:(LB)→Option R') (k:R'→Option R):T15 B c50 p0 (fun y=>ob (k0 y) k)=ob (T15 B c50 p0 k0) k:=by
 unfold T15
 repeat' first | exact rfl | apply qad | (apply qaj;intro)
def F15 (c50:C50) (p0:L3):Option (LB):=T15 Ops.std c50 p0 some
abbrev C15:Type:=L3→Option (LB)
def e15 {R:Type} (c:C15):Ent R:=eG [.aC (.cL 3 ty3)] [] fun v k=>ob (c v.1) (K3 k)
abbrev Sp15 (c:C15):Prop:=∀ (p0:L3) (y:LB),c p0=some y→Spec Tryz.prog gl0 15 [.c (.list 3 ty3 p0)] [] (.c (.str y)) []
theorem ek15 {R:Type} {c:C15} (hs:Sp15 c):EOk 15 (e15 (R:=R) c):=qal fun v=>hs v.1
theorem sf15 {c50:C50} (h50:Sp50 c50):Sp15 (F15 c50):=fun p0 y hy=>by
 refine qai (qac (ek50 h50) qah) 1000000 (fn:=Tryz.f15) (by kernel_rfl) (by kernel_rfl) (X:=X15) (by kernel_rfl) ?_
 rw [eq15]
 exact (nt15 Ops.std c50 p0 some (K3 k0)).trans (by show ob (F15 c50 p0) _=_;rw [hy];rfl)
noncomputable def M15:C15:=F15 M50
theorem sm15:Sp15 M15:=sf15 sm50
def X37:Aux:=⟨[(6,([1,2]++rg 6 37))],[]⟩
inductive S37 where
 | l0 (v1:Int) (v2:L22) (v3:L3)
def T37 {R:Type} (B:Ops) (c63:C63) (c73:C73) (p0:L66) (again:S37→Option R) (k:(L22)→Option R):Option S37→Option R | none=>ob (c63 p0) fun y0=>cond (!y0) (k (mt (Ty.den ty22))) (again (.l0 0 (mt (Ty.den ty22)) (mt (Ty.den (Ty.int .i64))))) | some (.l0 v1 v2 v3)=>cond (B.lt v1 (↑p0.length)) (cond (B.inb v1 p0.length) (ob (c73 (p0.getD v1.toNat ty66.dflt).1) fun y0=>cond (B.lt (IntKind.wrap .i64 (Nat.cast v3.length-y0)) 0) (k (mt (Ty.den ty22))) (cond (B.inb (IntKind.wrap .i64 (Nat.cast v3.length-y0)) (List.length v3+1)) (cond (B.lim (List.length (mt (Ty.den (Ty.int .i64)))+List.length (List.drop (Int.toNat (IntKind.wrap .i64 (Nat.cast v3.length-y0))) (List.take v3.length v3))) 8) (cond (B.lim (List.length v2+List.length ((mt (Ty.den (Ty.int .i64))++List.drop (Int.toNat (IntKind.wrap .i64 (Nat.cast v3.length-y0))) (List.take v3.length v3))::mt (Ty.den ty22))) 24) (cond (B.eq (IntKind.wrap .i64 (Nat.cast v3.length-y0)) (IntKind.wrap .i64 (Nat.cast v3.length-y0))) (cond (B.inb (IntKind.wrap .i64 (Nat.cast v3.length-y0)) (List.length v3+1)) (cond (B.lt 0 (Nat.cast (List.length (v1::mt (Ty.den (Ty.int .i64)))))) (cond (B.lim (List.length (List.take (Int.toNat (IntKind.wrap .i64 (Nat.cast v3.length-y0))) v3)+List.length (v1::mt (Ty.den (Ty.int .i64)))) 8) (again (.l0 (IntKind.wrap .i64 (v1+1)) (v2++(mt (Ty.den (Ty.int .i64))++List.drop (Int.toNat (IntKind.wrap .i64 (Nat.cast v3.length-y0))) (List.take v3.length v3))::mt (Ty.den ty22)) (List.take (Int.toNat (IntKind.wrap .i64 (Nat.cast v3.length-y0))) v3++v1::mt (Ty.den (Ty.int .i64))))) none) none) none) none) none) none) none)) none) (k v2)
def E37 (p0:L66):S37→List AV×Objs
 | .l0 v1 v2 v3=>(mk 43 [(0,.c (.list 66 ty66 p0)),(3,.c (.own 3)),(4,.c (.own 4)),(5,.c (.int .i64 v1))],[(3,.row 22 ty22 v2),(4,.row 3 ty3 v3)])
def I37:S37→Nat
 | .l0 _ _ _=>0
noncomputable abbrev A37 {R:Type} (B:Ops) (c63:C63) (c73:C73) (p0:L66) (k:AV→Objs→Option R) (s:S37) (n:Nat):Option R:=aloop tau B gl0 X37 (ent 63 (e63 c63) (ent 73 (e73 c73) gnil)) ow [] Tryz.f37 k (I37 s) (E37 p0 s) n
theorem eq37 {R:Type} (B:Ops) (c63:C63) (c73:C73) (p0:L66) (k:AV→Objs→Option R) (n:Nat):afun tau B gl0 X37 (ent 63 (e63 c63) (ent 73 (e73 c73) gnil)) ow Tryz.f37 [.c (.list 66 ty66 p0)] [] k n=T37 B c63 c73 p0 (fun s=>A37 B c63 c73 p0 k s n) (K5 k) none:=by kernel_rfl
theorem el37 {R:Type} (B:Ops) (c63:C63) (c73:C73) (p0:L66) (k:AV→Objs→Option R) (n:Nat):∀ s,A37 B c63 c73 p0 k s (n+1)=T37 B c63 c73 p0 (fun s=>A37 B c63 c73 p0 k s n) (K5 k) (some s):=by
 intro s
 cases s<;>kernel_rfl
theorem nt37 {R R':Type} (B:Ops) (c63:C63) (c73:C73) (p0:L66) (again:S37→Option R) (again':S37→Option R') (k0:(L22)→Option R') (k:R'→Option R) (h:∀ s,again s=ob (again' s) k):∀ s,T37 B c63 c73 p0 again (fun y=>ob (k0 y) k) s=ob (T37 B c63 c73 p0 again' k0 s) k:=by
 rintro (_ | x)
 all_goals try cases x
 all_goals (unfold T37;repeat' first | exact rfl | exact h _ | apply qad | (apply qaj;intro))
def R37 (c63:C63) (c73:C73) (p0:L66):Nat→S37→Option (L22)
 | 0,_=>none
 | n+1,s=>T37 Ops.std c63 c73 p0 (R37 c63 c73 p0 n) some (some s)
theorem rr37 {R:Type} (c63:C63) (c73:C73) (p0:L66) (k:AV→Objs→Option R):∀ (n:Nat) (s:S37),A37 Ops.std c63 c73 p0 k s n=ob (R37 c63 c73 p0 n s) (K5 k)
 | 0,s=>by cases s<;>rfl
 | n+1,s=>by rw [el37];exact nt37 Ops.std c63 c73 p0 _ _ some (K5 k) (rr37 c63 c73 p0 k n) (some s)
def F37 (c63:C63) (c73:C73) (p0:L66):Option (L22):=T37 Ops.std c63 c73 p0 (R37 c63 c73 p0 1000000) some none
abbrev C37:Type:=L66→Option (L22)
def e37 {R:Type} (c:C37):Ent R:=eG [.aC (.cL 66 ty66)] [] fun v k=>ob (c v.1) (K5 k)
abbrev Sp37 (c:C37):Prop:=∀ (p0:L66) (y:L22),c p0=some y→Spec Tryz.prog gl0 37 [.c (.list 66 ty66 p0)] [] (.c (.own 500)) [(500,.row 22 ty22 y)]
theorem ek37 {R:Type} {c:C37} (hs:Sp37 c):EOk 37 (e37 (R:=R) c):=qal fun v=>hs v.1
theorem sf37 {c63:C63} {c73:C73} (h63:Sp63 c63) (h73:Sp73 c73):Sp37 (F37 c63 c73):=fun p0 y hy=>by
 refine qai (qac (ek63 h63) (qac (ek73 h73) qah)) 1000000 (fn:=Tryz.f37) (by kernel_rfl) (by kernel_rfl) (X:=X37) (by kernel_rfl) ?_
 rw [eq37]
 exact (nt37 Ops.std c63 c73 p0 _ _ some (K5 k0) (rr37 c63 c73 p0 k0 1000000) none).trans (by show ob (F37 c63 c73 p0) _=_;rw [hy];rfl)
noncomputable def M37:C37:=F37 M63 M73
theorem sm37:Sp37 M37:=sf37 sm63 sm73
def X19:Aux:=⟨[(2,([0,3,4]++rg 6 24))],[(4,.lin (rg 0 16))]⟩
inductive S19 where
 | l0 (v1:Int)
def T19 {R:Type} (B:Ops) (c62:C62) (c63:C63) (p0:L94) (p1:L98) (p2:L103) (p3:L66) (again:S19→Option R) (k:(Bool)→Option R):Option S19→Option R | none=>again (.l0 0) | some (.l0 v1)=>cond (B.lt v1 (↑p3.length)) (cond (B.inb v1 p3.length) (cond (B.eq (p3.getD v1.toNat ty66.dflt).1 3) (cond (B.inb v1 p3.length) (ob (c62 p0 p1 p2 (p3.getD v1.toNat ty66.dflt).2) fun y0=>cond (!y0) (k false) (again (.l0 (IntKind.wrap .i64 (v1+1))))) none) (again (.l0 (IntKind.wrap .i64 (v1+1))))) none) (ob (c63 p3) fun y0=>k y0)
def E19 (p0:L94) (p1:L98) (p2:L103) (p3:L66):S19→List AV×Objs
 | .l0 v1=>(mk 30 [(1,.c (.list 66 ty66 p3)),(2,.c (.ptr 2 0)),(5,.c (.int .i64 v1))],[(2,.box 31 [.list 94 ty94 p0,.list 98 ty98 p1,.list 103 ty103 p2])])
def I19:S19→Nat
 | .l0 _=>0
noncomputable abbrev A19 {R:Type} (B:Ops) (c62:C62) (c63:C63) (p0:L94) (p1:L98) (p2:L103) (p3:L66) (k:AV→Objs→Option R) (s:S19) (n:Nat):Option R:=aloop tau B gl0 X19 (ent 62 (e62 c62) (ent 63 (e63 c63) gnil)) ow [] Tryz.f19 k (I19 s) (E19 p0 p1 p2 p3 s) n
theorem eq19 {R:Type} (B:Ops) (c62:C62) (c63:C63) (p0:L94) (p1:L98) (p2:L103) (p3:L66) (k:AV→Objs→Option R) (n:Nat):afun tau B gl0 X19 (ent 62 (e62 c62) (ent 63 (e63 c63) gnil)) ow Tryz.f19 [.agg [.list 94 ty94 p0,.list 98 ty98 p1,.list 103 ty103 p2],.c (.list 66 ty66 p3)] [] k n=T19 B c62 c63 p0 p1 p2 p3 (fun s=>A19 B c62 c63 p0 p1 p2 p3 k s n) (K2 k) none:=by kernel_rfl
theorem el19 {R:Type} (B:Ops) (c62:C62) (c63:C63) (p0:L94) (p1:L98) (p2:L103) (p3:L66) (k:AV→Objs→Option R) (n:Nat):∀ s,A19 B c62 c63 p0 p1 p2 p3 k s (n+1)=T19 B c62 c63 p0 p1 p2 p3 (fun s=>A19 B c62 c63 p0 p1 p2 p3 k s n) (K2 k) (some s):=by
 intro s
 cases s<;>kernel_rfl
theorem nt19 {R R':Type} (B:Ops) (c62:C62) (c63:C63) (p0:L94) (p1:L98) (p2:L103) (p3:L66) (again:S19→Option R) (again':S19→Option R') (k0:(Bool)→Option R') (k:R'→Option R) (h:∀ s,again s=ob (again' s) k):∀ s,T19 B c62 c63 p0 p1 p2 p3 again (fun y=>ob (k0 y) k) s=ob (T19 B c62 c63 p0 p1 p2 p3 again' k0 s) k:=by
 rintro (_ | x)
 all_goals try cases x
 all_goals (unfold T19;repeat' first | exact rfl | exact h _ | apply qad | (apply qaj;intro))
def R19 (c62:C62) (c63:C63) (p0:L94) (p1:L98) (p2:L103) (p3:L66):Nat→S19→Option (Bool)
 | 0,_=>none
 | n+1,s=>T19 Ops.std c62 c63 p0 p1 p2 p3 (R19 c62 c63 p0 p1 p2 p3 n) some (some s)
theorem rr19 {R:Type} (c62:C62) (c63:C63) (p0:L94) (p1:L98) (p2:L103) (p3:L66) (k:AV→Objs→Option R):∀ (n:Nat) (s:S19),A19 Ops.std c62 c63 p0 p1 p2 p3 k s n=ob (R19 c62 c63 p0 p1 p2 p3 n s) (K2 k)
 | 0,s=>by cases s<;>rfl
 | n+1,s=>by rw [el19];exact nt19 Ops.std c62 c63 p0 p1 p2 p3 _ _ some (K2 k) (rr19 c62 c63 p0 p1 p2 p3 k n) (some s)
def F19 (c62:C62) (c63:C63) (p0:L94) (p1:L98) (p2:L103) (p3:L66):Option (Bool):=T19 Ops.std c62 c63 p0 p1 p2 p3 (R19 c62 c63 p0 p1 p2 p3 1000000) some none
abbrev C19:Type:=L94→L98→L103→L66→Option (Bool)
def e19 {R:Type} (c:C19):Ent R:=eG [.aG [.cL 94 ty94,.cL 98 ty98,.cL 103 ty103],.aC (.cL 66 ty66)] [] fun v k=>ob (c v.1 v.2.1 v.2.2.1 v.2.2.2.1) (K2 k)
abbrev Sp19 (c:C19):Prop:=∀ (p0:L94) (p1:L98) (p2:L103) (p3:L66) (y:Bool),c p0 p1 p2 p3=some y→Spec Tryz.prog gl0 19 [.agg [.list 94 ty94 p0,.list 98 ty98 p1,.list 103 ty103 p2],.c (.list 66 ty66 p3)] [] (.c (.bool y)) []
theorem ek19 {R:Type} {c:C19} (hs:Sp19 c):EOk 19 (e19 (R:=R) c):=qal fun v=>hs v.1 v.2.1 v.2.2.1 v.2.2.2.1
theorem sf19 {c62:C62} {c63:C63} (h62:Sp62 c62) (h63:Sp63 c63):Sp19 (F19 c62 c63):=fun p0 p1 p2 p3 y hy=>by
 refine qai (qac (ek62 h62) (qac (ek63 h63) qah)) 1000000 (fn:=Tryz.f19) (by kernel_rfl) (by kernel_rfl) (X:=X19) (by kernel_rfl) ?_
 rw [eq19]
 exact (nt19 Ops.std c62 c63 p0 p1 p2 p3 _ _ some (K2 k0) (rr19 c62 c63 p0 p1 p2 p3 k0 1000000) none).trans (by show ob (F19 c62 c63 p0 p1 p2 p3) _=_;rw [hy];rfl)
noncomputable def M19:C19:=F19 M62 M63
theorem sm19:Sp19 M19:=sf19 sm62 sm63
def X30:Aux:=⟨[(3,([0,3]++rg 7 65)),(7,([0,3,6]++rg 8 64))],[(5,.lin (rg 0 18)),(9,.lin (rg 0 33))]⟩
inductive S30 where
 | l0 (v1:Int) (v7:L3)
 | l1 (v1:Int) (v7 v8:L3)
def T30 {R:Type} (B:Ops) (c29:C29) (p0:L94) (p1:L98) (p2:L103) (p3:Int) (again:S30→Option R) (k:(L3×L3)→Option R):Option S30→Option R | none=>again (.l0 0 (mt (Ty.den (Ty.int .i64)))) | some (.l0 v1 v7)=>cond (B.lt v1 (↑p1.length)) (cond (B.eq (IntKind.wrap .i64 (1+v1)) 0) none (cond (B.inb v1 p1.length) (ob (c29 (IntKind.wrap .i64 (Int.tdiv p3 (IntKind.wrap .i64 (1+v1)))) (Nat.cast (List.length (p1.getD v1.toNat ty98.dflt).2))) fun y0=>cond (B.lim (List.length v7+List.length (y0::mt (Ty.den (Ty.int .i64)))) 8) (again (.l0 (IntKind.wrap .i64 (v1+1)) (v7++y0::mt (Ty.den (Ty.int .i64))))) none) none)) (again (.l1 0 v7 ((mt (Ty.den (Ty.int .i64)))))) | some (.l1 v1 v7 v8)=>cond (B.lt v1 (↑p0.length)) (cond (B.inb v1 p0.length) (cond (B.eq (IntKind.wrap .i64 (3+IntKind.wrap .i64 (4*v1))) 0) none (cond (B.inb v1 p0.length) (cond (B.inb v1 p0.length) (ob (c29 (IntKind.wrap .i64 (Int.tdiv p3 (IntKind.wrap .i64 (3+IntKind.wrap .i64 (4*v1))))) (IntKind.wrap .i64 (IntKind.wrap .i64 ((((p0.getD v1.toNat ty94.dflt).2).2).1-((p0.getD v1.toNat ty94.dflt).2).1)+1))) fun y0=>cond (B.lim (List.length v8+List.length (IntKind.wrap .i64 (((p0.getD v1.toNat ty94.dflt).2).1+y0)::mt (Ty.den (Ty.int .i64)))) 8) (again (.l1 (IntKind.wrap .i64 (v1+1)) v7 (v8++IntKind.wrap .i64 (((p0.getD v1.toNat ty94.dflt).2).1+y0)::mt (Ty.den (Ty.int .i64))))) none) none) none)) none) (k (v7,v8))
def E30 (p0:L94) (p1:L98) (p2:L103) (p3:Int):S30→List AV×Objs
 | .l0 v1 v7=>(mk 72 [(1,.c (.int .i64 p3)),(2,.c (.ptr 2 0)),(4,.c (.ptr 4 0)),(5,.c (.ptr 5 0)),(6,.c (.int .i64 v1))],[(2,.box 31 [.list 94 ty94 p0,.list 98 ty98 p1,.list 103 ty103 p2]),(4,.box 57 [.own 5000,.own 5001]),(5,.box 57 [.own 6000,.own 6001]),(5000,.row 3 ty3 (mt (Ty.den (Ty.int .i64)))),(5001,.row 3 ty3 (mt (Ty.den (Ty.int .i64)))),(6000,.row 3 ty3 v7),(6001,.row 3 ty3 (mt (Ty.den (Ty.int .i64))))])
 | .l1 v1 v7 v8=>(mk 72 [(1,.c (.int .i64 p3)),(2,.c (.ptr 2 0)),(4,.c (.ptr 4 0)),(5,.c (.ptr 5 0)),(7,.c (.int .i64 v1))],[(2,.box 31 [.list 94 ty94 p0,.list 98 ty98 p1,.list 103 ty103 p2]),(4,.box 57 [.own 5000,.own 5001]),(5,.box 57 [.own 6000,.own 6001]),(5000,.row 3 ty3 (mt (Ty.den (Ty.int .i64)))),(5001,.row 3 ty3 (mt (Ty.den (Ty.int .i64)))),(6000,.row 3 ty3 v7),(6001,.row 3 ty3 v8)])
def I30:S30→Nat
 | .l0 _ _=>0
 | .l1 _ _ _=>1
abbrev K34 {R:Type} (k:AV→Objs→Option R) (y:(L3×L3)):Option R:=k (.agg [.list 3 ty3 y.1,.list 3 ty3 y.2]) []
noncomputable abbrev A30 {R:Type} (B:Ops) (c29:C29) (p0:L94) (p1:L98) (p2:L103) (p3:Int) (k:AV→Objs→Option R) (s:S30) (n:Nat):Option R:=aloop tau B gl0 X30 (ent 29 (e29 c29) gnil) ow [] Tryz.f30 k (I30 s) (E30 p0 p1 p2 p3 s) n
theorem eq30 {R:Type} (B:Ops) (c29:C29) (p0:L94) (p1:L98) (p2:L103) (p3:Int) (k:AV→Objs→Option R) (n:Nat):afun tau B gl0 X30 (ent 29 (e29 c29) gnil) ow Tryz.f30 [.agg [.list 94 ty94 p0,.list 98 ty98 p1,.list 103 ty103 p2],.c (.int .i64 p3)] [] k n=T30 B c29 p0 p1 p2 p3 (fun s=>A30 B c29 p0 p1 p2 p3 k s n) (K34 k) none:=by kernel_rfl
theorem el30 {R:Type} (B:Ops) (c29:C29) (p0:L94) (p1:L98) (p2:L103) (p3:Int) (k:AV→Objs→Option R) (n:Nat):∀ s,A30 B c29 p0 p1 p2 p3 k s (n+1)=T30 B c29 p0 p1 p2 p3 (fun s=>A30 B c29 p0 p1 p2 p3 k s n) (K34 k) (some s):=by
 intro s
 cases s<;>kernel_rfl
theorem nt30 {R R':Type} (B:Ops) (c29:C29) (p0:L94) (p1:L98) (p2:L103) (p3:Int) (again:S30→Option R) (again':S30→Option R') (k0:(L3×L3)→Option R') (k:R'→Option R) (h:∀ s,again s=ob (again' s) k):∀ s,T30 B c29 p0 p1 p2 p3 again (fun y=>ob (k0 y) k) s=ob (T30 B c29 p0 p1 p2 p3 again' k0 s) k:=by
 rintro (_ | x)
 all_goals try cases x
 all_goals (unfold T30;repeat' first | exact rfl | exact h _ | apply qad | (apply qaj;intro))
def R30 (c29:C29) (p0:L94) (p1:L98) (p2:L103) (p3:Int):Nat→S30→Option (L3×L3)
 | 0,_=>none
 | n+1,s=>T30 Ops.std c29 p0 p1 p2 p3 (R30 c29 p0 p1 p2 p3 n) some (some s)
theorem rr30 {R:Type} (c29:C29) (p0:L94) (p1:L98) (p2:L103) (p3:Int) (k:AV→Objs→Option R):∀ (n:Nat) (s:S30),A30 Ops.std c29 p0 p1 p2 p3 k s n=ob (R30 c29 p0 p1 p2 p3 n s) (K34 k)
 | 0,s=>by cases s<;>rfl
 | n+1,s=>by rw [el30];exact nt30 Ops.std c29 p0 p1 p2 p3 _ _ some (K34 k) (rr30 c29 p0 p1 p2 p3 k n) (some s)
def F30 (c29:C29) (p0:L94) (p1:L98) (p2:L103) (p3:Int):Option (L3×L3):=T30 Ops.std c29 p0 p1 p2 p3 (R30 c29 p0 p1 p2 p3 1000000) some none
abbrev C30:Type:=L94→L98→L103→Int→Option (L3×L3)
def e30 {R:Type} (c:C30):Ent R:=eG [.aG [.cL 94 ty94,.cL 98 ty98,.cL 103 ty103],.aC (.cI .i64)] [] fun v k=>ob (c v.1 v.2.1 v.2.2.1 v.2.2.2.1) (K34 k)
abbrev Sp30 (c:C30):Prop:=∀ (p0:L94) (p1:L98) (p2:L103) (p3:Int) (y:L3×L3),c p0 p1 p2 p3=some y→Spec Tryz.prog gl0 30 [.agg [.list 94 ty94 p0,.list 98 ty98 p1,.list 103 ty103 p2],.c (.int .i64 p3)] [] (.agg [.list 3 ty3 y.1,.list 3 ty3 y.2]) []
theorem ek30 {R:Type} {c:C30} (hs:Sp30 c):EOk 30 (e30 (R:=R) c):=qal fun v=>hs v.1 v.2.1 v.2.2.1 v.2.2.2.1
theorem sf30 {c29:C29} (h29:Sp29 c29):Sp30 (F30 c29):=fun p0 p1 p2 p3 y hy=>by
 refine qai (qac (ek29 h29) qah) 1000000 (fn:=Tryz.f30) (by kernel_rfl) (by kernel_rfl) (X:=X30) (by kernel_rfl) ?_
 rw [eq30]
 exact (nt30 Ops.std c29 p0 p1 p2 p3 _ _ some (K34 k0) (rr30 c29 p0 p1 p2 p3 k0 1000000) none).trans (by show ob (F30 c29 p0 p1 p2 p3) _=_;rw [hy];rfl)
noncomputable def M30:C30:=F30 M29
theorem sm30:Sp30 M30:=sf30 sm29
def X20:Aux:=⟨[(3,([0,4,5]++rg 9 55)),(7,([0,1,4,5,8]++rg 10 54))],[(5,.lin (rg 0 13)),(9,.lin (rg 0 13))]⟩
inductive S20 where
 | l0 (v2:Int) (v8:L68)
 | l1 (v1:Int) (v7 v8:L68)
def T20 {R:Type} (B:Ops) (c30:C30) (p0:L94) (p1:L98) (p2:L103) (p3 p4:L3) (again:S20→Option R) (k:(L68×L68)→Option R):Option S20→Option R | none=>again (.l0 0 (mt (Ty.den ty68))) | some (.l0 v2 v8)=>cond (B.lt v2 (↑p3.length)) (cond (B.lt v2 6) (cond (B.inb v2 p3.length) (ob (c30 p0 p1 p2 (p3.getD v2.toNat ty3.dflt)) fun y0=>cond (B.lim (List.length v8+List.length (((y0.1,y0.2),mt (Ty.den (Ty.int .i64)))::mt (Ty.den ty68))) 72) (again (.l0 (IntKind.wrap .i64 (v2+1)) (v8++((y0.1,y0.2),mt (Ty.den (Ty.int .i64)))::mt (Ty.den ty68)))) none) none) (again (.l1 0 v8 ((mt (Ty.den ty68)))))) (again (.l1 0 v8 ((mt (Ty.den ty68))))) | some (.l1 v1 v7 v8)=>cond (B.lt v1 (↑p4.length)) (cond (B.lt v1 6) (cond (B.inb v1 p4.length) (ob (c30 p0 p1 p2 (p4.getD v1.toNat ty3.dflt)) fun y0=>cond (B.lim (List.length v8+List.length (((y0.1,y0.2),mt (Ty.den (Ty.int .i64)))::mt (Ty.den ty68))) 72) (again (.l1 (IntKind.wrap .i64 (v1+1)) v7 (v8++((y0.1,y0.2),mt (Ty.den (Ty.int .i64)))::mt (Ty.den ty68)))) none) none) (cond (B.eq (↑v8.length) 0) (ob (c30 p0 p1 p2 0) fun y0=>k ((v7,((y0.1,y0.2),mt (Ty.den (Ty.int .i64)))::mt (Ty.den ty68)))) (k (v7,v8)))) (cond (B.eq (↑v8.length) 0) (ob (c30 p0 p1 p2 0) fun y0=>k ((v7,((y0.1,y0.2),mt (Ty.den (Ty.int .i64)))::mt (Ty.den ty68)))) (k (v7,v8)))
def E20 (p0:L94) (p1:L98) (p2:L103) (p3 p4:L3):S20→List AV×Objs
 | .l0 v2 v8=>(mk 64 [(1,.c (.list 3 ty3 p3)),(2,.c (.list 3 ty3 p4)),(3,.c (.ptr 3 0)),(6,.c (.ptr 6 0)),(7,.c (.ptr 7 0)),(8,.c (.int .i64 v2))],[(3,.box 31 [.list 94 ty94 p0,.list 98 ty98 p1,.list 103 ty103 p2]),(6,.box 41 [.own 7000,.own 7001]),(7,.box 41 [.own 8000,.own 8001]),(7000,.row 68 ty68 (mt (Ty.den ty68))),(7001,.row 68 ty68 (mt (Ty.den ty68))),(8000,.row 68 ty68 v8),(8001,.row 68 ty68 (mt (Ty.den ty68)))])
 | .l1 v1 v7 v8=>(mk 64 [(2,.c (.list 3 ty3 p4)),(3,.c (.ptr 3 0)),(6,.c (.ptr 6 0)),(7,.c (.ptr 7 0)),(9,.c (.int .i64 v1))],[(3,.box 31 [.list 94 ty94 p0,.list 98 ty98 p1,.list 103 ty103 p2]),(6,.box 41 [.own 7000,.own 7001]),(7,.box 41 [.own 8000,.own 8001]),(7000,.row 68 ty68 (mt (Ty.den ty68))),(7001,.row 68 ty68 (mt (Ty.den ty68))),(8000,.row 68 ty68 v7),(8001,.row 68 ty68 v8)])
def I20:S20→Nat
 | .l0 _ _=>0
 | .l1 _ _ _=>1
abbrev K35 {R:Type} (k:AV→Objs→Option R) (y:(L68×L68)):Option R:=k (.agg [.own 501000,.own 501001]) [(501000,.row 68 ty68 y.1),(501001,.row 68 ty68 y.2)]
noncomputable abbrev A20 {R:Type} (B:Ops) (c30:C30) (p0:L94) (p1:L98) (p2:L103) (p3 p4:L3) (k:AV→Objs→Option R) (s:S20) (n:Nat):Option R:=aloop tau B gl0 X20 (ent 30 (e30 c30) gnil) owF [] Tryz.f20 k (I20 s) (E20 p0 p1 p2 p3 p4 s) n
theorem eq20 {R:Type} (B:Ops) (c30:C30) (p0:L94) (p1:L98) (p2:L103) (p3 p4:L3) (k:AV→Objs→Option R) (n:Nat):afun tau B gl0 X20 (ent 30 (e30 c30) gnil) owF Tryz.f20 [.agg [.list 94 ty94 p0,.list 98 ty98 p1,.list 103 ty103 p2],.c (.list 3 ty3 p3),.c (.list 3 ty3 p4)] [] k n=T20 B c30 p0 p1 p2 p3 p4 (fun s=>A20 B c30 p0 p1 p2 p3 p4 k s n) (K35 k) none:=by kernel_rfl
theorem el20 {R:Type} (B:Ops) (c30:C30) (p0:L94) (p1:L98) (p2:L103) (p3 p4:L3) (k:AV→Objs→Option R) (n:Nat):∀ s,A20 B c30 p0 p1 p2 p3 p4 k s (n+1)=T20 B c30 p0 p1 p2 p3 p4 (fun s=>A20 B c30 p0 p1 p2 p3 p4 k s n) (K35 k) (some s):=by
 intro s
 cases s<;>kernel_rfl
theorem nt20 {R R':Type} (B:Ops) (c30:C30) (p0:L94) (p1:L98) (p2:L103) (p3 p4:L3) (again:S20→Option R) (again':S20→Option R') (k0:(L68×L68)→Option R') (k:R'→Option R) (h:∀ s,again s=ob (again' s) k):∀ s,T20 B c30 p0 p1 p2 p3 p4 again (fun y=>ob (k0 y) k) s=ob (T20 B c30 p0 p1 p2 p3 p4 again' k0 s) k:=by
 rintro (_ | x)
 all_goals try cases x
 all_goals (unfold T20;repeat' first | exact rfl | exact h _ | apply qad | (apply qaj;intro))
def R20 (c30:C30) (p0:L94) (p1:L98) (p2:L103) (p3 p4:L3):Nat→S20→Option (L68×L68)
 | 0,_=>none
 | n+1,s=>T20 Ops.std c30 p0 p1 p2 p3 p4 (R20 c30 p0 p1 p2 p3 p4 n) some (some s)
theorem rr20 {R:Type} (c30:C30) (p0:L94) (p1:L98) (p2:L103) (p3 p4:L3) (k:AV→Objs→Option R):∀ (n:Nat) (s:S20),A20 Ops.std c30 p0 p1 p2 p3 p4 k s n=ob (R20 c30 p0 p1 p2 p3 p4 n s) (K35 k)
 | 0,s=>by cases s<;>rfl
 | n+1,s=>by rw [el20];exact nt20 Ops.std c30 p0 p1 p2 p3 p4 _ _ some (K35 k) (rr20 c30 p0 p1 p2 p3 p4 k n) (some s)
def F20 (c30:C30) (p0:L94) (p1:L98) (p2:L103) (p3 p4:L3):Option (L68×L68):=T20 Ops.std c30 p0 p1 p2 p3 p4 (R20 c30 p0 p1 p2 p3 p4 1000000) some none
abbrev C20:Type:=L94→L98→L103→L3→L3→Option (L68×L68)
def e20 {R:Type} (c:C20):Ent R:=eG [.aG [.cL 94 ty94,.cL 98 ty98,.cL 103 ty103],.aC (.cL 3 ty3),.aC (.cL 3 ty3)] [] fun v k=>ob (c v.1 v.2.1 v.2.2.1 v.2.2.2.1 v.2.2.2.2.1) (K35 k)
abbrev Sp20 (c:C20):Prop:=∀ (p0:L94) (p1:L98) (p2:L103) (p3 p4:L3) (y:L68×L68),c p0 p1 p2 p3 p4=some y→Spec Tryz.prog gl0 20 [.agg [.list 94 ty94 p0,.list 98 ty98 p1,.list 103 ty103 p2],.c (.list 3 ty3 p3),.c (.list 3 ty3 p4)] [] (.agg [.own 501000,.own 501001]) [(501000,.row 68 ty68 y.1),(501001,.row 68 ty68 y.2)]
theorem ek20 {R:Type} {c:C20} (hs:Sp20 c):EOk 20 (e20 (R:=R) c):=qal fun v=>hs v.1 v.2.1 v.2.2.1 v.2.2.2.1 v.2.2.2.2.1
theorem sf20 {c30:C30} (h30:Sp30 c30):Sp20 (F20 c30):=fun p0 p1 p2 p3 p4 y hy=>by
 refine spec_ofF (qac (ek30 h30) qah) 1000000 (fn:=Tryz.f20) (by kernel_rfl) (by kernel_rfl) (X:=X20) (by kernel_rfl) ?_
 rw [eq20]
 exact (nt20 Ops.std c30 p0 p1 p2 p3 p4 _ _ some (K35 k0) (rr20 c30 p0 p1 p2 p3 p4 k0 1000000) none).trans (by show ob (F20 c30 p0 p1 p2 p3 p4) _=_;rw [hy];rfl)
noncomputable def M20:C20:=F20 M30
theorem sm20:Sp20 M20:=sf20 sm30
end Go.Proofs.YtccnmhdgghjgoaaGreatDoor.Av
