/- Twins of functions,printed by gen.py. Conditions: none. -/
import Derived.Test.YtccnmhdgghjgoaaWk1
import Derived.KernelRfl
set_option linter.unusedSimpArgs false
set_option linter.unusedVariables false
set_option maxRecDepth 100000
set_option maxHeartbeats 8000000
namespace Go.Proofs.Ytccnmhdgghjgoaa.Av
open Go
def X97:Aux:=⟨[(1000011,([1]++rg 4 194)),(1000021,(rg 1 197)),(1000024,(rg 1 197)),(1000028,([1,2,3]++rg 5 193))],[(1,.lin (rg 0 12)),(28,.lin (rg 0 17))]⟩
inductive S97 where
 | l1011 (v0:Int) (v1:L106) (v2 v3 v4 v5:Int) (v6:LB) (v7 v8:Int) (v9:L36)
 | l1021 (v0:L106) (v1 v2 v3:Int) (v4:L36)
 | l1024 (v0:L106) (v1 v2 v3:Int) (v4:L36)
 | l1028 (v0:Int) (v1:L106) (v2 v3 v4:Int) (v5:L36)
def T97 {R:Type} (B:Ops) (c119:C119) (c97:C97) (c60:C60) (c120:C120) (c121:C121) (c61:C61) (p0:L106) (p1 p2 p3:Int) (p4:L36) (again:S97→Option R) (k:(L106×Int×Int×Int×L36)→Option R):Option S97→Option R | none=>cond (!B.eq p2 0) (k (p0,p1,p2,p3,p4)) (cond (B.inb p1 p0.length) (ob (c119 ([33]:LB) p0 p1 p2 p3 p4) fun y0=>cond y0.1 (again (.l1011 4 y0.2.1 y0.2.2.1 y0.2.2.2.1 y0.2.2.2.2.1 (p0.getD p1.toNat ty106.dflt).1 ((p0.getD p1.toNat ty106.dflt).2).1 (((p0.getD p1.toNat ty106.dflt).2).2).1 (((p0.getD p1.toNat ty106.dflt).2).2).2 y0.2.2.2.2.2)) (cond (B.eq (p0.getD p1.toNat ty106.dflt).1 3) (cond (((p0.getD p1.toNat ty106.dflt).2).1 == ([88]:LB)) (again (.l1011 8 y0.2.1 y0.2.2.1 y0.2.2.2.1 y0.2.2.2.2.1 (p0.getD p1.toNat ty106.dflt).1 ((p0.getD p1.toNat ty106.dflt).2).1 (((p0.getD p1.toNat ty106.dflt).2).2).1 (((p0.getD p1.toNat ty106.dflt).2).2).2 y0.2.2.2.2.2)) (cond (B.eq (p0.getD p1.toNat ty106.dflt).1 3) (cond (((p0.getD p1.toNat ty106.dflt).2).1 == ([70]:LB)) (again (.l1011 11 y0.2.1 y0.2.2.1 y0.2.2.2.1 y0.2.2.2.2.1 (p0.getD p1.toNat ty106.dflt).1 ((p0.getD p1.toNat ty106.dflt).2).1 (((p0.getD p1.toNat ty106.dflt).2).2).1 (((p0.getD p1.toNat ty106.dflt).2).2).2 y0.2.2.2.2.2)) (cond (B.eq (p0.getD p1.toNat ty106.dflt).1 3) (cond (((p0.getD p1.toNat ty106.dflt).2).1 == ([71]:LB)) (again (.l1011 12 y0.2.1 y0.2.2.1 y0.2.2.2.1 y0.2.2.2.2.1 (p0.getD p1.toNat ty106.dflt).1 ((p0.getD p1.toNat ty106.dflt).2).1 (((p0.getD p1.toNat ty106.dflt).2).2).1 (((p0.getD p1.toNat ty106.dflt).2).2).2 y0.2.2.2.2.2)) (again (.l1011 0 y0.2.1 y0.2.2.1 y0.2.2.2.1 y0.2.2.2.2.1 (p0.getD p1.toNat ty106.dflt).1 ((p0.getD p1.toNat ty106.dflt).2).1 (((p0.getD p1.toNat ty106.dflt).2).2).1 (((p0.getD p1.toNat ty106.dflt).2).2).2 y0.2.2.2.2.2))) (again (.l1011 0 y0.2.1 y0.2.2.1 y0.2.2.2.1 y0.2.2.2.2.1 (p0.getD p1.toNat ty106.dflt).1 ((p0.getD p1.toNat ty106.dflt).2).1 (((p0.getD p1.toNat ty106.dflt).2).2).1 (((p0.getD p1.toNat ty106.dflt).2).2).2 y0.2.2.2.2.2)))) (cond (B.eq (p0.getD p1.toNat ty106.dflt).1 3) (cond (((p0.getD p1.toNat ty106.dflt).2).1 == ([71]:LB)) (again (.l1011 12 y0.2.1 y0.2.2.1 y0.2.2.2.1 y0.2.2.2.2.1 (p0.getD p1.toNat ty106.dflt).1 ((p0.getD p1.toNat ty106.dflt).2).1 (((p0.getD p1.toNat ty106.dflt).2).2).1 (((p0.getD p1.toNat ty106.dflt).2).2).2 y0.2.2.2.2.2)) (again (.l1011 0 y0.2.1 y0.2.2.1 y0.2.2.2.1 y0.2.2.2.2.1 (p0.getD p1.toNat ty106.dflt).1 ((p0.getD p1.toNat ty106.dflt).2).1 (((p0.getD p1.toNat ty106.dflt).2).2).1 (((p0.getD p1.toNat ty106.dflt).2).2).2 y0.2.2.2.2.2))) (again (.l1011 0 y0.2.1 y0.2.2.1 y0.2.2.2.1 y0.2.2.2.2.1 (p0.getD p1.toNat ty106.dflt).1 ((p0.getD p1.toNat ty106.dflt).2).1 (((p0.getD p1.toNat ty106.dflt).2).2).1 (((p0.getD p1.toNat ty106.dflt).2).2).2 y0.2.2.2.2.2))))) (cond (B.eq (p0.getD p1.toNat ty106.dflt).1 3) (cond (((p0.getD p1.toNat ty106.dflt).2).1 == ([70]:LB)) (again (.l1011 11 y0.2.1 y0.2.2.1 y0.2.2.2.1 y0.2.2.2.2.1 (p0.getD p1.toNat ty106.dflt).1 ((p0.getD p1.toNat ty106.dflt).2).1 (((p0.getD p1.toNat ty106.dflt).2).2).1 (((p0.getD p1.toNat ty106.dflt).2).2).2 y0.2.2.2.2.2)) (cond (B.eq (p0.getD p1.toNat ty106.dflt).1 3) (cond (((p0.getD p1.toNat ty106.dflt).2).1 == ([71]:LB)) (again (.l1011 12 y0.2.1 y0.2.2.1 y0.2.2.2.1 y0.2.2.2.2.1 (p0.getD p1.toNat ty106.dflt).1 ((p0.getD p1.toNat ty106.dflt).2).1 (((p0.getD p1.toNat ty106.dflt).2).2).1 (((p0.getD p1.toNat ty106.dflt).2).2).2 y0.2.2.2.2.2)) (again (.l1011 0 y0.2.1 y0.2.2.1 y0.2.2.2.1 y0.2.2.2.2.1 (p0.getD p1.toNat ty106.dflt).1 ((p0.getD p1.toNat ty106.dflt).2).1 (((p0.getD p1.toNat ty106.dflt).2).2).1 (((p0.getD p1.toNat ty106.dflt).2).2).2 y0.2.2.2.2.2))) (again (.l1011 0 y0.2.1 y0.2.2.1 y0.2.2.2.1 y0.2.2.2.2.1 (p0.getD p1.toNat ty106.dflt).1 ((p0.getD p1.toNat ty106.dflt).2).1 (((p0.getD p1.toNat ty106.dflt).2).2).1 (((p0.getD p1.toNat ty106.dflt).2).2).2 y0.2.2.2.2.2)))) (cond (B.eq (p0.getD p1.toNat ty106.dflt).1 3) (cond (((p0.getD p1.toNat ty106.dflt).2).1 == ([71]:LB)) (again (.l1011 12 y0.2.1 y0.2.2.1 y0.2.2.2.1 y0.2.2.2.2.1 (p0.getD p1.toNat ty106.dflt).1 ((p0.getD p1.toNat ty106.dflt).2).1 (((p0.getD p1.toNat ty106.dflt).2).2).1 (((p0.getD p1.toNat ty106.dflt).2).2).2 y0.2.2.2.2.2)) (again (.l1011 0 y0.2.1 y0.2.2.1 y0.2.2.2.1 y0.2.2.2.2.1 (p0.getD p1.toNat ty106.dflt).1 ((p0.getD p1.toNat ty106.dflt).2).1 (((p0.getD p1.toNat ty106.dflt).2).2).1 (((p0.getD p1.toNat ty106.dflt).2).2).2 y0.2.2.2.2.2))) (again (.l1011 0 y0.2.1 y0.2.2.1 y0.2.2.2.1 y0.2.2.2.2.1 (p0.getD p1.toNat ty106.dflt).1 ((p0.getD p1.toNat ty106.dflt).2).1 (((p0.getD p1.toNat ty106.dflt).2).2).1 (((p0.getD p1.toNat ty106.dflt).2).2).2 y0.2.2.2.2.2)))))) none) | some (.l1011 v0 v1 v2 v3 v4 v5 v6 v7 v8 v9)=>cond (!B.eq v0 0) (ob (c97 v1 (IntKind.wrap .i64 (v2+1)) v3 v4 v9) fun y0=>cond (B.lim (List.length (y0.2.2.2.2)+List.length ((v0,mt (Ty.den ty97))::mt (Ty.den ty36))) 32) (k ((y0.1,y0.2.1,y0.2.2.1,y0.2.2.2.1,y0.2.2.2.2++(v0,mt (Ty.den ty97))::mt (Ty.den ty36)))) none) (cond (B.eq v5 2) (cond (v6 == ([116,114,117,101]:LB)) (cond (B.lim (List.length v9+List.length ((1,mt (Ty.den ty97))::mt (Ty.den ty36))) 32) (k ((v1,IntKind.wrap .i64 (v2+1),v3,v4,v9++(1,mt (Ty.den ty97))::mt (Ty.den ty36)))) none) (cond (B.eq v5 2) (cond (v6 == ([102,97,108,115,101]:LB)) (again (.l1021 v1 (IntKind.wrap .i64 (v2+1)) v3 v4 v9)) (ob (c119 ([40]:LB) v1 v2 v3 v4 v9) fun y0=>cond y0.1 (again (.l1024 y0.2.1 (IntKind.wrap .i64 (y0.2.2.1+1)) y0.2.2.2.1 y0.2.2.2.2.1 y0.2.2.2.2.2)) (ob (c119 ([91]:LB) y0.2.1 y0.2.2.1 y0.2.2.2.1 y0.2.2.2.2.1 y0.2.2.2.2.2) fun y1=>cond y1.1 (again (.l1028 y1.2.2.1 y1.2.1 y1.2.2.1 y1.2.2.2.1 y1.2.2.2.2.1 y1.2.2.2.2.2)) (ob (c61 2 y1.2.2.1 y1.2.1 y1.2.2.1 y1.2.2.2.1 y1.2.2.2.2.1 y1.2.2.2.2.2) fun y2=>k (y2.1,y2.2.1,y2.2.2.1,y2.2.2.2.1,y2.2.2.2.2))))) (ob (c119 ([40]:LB) v1 v2 v3 v4 v9) fun y0=>cond y0.1 (again (.l1024 y0.2.1 (IntKind.wrap .i64 (y0.2.2.1+1)) y0.2.2.2.1 y0.2.2.2.2.1 y0.2.2.2.2.2)) (ob (c119 ([91]:LB) y0.2.1 y0.2.2.1 y0.2.2.2.1 y0.2.2.2.2.1 y0.2.2.2.2.2) fun y1=>cond y1.1 (again (.l1028 y1.2.2.1 y1.2.1 y1.2.2.1 y1.2.2.2.1 y1.2.2.2.2.1 y1.2.2.2.2.2)) (ob (c61 2 y1.2.2.1 y1.2.1 y1.2.2.1 y1.2.2.2.1 y1.2.2.2.2.1 y1.2.2.2.2.2) fun y2=>k (y2.1,y2.2.1,y2.2.2.1,y2.2.2.2.1,y2.2.2.2.2)))))) (cond (B.eq v5 2) (cond (v6 == ([102,97,108,115,101]:LB)) (again (.l1021 v1 (IntKind.wrap .i64 (v2+1)) v3 v4 v9)) (ob (c119 ([40]:LB) v1 v2 v3 v4 v9) fun y0=>cond y0.1 (again (.l1024 y0.2.1 (IntKind.wrap .i64 (y0.2.2.1+1)) y0.2.2.2.1 y0.2.2.2.2.1 y0.2.2.2.2.2)) (ob (c119 ([91]:LB) y0.2.1 y0.2.2.1 y0.2.2.2.1 y0.2.2.2.2.1 y0.2.2.2.2.2) fun y1=>cond y1.1 (again (.l1028 y1.2.2.1 y1.2.1 y1.2.2.1 y1.2.2.2.1 y1.2.2.2.2.1 y1.2.2.2.2.2)) (ob (c61 2 y1.2.2.1 y1.2.1 y1.2.2.1 y1.2.2.2.1 y1.2.2.2.2.1 y1.2.2.2.2.2) fun y2=>k (y2.1,y2.2.1,y2.2.2.1,y2.2.2.2.1,y2.2.2.2.2))))) (ob (c119 ([40]:LB) v1 v2 v3 v4 v9) fun y0=>cond y0.1 (again (.l1024 y0.2.1 (IntKind.wrap .i64 (y0.2.2.1+1)) y0.2.2.2.1 y0.2.2.2.2.1 y0.2.2.2.2.2)) (ob (c119 ([91]:LB) y0.2.1 y0.2.2.1 y0.2.2.2.1 y0.2.2.2.2.1 y0.2.2.2.2.2) fun y1=>cond y1.1 (again (.l1028 y1.2.2.1 y1.2.1 y1.2.2.1 y1.2.2.2.1 y1.2.2.2.2.1 y1.2.2.2.2.2)) (ob (c61 2 y1.2.2.1 y1.2.1 y1.2.2.1 y1.2.2.2.1 y1.2.2.2.2.1 y1.2.2.2.2.2) fun y2=>k (y2.1,y2.2.1,y2.2.2.1,y2.2.2.2.1,y2.2.2.2.2)))))) | some (.l1021 v0 v1 v2 v3 v4)=>cond (B.lim (List.length v4+List.length ((2,mt (Ty.den ty97))::mt (Ty.den ty36))) 32) (k ((v0,v1,v2,v3,v4++(2,mt (Ty.den ty97))::mt (Ty.den ty36)))) none | some (.l1024 v0 v1 v2 v3 v4)=>ob (c60 1 v0 v1 v2 v3 v4) fun y0=>ob (c120 ([41]:LB) y0.1 y0.2.1 y0.2.2.1 y0.2.2.2.1 y0.2.2.2.2) fun y1=>k (y1.1,y1.2.1,y1.2.2.1,y1.2.2.2.1,y1.2.2.2.2) | some (.l1028 v0 v1 v2 v3 v4 v5)=>ob (c121 v1 (IntKind.wrap .i64 (v2+1))) fun y0=>cond (B.eq y0.2.1 13) (ob (c61 y0.2.1 v0 v1 v2 v3 v4 v5) fun y1=>k (y1.1,y1.2.1,y1.2.2.1,y1.2.2.2.1,y1.2.2.2.2)) (cond (B.eq y0.2.1 2) (ob (c61 y0.2.1 y0.1 v1 v2 v3 v4 v5) fun y1=>k (y1.1,y1.2.1,y1.2.2.1,y1.2.2.2.1,y1.2.2.2.2)) (cond (B.lim (List.length v5+List.length ((3,y0.2.2)::mt (Ty.den ty36))) 32) (ob (c120 ([93]:LB) v1 y0.1 v3 v4 (v5++(3,y0.2.2)::mt (Ty.den ty36))) fun y1=>k (y1.1,y1.2.1,y1.2.2.1,y1.2.2.2.1,y1.2.2.2.2)) none))
def E97 (p0:L106) (p1 p2 p3:Int) (p4:L36):S97→List AV×Objs
 | .l1011 v0 v1 v2 v3 v4 v5 v6 v7 v8 v9=>(mk 198 [(0,.c (.ptr 0 0)),(2,.c (.ptr 2 0)),(3,.c (.int .i64 v0))],[(0,.box 103 [.list 106 ty106 v1,.int .i64 v2,.own 1002,.int .i64 v3,.int .i64 v4]),(2,.box 106 [.int .i64 v5,.str v6,.int .i64 v7,.int .i64 v8]),(1002,.row 36 ty36 v9)])
 | .l1021 v0 v1 v2 v3 v4=>(mk 198 [(0,.c (.ptr 0 0))],[(0,.box 103 [.list 106 ty106 v0,.int .i64 v1,.own 1002,.int .i64 v2,.int .i64 v3]),(1002,.row 36 ty36 v4)])
 | .l1024 v0 v1 v2 v3 v4=>(mk 198 [(0,.c (.ptr 0 0))],[(0,.box 103 [.list 106 ty106 v0,.int .i64 v1,.own 1002,.int .i64 v2,.int .i64 v3]),(1002,.row 36 ty36 v4)])
 | .l1028 v0 v1 v2 v3 v4 v5=>(mk 198 [(0,.c (.ptr 0 0)),(4,.c (.int .i64 v0))],[(0,.box 103 [.list 106 ty106 v1,.int .i64 v2,.own 1002,.int .i64 v3,.int .i64 v4]),(1002,.row 36 ty36 v5)])
def I97:S97→Nat
 | .l1011 _ _ _ _ _ _ _ _ _ _=>1011
 | .l1021 _ _ _ _ _=>1021
 | .l1024 _ _ _ _ _=>1024
 | .l1028 _ _ _ _ _ _=>1028
noncomputable abbrev A97 {R:Type} (B:Ops) (c119:C119) (c97:C97) (c60:C60) (c120:C120) (c121:C121) (c61:C61) (p0:L106) (p1 p2 p3:Int) (p4:L36) (k:AV→Objs→Option R) (s:S97) (n:Nat):Option R:=aloop tau B gl0 X97 (ent 119 (e119 c119) (ent 97 (e97 c97) (ent 60 (e60 c60) (ent 120 (e120 c120) (ent 121 (e121 c121) (ent 61 (e61 c61) gnil)))))) ow [0] Try.f97 k (I97 s) (E97 p0 p1 p2 p3 p4 s) n
theorem eq97 {R:Type} (B:Ops) (c119:C119) (c97:C97) (c60:C60) (c120:C120) (c121:C121) (c61:C61) (p0:L106) (p1 p2 p3:Int) (p4:L36) (k:AV→Objs→Option R) (n:Nat):afun tau B gl0 X97 (ent 119 (e119 c119) (ent 97 (e97 c97) (ent 60 (e60 c60) (ent 120 (e120 c120) (ent 121 (e121 c121) (ent 61 (e61 c61) gnil)))))) ow Try.f97 [.c (.ptr 0 0)] [(0,.box 103 [.list 106 ty106 p0,.int .i64 p1,.own 1002,.int .i64 p2,.int .i64 p3]),(1002,.row 36 ty36 p4)] k n=T97 B c119 c97 c60 c120 c121 c61 p0 p1 p2 p3 p4 (fun s=>A97 B c119 c97 c60 c120 c121 c61 p0 p1 p2 p3 p4 k s n) (K6 k) none:=by kernel_rfl
theorem el97 {R:Type} (B:Ops) (c119:C119) (c97:C97) (c60:C60) (c120:C120) (c121:C121) (c61:C61) (p0:L106) (p1 p2 p3:Int) (p4:L36) (k:AV→Objs→Option R) (n:Nat):∀ s,A97 B c119 c97 c60 c120 c121 c61 p0 p1 p2 p3 p4 k s (n+1)=T97 B c119 c97 c60 c120 c121 c61 p0 p1 p2 p3 p4 (fun s=>A97 B c119 c97 c60 c120 c121 c61 p0 p1 p2 p3 p4 k s n) (K6 k) (some s):=by
 intro s
 cases s<;>kernel_rfl
theorem nt97 {R R':Type} (B:Ops) (c119:C119) (c97:C97) (c60:C60) (c120:C120) (c121:C121) (c61:C61) (p0:L106) (p1 p2 p3:Int) (p4:L36) (again:S97→Option R) (again':S97→Option R') (k0:(L106×Int×Int×Int×L36)→Option R') (k:R'→Option R) (h:∀ s,again s=ob (again' s) k):∀ s,T97 B c119 c97 c60 c120 c121 c61 p0 p1 p2 p3 p4 again (fun y=>ob (k0 y) k) s=ob (T97 B c119 c97 c60 c120 c121 c61 p0 p1 p2 p3 p4 again' k0 s) k:=by
 rintro (_ | x)
 all_goals try cases x
 all_goals (unfold T97;repeat' first | exact rfl | exact h _ | apply qaa | (apply qaf;intro))
def R97 (c119:C119) (c97:C97) (c60:C60) (c120:C120) (c121:C121) (c61:C61) (p0:L106) (p1 p2 p3:Int) (p4:L36):Nat→S97→Option (L106×Int×Int×Int×L36)
 | 0,_=>none
 | n+1,s=>T97 Ops.std c119 c97 c60 c120 c121 c61 p0 p1 p2 p3 p4 (R97 c119 c97 c60 c120 c121 c61 p0 p1 p2 p3 p4 n) some (some s)
theorem rr97 {R:Type} (c119:C119) (c97:C97) (c60:C60) (c120:C120) (c121:C121) (c61:C61) (p0:L106) (p1 p2 p3:Int) (p4:L36) (k:AV→Objs→Option R):∀ (n:Nat) (s:S97),A97 Ops.std c119 c97 c60 c120 c121 c61 p0 p1 p2 p3 p4 k s n=ob (R97 c119 c97 c60 c120 c121 c61 p0 p1 p2 p3 p4 n s) (K6 k)
 | 0,s=>by cases s<;>rfl
 | n+1,s=>by rw [el97];exact nt97 Ops.std c119 c97 c60 c120 c121 c61 p0 p1 p2 p3 p4 _ _ some (K6 k) (rr97 c119 c97 c60 c120 c121 c61 p0 p1 p2 p3 p4 k n) (some s)
def F97 (c119:C119) (c97:C97) (c60:C60) (c120:C120) (c121:C121) (c61:C61) (p0:L106) (p1 p2 p3:Int) (p4:L36):Option (L106×Int×Int×Int×L36):=T97 Ops.std c119 c97 c60 c120 c121 c61 p0 p1 p2 p3 p4 (R97 c119 c97 c60 c120 c121 c61 p0 p1 p2 p3 p4 1000000) some none
theorem sf97 {c119:C119} {c97:C97} {c60:C60} {c120:C120} {c121:C121} {c61:C61} (h119:Sp119 c119) (h97:Sp97 c97) (h60:Sp60 c60) (h120:Sp120 c120) (h121:Sp121 c121) (h61:Sp61 c61):Sp97 (F97 c119 c97 c60 c120 c121 c61):=fun p0 p1 p2 p3 p4 y hy=>by
 refine qae (qac (ek119 h119) (qac (ek97 h97) (qac (ek60 h60) (qac (ek120 h120) (qac (ek121 h121) (qac (ek61 h61) qad)))))) 1000000 (fn:=Try.f97) (by kernel_rfl) (by kernel_rfl) (X:=X97) (by kernel_rfl) ?_
 rw [eq97]
 exact (nt97 Ops.std c119 c97 c60 c120 c121 c61 p0 p1 p2 p3 p4 _ _ some (K6 k0) (rr97 c119 c97 c60 c120 c121 c61 p0 p1 p2 p3 p4 k0 1000000) none).trans (by show ob (F97 c119 c97 c60 c120 c121 c61 p0 p1 p2 p3 p4) _=_;rw [hy];rfl)
noncomputable def Rec60:Nat→(Int→L106→Int→Int→Int→L36→Option (L106×Int×Int×Int×L36))×(L106→Int→Int→Int→L36→Option (L106×Int×Int×Int×L36))
 | 0=>(fun _ _ _ _ _ _=>none,fun _ _ _ _ _=>none)
 | d+1=>(F60 (Rec60 d).2 (Rec60 d).1 M98,F97 M119 (Rec60 d).2 (Rec60 d).1 M120 M121 M61)
theorem rec60:∀ d,Sp60 (Rec60 d).1∧Sp97 (Rec60 d).2
 | 0=>⟨(fun p0 p1 p2 p3 p4 p5 y (h:(none:Option (L106×Int×Int×Int×L36))=some y)=>by cases h),(fun p0 p1 p2 p3 p4 y (h:(none:Option (L106×Int×Int×Int×L36))=some y)=>by cases h)⟩
 | d+1=>⟨sf60 (rec60 d).2 (rec60 d).1 sm98,sf97 sm119 (rec60 d).2 (rec60 d).1 sm120 sm121 sm61⟩
noncomputable def M60:C60:=(Rec60 1000000).1
theorem sm60:Sp60 M60:=(rec60 1000000).1
def X33:Aux:=⟨[],[(9,.lin (rg 0 15))]⟩
def T33 {R:Type} (B:Ops) (c59:C59) (c60:C60) (c61:C61) (p0:LB) (k:(Int×Int×L36)→Option R):Option R:=ob (c59 p0) fun y0=>cond (!B.eq y0.1 0) (k ((y0.1,y0.2.1,mt (Ty.den ty36)))) (ob (c60 1 y0.2.2 0 0 0 (mt (Ty.den ty36))) fun y1=>cond (B.eq y1.2.2.1 0) (cond (B.inb y1.2.1 (List.length y0.2.2)) (cond (!B.eq (List.getD y0.2.2 (Int.toNat y1.2.1) ty106.dflt).1 5) (ob (c61 2 y1.2.1 y1.1 y1.2.1 y1.2.2.1 y1.2.2.2.1 y1.2.2.2.2) fun y2=>cond (!B.eq y2.2.2.1 0) (cond (B.inb y2.2.2.2.1 (List.length y0.2.2)) (k ((y2.2.2.1,(((List.getD y0.2.2 (Int.toNat y2.2.2.2.1) ty106.dflt).2).2).2,mt (Ty.den ty36)))) none) (cond (B.lt 24 (Nat.cast (List.length y2.2.2.2.2))) (k ((13,0,mt (Ty.den ty36)))) (k (0,0,y2.2.2.2.2)))) (cond (!B.eq y1.2.2.1 0) (cond (B.inb y1.2.2.2.1 (List.length y0.2.2)) (k ((y1.2.2.1,(((List.getD y0.2.2 (Int.toNat y1.2.2.2.1) ty106.dflt).2).2).2,mt (Ty.den ty36)))) none) (cond (B.lt 24 (Nat.cast (List.length y1.2.2.2.2))) (k ((13,0,mt (Ty.den ty36)))) (k (0,0,y1.2.2.2.2))))) none) (cond (!B.eq y1.2.2.1 0) (cond (B.inb y1.2.2.2.1 (List.length y0.2.2)) (k ((y1.2.2.1,(((List.getD y0.2.2 (Int.toNat y1.2.2.2.1) ty106.dflt).2).2).2,mt (Ty.den ty36)))) none) (cond (B.lt 24 (Nat.cast (List.length y1.2.2.2.2))) (k ((13,0,mt (Ty.den ty36)))) (k (0,0,y1.2.2.2.2)))))
abbrev K12 {R:Type} (k:AV→Objs→Option R) (y:(Int×Int×L36)):Option R:=k (.tup [(false,[.own 501000]),(false,[.int .i64 y.1]),(false,[.int .i64 y.2.1])]) [(501000,.row 36 ty36 y.2.2)]
theorem eq33 {R:Type} (B:Ops) (c59:C59) (c60:C60) (c61:C61) (p0:LB) (k:AV→Objs→Option R) (n:Nat):afun tau B gl0 X33 (ent 59 (e59 c59) (ent 60 (e60 c60) (ent 61 (e61 c61) gnil))) ow Try.f33 [.c (.str p0)] [] k n=T33 B c59 c60 c61 p0 (K12 k):=by kernel_rfl
theorem nt33 {R R':Type} (B:Ops) (c59:C59) (c60:C60) (c61:C61) (p0:LB) (k0:(Int×Int×L36)→Option R') (k:R'→Option R):T33 B c59 c60 c61 p0 (fun y=>ob (k0 y) k)=ob (T33 B c59 c60 c61 p0 k0) k:=by
 unfold T33
 repeat' first | exact rfl | apply qaa | (apply qaf;intro)
def F33 (c59:C59) (c60:C60) (c61:C61) (p0:LB):Option (Int×Int×L36):=T33 Ops.std c59 c60 c61 p0 some
abbrev C33:Type:=LB→Option (Int×Int×L36)
def e33 {R:Type} (c:C33):Ent R:=eG [.aC .cS] [] fun v k=>ob (c v.1) (K12 k)
abbrev Sp33 (c:C33):Prop:=∀ (p0:LB) (y:Int×Int×L36),c p0=some y→Spec Try.prog gl0 33 [.c (.str p0)] [] (.tup [(false,[.own 501000]),(false,[.int .i64 y.1]),(false,[.int .i64 y.2.1])]) [(501000,.row 36 ty36 y.2.2)]
theorem ek33 {R:Type} {c:C33} (hs:Sp33 c):EOk 33 (e33 (R:=R) c):=qah fun v=>hs v.1
theorem sf33 {c59:C59} {c60:C60} {c61:C61} (h59:Sp59 c59) (h60:Sp60 c60) (h61:Sp61 c61):Sp33 (F33 c59 c60 c61):=fun p0 y hy=>by
 refine qae (qac (ek59 h59) (qac (ek60 h60) (qac (ek61 h61) qad))) 1000000 (fn:=Try.f33) (by kernel_rfl) (by kernel_rfl) (X:=X33) (by kernel_rfl) ?_
 rw [eq33]
 exact (nt33 Ops.std c59 c60 c61 p0 some (K12 k0)).trans (by show ob (F33 c59 c60 c61 p0) _=_;rw [hy];rfl)
noncomputable def M33:C33:=F33 M59 M60 M61
theorem sm33:Sp33 M33:=sf33 sm59 sm60 sm61
def X21:Aux:=⟨[],[]⟩
def T21 {R:Type} (B:Ops) (c33:C33) (p0:LB) (k:(L36)→Option R):Option R:=ob (c33 p0) fun y0=>k y0.2.2
abbrev K13 {R:Type} (k:AV→Objs→Option R) (y:(L36)):Option R:=k (.c (.own 500)) [(500,.row 36 ty36 y)]
theorem eq21 {R:Type} (B:Ops) (c33:C33) (p0:LB) (k:AV→Objs→Option R) (n:Nat):afun tau B gl0 X21 (ent 33 (e33 c33) gnil) ow Try.f21 [.c (.str p0)] [] k n=T21 B c33 p0 (K13 k):=by kernel_rfl
theorem nt21 {R R':Type} (B:Ops) (c33:C33) (p0:LB) (k0:(L36)→Option R') (k:R'→Option R):T21 B c33 p0 (fun y=>ob (k0 y) k)=ob (T21 B c33 p0 k0) k:=by
 unfold T21
 repeat' first | exact rfl | apply qaa | (apply qaf;intro)
def F21 (c33:C33) (p0:LB):Option (L36):=T21 Ops.std c33 p0 some
abbrev C21:Type:=LB→Option (L36)
def e21 {R:Type} (c:C21):Ent R:=eG [.aC .cS] [] fun v k=>ob (c v.1) (K13 k)
abbrev Sp21 (c:C21):Prop:=∀ (p0:LB) (y:L36),c p0=some y→Spec Try.prog gl0 21 [.c (.str p0)] [] (.c (.own 500)) [(500,.row 36 ty36 y)]
theorem ek21 {R:Type} {c:C21} (hs:Sp21 c):EOk 21 (e21 (R:=R) c):=qah fun v=>hs v.1
theorem sf21 {c33:C33} (h33:Sp33 c33):Sp21 (F21 c33):=fun p0 y hy=>by
 refine qae (qac (ek33 h33) qad) 1000000 (fn:=Try.f21) (by kernel_rfl) (by kernel_rfl) (X:=X21) (by kernel_rfl) ?_
 rw [eq21]
 exact (nt21 Ops.std c33 p0 some (K13 k0)).trans (by show ob (F21 c33 p0) _=_;rw [hy];rfl)
noncomputable def M21:C21:=F21 M33
theorem sm21:Sp21 M21:=sf21 sm33
def X123:Aux:=⟨[],[]⟩
def T123 {R:Type} (B:Ops) (p0:LB) (p1 p2 p3:Int) (p4:LB) (k:(Bool×LB)→Option R):Option R:=k (p0 == p4,p4)
abbrev K14 {R:Type} (k:AV→Objs→Option R) (y:(Bool×LB)):Option R:=k (.c (.bool y.1)) [(1,.box 9 [.str y.2])]
theorem eq123 {R:Type} (B:Ops) (p0:LB) (p1 p2 p3:Int) (p4:LB) (k:AV→Objs→Option R) (n:Nat):afun tau B gl0 X123 gnil ow Try.f123 [.agg [.str p0,.int .i64 p1,.int .i64 p2,.int .i64 p3],.c (.ptr 1 0)] [(1,.box 9 [.str p4])] k n=T123 B p0 p1 p2 p3 p4 (K14 k):=by kernel_rfl
theorem nt123 {R R':Type} (B:Ops) (p0:LB) (p1 p2 p3:Int) (p4:LB) (k0:(Bool×LB)→Option R') (k:R'→Option R):T123 B p0 p1 p2 p3 p4 (fun y=>ob (k0 y) k)=ob (T123 B p0 p1 p2 p3 p4 k0) k:=by
 unfold T123
 repeat' first | exact rfl | apply qaa | (apply qaf;intro)
def F123 (p0:LB) (p1 p2 p3:Int) (p4:LB):Option (Bool×LB):=T123 Ops.std p0 p1 p2 p3 p4 some
abbrev C123:Type:=LB→Int→Int→Int→LB→Option (Bool×LB)
def e123 {R:Type} (c:C123):Ent R:=eG [.aG [.cS,.cI .i64,.cI .i64,.cI .i64],.aC (.cP 1)] [.oB 1 9 [.cS]] fun v k=>ob (c v.1 v.2.1 v.2.2.1 v.2.2.2.1 v.2.2.2.2.1) (K14 k)
abbrev Sp123 (c:C123):Prop:=∀ (p0:LB) (p1 p2 p3:Int) (p4:LB) (y:Bool×LB),c p0 p1 p2 p3 p4=some y→Spec Try.prog gl0 123 [.agg [.str p0,.int .i64 p1,.int .i64 p2,.int .i64 p3],.c (.ptr 1 0)] [(1,.box 9 [.str p4])] (.c (.bool y.1)) [(1,.box 9 [.str y.2])]
theorem ek123 {R:Type} {c:C123} (hs:Sp123 c):EOk 123 (e123 (R:=R) c):=qah fun v=>hs v.1 v.2.1 v.2.2.1 v.2.2.2.1 v.2.2.2.2.1
theorem sf123:Sp123 (F123):=fun p0 p1 p2 p3 p4 y hy=>by
 refine qae qad 1000000 (fn:=Try.f123) (by kernel_rfl) (by kernel_rfl) (X:=X123) (by kernel_rfl) ?_
 rw [eq123]
 exact (nt123 Ops.std p0 p1 p2 p3 p4 some (K14 k0)).trans (by show ob (F123 p0 p1 p2 p3 p4) _=_;rw [hy];rfl)
noncomputable def M123:C123:=F123
theorem sm123:Sp123 M123:=sf123
def X122:Aux:=⟨[(2,([2,3,4,5,6]++rg 9 10))],[]⟩
inductive S122 where
 | l0 (v1 v2:Int) (v3:LB)
def T122 {R:Type} (B:Ops) (c123:C123) (p0:L70) (p1:LB) (again:S122→Option R) (k:(Int×LB)→Option R):Option S122→Option R | none=>again (.l0 (↑p0.length) 0 p1) | some (.l0 v1 v2 v3)=>cond (B.lt v2 v1) (cond (B.inb v2 p0.length) (ob (c123 (p0.getD v2.toNat ty70.dflt).1 ((p0.getD v2.toNat ty70.dflt).2).1 (((p0.getD v2.toNat ty70.dflt).2).2).1 (((p0.getD v2.toNat ty70.dflt).2).2).2 v3) fun y0=>cond y0.1 (k (v2,y0.2)) (again (.l0 v1 (IntKind.wrap .i64 (v2+1)) y0.2))) none) (k (-1,v3))
def E122 (p0:L70) (p1:LB):S122→List AV×Objs
 | .l0 v1 v2 v3=>(mk 19 [(0,.c (.list 70 ty70 p0)),(1,.fn 123 [.ptr 2500 0]),(7,.c (.int .i64 v1)),(8,.c (.int .i64 v2))],[(2500,.box 9 [.str v3])])
def I122:S122→Nat
 | .l0 _ _ _=>0
abbrev K15 {R:Type} (k:AV→Objs→Option R) (y:(Int×LB)):Option R:=k (.c (.int .i64 y.1)) [(2500,.box 9 [.str y.2])]
noncomputable abbrev A122 {R:Type} (B:Ops) (c123:C123) (p0:L70) (p1:LB) (k:AV→Objs→Option R) (s:S122) (n:Nat):Option R:=aloop tau B gl0 X122 (ent 123 (e123 c123) gnil) ow [2500] Try.f122 k (I122 s) (E122 p0 p1 s) n
theorem eq122 {R:Type} (B:Ops) (c123:C123) (p0:L70) (p1:LB) (k:AV→Objs→Option R) (n:Nat):afun tau B gl0 X122 (ent 123 (e123 c123) gnil) ow Try.f122 [.c (.list 70 ty70 p0),.fn 123 [.ptr 2500 0]] [(2500,.box 9 [.str p1])] k n=T122 B c123 p0 p1 (fun s=>A122 B c123 p0 p1 k s n) (K15 k) none:=by kernel_rfl
theorem el122 {R:Type} (B:Ops) (c123:C123) (p0:L70) (p1:LB) (k:AV→Objs→Option R) (n:Nat):∀ s,A122 B c123 p0 p1 k s (n+1)=T122 B c123 p0 p1 (fun s=>A122 B c123 p0 p1 k s n) (K15 k) (some s):=by
 intro s
 cases s<;>kernel_rfl
theorem nt122 {R R':Type} (B:Ops) (c123:C123) (p0:L70) (p1:LB) (again:S122→Option R) (again':S122→Option R') (k0:(Int×LB)→Option R') (k:R'→Option R) (h:∀ s,again s=ob (again' s) k):∀ s,T122 B c123 p0 p1 again (fun y=>ob (k0 y) k) s=ob (T122 B c123 p0 p1 again' k0 s) k:=by
 rintro (_ | x)
 all_goals try cases x
 all_goals (unfold T122;repeat' first | exact rfl | exact h _ | apply qaa | (apply qaf;intro))
def R122 (c123:C123) (p0:L70) (p1:LB):Nat→S122→Option (Int×LB)
 | 0,_=>none
 | n+1,s=>T122 Ops.std c123 p0 p1 (R122 c123 p0 p1 n) some (some s)
theorem rr122 {R:Type} (c123:C123) (p0:L70) (p1:LB) (k:AV→Objs→Option R):∀ (n:Nat) (s:S122),A122 Ops.std c123 p0 p1 k s n=ob (R122 c123 p0 p1 n s) (K15 k)
 | 0,s=>by cases s<;>rfl
 | n+1,s=>by rw [el122];exact nt122 Ops.std c123 p0 p1 _ _ some (K15 k) (rr122 c123 p0 p1 k n) (some s)
def F122 (c123:C123) (p0:L70) (p1:LB):Option (Int×LB):=T122 Ops.std c123 p0 p1 (R122 c123 p0 p1 1000000) some none
abbrev C122:Type:=L70→LB→Option (Int×LB)
def e122 {R:Type} (c:C122):Ent R:=eG [.aC (.cL 70 ty70),.aF 123 [.cP 2500]] [.oB 2500 9 [.cS]] fun v k=>ob (c v.1 v.2.1) (K15 k)
abbrev Sp122 (c:C122):Prop:=∀ (p0:L70) (p1:LB) (y:Int×LB),c p0 p1=some y→Spec Try.prog gl0 122 [.c (.list 70 ty70 p0),.fn 123 [.ptr 2500 0]] [(2500,.box 9 [.str p1])] (.c (.int .i64 y.1)) [(2500,.box 9 [.str y.2])]
theorem ek122 {R:Type} {c:C122} (hs:Sp122 c):EOk 122 (e122 (R:=R) c):=qah fun v=>hs v.1 v.2.1
theorem sf122 {c123:C123} (h123:Sp123 c123):Sp122 (F122 c123):=fun p0 p1 y hy=>by
 refine qae (qac (ek123 h123) qad) 1000000 (fn:=Try.f122) (by kernel_rfl) (by kernel_rfl) (X:=X122) (by kernel_rfl) ?_
 rw [eq122]
 exact (nt122 Ops.std c123 p0 p1 _ _ some (K15 k0) (rr122 c123 p0 p1 k0 1000000) none).trans (by show ob (F122 c123 p0 p1) _=_;rw [hy];rfl)
noncomputable def M122:C122:=F122 M123
theorem sm122:Sp122 M122:=sf122 sm123
def X105:Aux:=⟨[],[]⟩
def T105 {R:Type} (B:Ops) (c123:C123) (c122:C122) (p0:L70) (p1:L73) (p2:L124) (p3:LB) (k:(Int)→Option R):Option R:=ob (c122 p0 p3) fun y0=>k y0.1
theorem eq105 {R:Type} (B:Ops) (c123:C123) (c122:C122) (p0:L70) (p1:L73) (p2:L124) (p3:LB) (k:AV→Objs→Option R) (n:Nat):afun tau B gl0 X105 (ent 123 (e123 c123) (ent 122 (e122 c122) gnil)) ow Try.f105 [.agg [.list 70 ty70 p0,.list 73 ty73 p1,.list 124 ty124 p2],.c (.str p3)] [] k n=T105 B c123 c122 p0 p1 p2 p3 (K9 k):=by kernel_rfl
theorem nt105 {R R':Type} (B:Ops) (c123:C123) (c122:C122) (p0:L70) (p1:L73) (p2:L124) (p3:LB) (k0:(Int)→Option R') (k:R'→Option R):T105 B c123 c122 p0 p1 p2 p3 (fun y=>ob (k0 y) k)=ob (T105 B c123 c122 p0 p1 p2 p3 k0) k:=by
 unfold T105
 repeat' first | exact rfl | apply qaa | (apply qaf;intro)
def F105 (c123:C123) (c122:C122) (p0:L70) (p1:L73) (p2:L124) (p3:LB):Option (Int):=T105 Ops.std c123 c122 p0 p1 p2 p3 some
abbrev C105:Type:=L70→L73→L124→LB→Option (Int)
def e105 {R:Type} (c:C105):Ent R:=eG [.aG [.cL 70 ty70,.cL 73 ty73,.cL 124 ty124],.aC .cS] [] fun v k=>ob (c v.1 v.2.1 v.2.2.1 v.2.2.2.1) (K9 k)
abbrev Sp105 (c:C105):Prop:=∀ (p0:L70) (p1:L73) (p2:L124) (p3:LB) (y:Int),c p0 p1 p2 p3=some y→Spec Try.prog gl0 105 [.agg [.list 70 ty70 p0,.list 73 ty73 p1,.list 124 ty124 p2],.c (.str p3)] [] (.c (.int .i64 y)) []
theorem ek105 {R:Type} {c:C105} (hs:Sp105 c):EOk 105 (e105 (R:=R) c):=qah fun v=>hs v.1 v.2.1 v.2.2.1 v.2.2.2.1
theorem sf105 {c123:C123} {c122:C122} (h123:Sp123 c123) (h122:Sp122 c122):Sp105 (F105 c123 c122):=fun p0 p1 p2 p3 y hy=>by
 refine qae (qac (ek123 h123) (qac (ek122 h122) qad)) 1000000 (fn:=Try.f105) (by kernel_rfl) (by kernel_rfl) (X:=X105) (by kernel_rfl) ?_
 rw [eq105]
 exact (nt105 Ops.std c123 c122 p0 p1 p2 p3 some (K9 k0)).trans (by show ob (F105 c123 c122 p0 p1 p2 p3) _=_;rw [hy];rfl)
noncomputable def M105:C105:=F105 M123 M122
theorem sm105:Sp105 M105:=sf105 sm123 sm122
def X125:Aux:=⟨[],[]⟩
def T125 {R:Type} (B:Ops) (p0:LB) (p1:L9) (p2:LB) (k:(Bool×LB)→Option R):Option R:=k (p0 == p2,p2)
theorem eq125 {R:Type} (B:Ops) (p0:LB) (p1:L9) (p2:LB) (k:AV→Objs→Option R) (n:Nat):afun tau B gl0 X125 gnil ow Try.f125 [.agg [.str p0,.list 9 ty9 p1],.c (.ptr 1 0)] [(1,.box 9 [.str p2])] k n=T125 B p0 p1 p2 (K14 k):=by kernel_rfl
theorem nt125 {R R':Type} (B:Ops) (p0:LB) (p1:L9) (p2:LB) (k0:(Bool×LB)→Option R') (k:R'→Option R):T125 B p0 p1 p2 (fun y=>ob (k0 y) k)=ob (T125 B p0 p1 p2 k0) k:=by
 unfold T125
 repeat' first | exact rfl | apply qaa | (apply qaf;intro)
def F125 (p0:LB) (p1:L9) (p2:LB):Option (Bool×LB):=T125 Ops.std p0 p1 p2 some
abbrev C125:Type:=LB→L9→LB→Option (Bool×LB)
def e125 {R:Type} (c:C125):Ent R:=eG [.aG [.cS,.cL 9 ty9],.aC (.cP 1)] [.oB 1 9 [.cS]] fun v k=>ob (c v.1 v.2.1 v.2.2.1) (K14 k)
abbrev Sp125 (c:C125):Prop:=∀ (p0:LB) (p1:L9) (p2:LB) (y:Bool×LB),c p0 p1 p2=some y→Spec Try.prog gl0 125 [.agg [.str p0,.list 9 ty9 p1],.c (.ptr 1 0)] [(1,.box 9 [.str p2])] (.c (.bool y.1)) [(1,.box 9 [.str y.2])]
theorem ek125 {R:Type} {c:C125} (hs:Sp125 c):EOk 125 (e125 (R:=R) c):=qah fun v=>hs v.1 v.2.1 v.2.2.1
theorem sf125:Sp125 (F125):=fun p0 p1 p2 y hy=>by
 refine qae qad 1000000 (fn:=Try.f125) (by kernel_rfl) (by kernel_rfl) (X:=X125) (by kernel_rfl) ?_
 rw [eq125]
 exact (nt125 Ops.std p0 p1 p2 some (K14 k0)).trans (by show ob (F125 p0 p1 p2) _=_;rw [hy];rfl)
noncomputable def M125:C125:=F125
theorem sm125:Sp125 M125:=sf125
def X124:Aux:=⟨[(2,([2,3,4,5,6]++rg 9 10))],[]⟩
inductive S124 where
 | l0 (v1 v2:Int) (v3:LB)
def T124 {R:Type} (B:Ops) (c125:C125) (p0:L73) (p1:LB) (again:S124→Option R) (k:(Int×LB)→Option R):Option S124→Option R | none=>again (.l0 (↑p0.length) 0 p1) | some (.l0 v1 v2 v3)=>cond (B.lt v2 v1) (cond (B.inb v2 p0.length) (ob (c125 (p0.getD v2.toNat ty73.dflt).1 (p0.getD v2.toNat ty73.dflt).2 v3) fun y0=>cond y0.1 (k (v2,y0.2)) (again (.l0 v1 (IntKind.wrap .i64 (v2+1)) y0.2))) none) (k (-1,v3))
def E124 (p0:L73) (p1:LB):S124→List AV×Objs
 | .l0 v1 v2 v3=>(mk 19 [(0,.c (.list 73 ty73 p0)),(1,.fn 125 [.ptr 2500 0]),(7,.c (.int .i64 v1)),(8,.c (.int .i64 v2))],[(2500,.box 9 [.str v3])])
def I124:S124→Nat
 | .l0 _ _ _=>0
noncomputable abbrev A124 {R:Type} (B:Ops) (c125:C125) (p0:L73) (p1:LB) (k:AV→Objs→Option R) (s:S124) (n:Nat):Option R:=aloop tau B gl0 X124 (ent 125 (e125 c125) gnil) ow [2500] Try.f124 k (I124 s) (E124 p0 p1 s) n
theorem eq124 {R:Type} (B:Ops) (c125:C125) (p0:L73) (p1:LB) (k:AV→Objs→Option R) (n:Nat):afun tau B gl0 X124 (ent 125 (e125 c125) gnil) ow Try.f124 [.c (.list 73 ty73 p0),.fn 125 [.ptr 2500 0]] [(2500,.box 9 [.str p1])] k n=T124 B c125 p0 p1 (fun s=>A124 B c125 p0 p1 k s n) (K15 k) none:=by kernel_rfl
theorem el124 {R:Type} (B:Ops) (c125:C125) (p0:L73) (p1:LB) (k:AV→Objs→Option R) (n:Nat):∀ s,A124 B c125 p0 p1 k s (n+1)=T124 B c125 p0 p1 (fun s=>A124 B c125 p0 p1 k s n) (K15 k) (some s):=by
 intro s
 cases s<;>kernel_rfl
theorem nt124 {R R':Type} (B:Ops) (c125:C125) (p0:L73) (p1:LB) (again:S124→Option R) (again':S124→Option R') (k0:(Int×LB)→Option R') (k:R'→Option R) (h:∀ s,again s=ob (again' s) k):∀ s,T124 B c125 p0 p1 again (fun y=>ob (k0 y) k) s=ob (T124 B c125 p0 p1 again' k0 s) k:=by
 rintro (_ | x)
 all_goals try cases x
 all_goals (unfold T124;repeat' first | exact rfl | exact h _ | apply qaa | (apply qaf;intro))
def R124 (c125:C125) (p0:L73) (p1:LB):Nat→S124→Option (Int×LB)
 | 0,_=>none
 | n+1,s=>T124 Ops.std c125 p0 p1 (R124 c125 p0 p1 n) some (some s)
theorem rr124 {R:Type} (c125:C125) (p0:L73) (p1:LB) (k:AV→Objs→Option R):∀ (n:Nat) (s:S124),A124 Ops.std c125 p0 p1 k s n=ob (R124 c125 p0 p1 n s) (K15 k)
 | 0,s=>by cases s<;>rfl
 | n+1,s=>by rw [el124];exact nt124 Ops.std c125 p0 p1 _ _ some (K15 k) (rr124 c125 p0 p1 k n) (some s)
def F124 (c125:C125) (p0:L73) (p1:LB):Option (Int×LB):=T124 Ops.std c125 p0 p1 (R124 c125 p0 p1 1000000) some none
abbrev C124:Type:=L73→LB→Option (Int×LB)
def e124 {R:Type} (c:C124):Ent R:=eG [.aC (.cL 73 ty73),.aF 125 [.cP 2500]] [.oB 2500 9 [.cS]] fun v k=>ob (c v.1 v.2.1) (K15 k)
abbrev Sp124 (c:C124):Prop:=∀ (p0:L73) (p1:LB) (y:Int×LB),c p0 p1=some y→Spec Try.prog gl0 124 [.c (.list 73 ty73 p0),.fn 125 [.ptr 2500 0]] [(2500,.box 9 [.str p1])] (.c (.int .i64 y.1)) [(2500,.box 9 [.str y.2])]
theorem ek124 {R:Type} {c:C124} (hs:Sp124 c):EOk 124 (e124 (R:=R) c):=qah fun v=>hs v.1 v.2.1
theorem sf124 {c125:C125} (h125:Sp125 c125):Sp124 (F124 c125):=fun p0 p1 y hy=>by
 refine qae (qac (ek125 h125) qad) 1000000 (fn:=Try.f124) (by kernel_rfl) (by kernel_rfl) (X:=X124) (by kernel_rfl) ?_
 rw [eq124]
 exact (nt124 Ops.std c125 p0 p1 _ _ some (K15 k0) (rr124 c125 p0 p1 k0 1000000) none).trans (by show ob (F124 c125 p0 p1) _=_;rw [hy];rfl)
noncomputable def M124:C124:=F124 M125
theorem sm124:Sp124 M124:=sf124 sm125
def X126:Aux:=⟨[(2,([2,3,4,5,6]++rg 9 10))],[]⟩
inductive S126 where
 | l0 (v2 v3:Int)
def T126 {R:Type} (B:Ops) (p0:L9) (p1:LB) (again:S126→Option R) (k:(Int)→Option R):Option S126→Option R | none=>again (.l0 (↑p0.length) 0) | some (.l0 v2 v3)=>cond (B.lt v3 v2) (cond (B.inb v3 p0.length) (cond (p1 == p0.getD v3.toNat ty9.dflt) (k v3) (again (.l0 v2 (IntKind.wrap .i64 (v3+1))))) none) (k (-1))
def E126 (p0:L9) (p1:LB):S126→List AV×Objs
 | .l0 v2 v3=>(mk 19 [(0,.c (.list 9 ty9 p0)),(1,.c (.str p1)),(7,.c (.int .i64 v2)),(8,.c (.int .i64 v3))],[])
def I126:S126→Nat
 | .l0 _ _=>0
noncomputable abbrev A126 {R:Type} (B:Ops) (p0:L9) (p1:LB) (k:AV→Objs→Option R) (s:S126) (n:Nat):Option R:=aloop tau B gl0 X126 gnil ow [] Try.f126 k (I126 s) (E126 p0 p1 s) n
theorem eq126 {R:Type} (B:Ops) (p0:L9) (p1:LB) (k:AV→Objs→Option R) (n:Nat):afun tau B gl0 X126 gnil ow Try.f126 [.c (.list 9 ty9 p0),.c (.str p1)] [] k n=T126 B p0 p1 (fun s=>A126 B p0 p1 k s n) (K9 k) none:=by kernel_rfl
theorem el126 {R:Type} (B:Ops) (p0:L9) (p1:LB) (k:AV→Objs→Option R) (n:Nat):∀ s,A126 B p0 p1 k s (n+1)=T126 B p0 p1 (fun s=>A126 B p0 p1 k s n) (K9 k) (some s):=by
 intro s
 cases s<;>kernel_rfl
theorem nt126 {R R':Type} (B:Ops) (p0:L9) (p1:LB) (again:S126→Option R) (again':S126→Option R') (k0:(Int)→Option R') (k:R'→Option R) (h:∀ s,again s=ob (again' s) k):∀ s,T126 B p0 p1 again (fun y=>ob (k0 y) k) s=ob (T126 B p0 p1 again' k0 s) k:=by
 rintro (_ | x)
 all_goals try cases x
 all_goals (unfold T126;repeat' first | exact rfl | exact h _ | apply qaa | (apply qaf;intro))
def R126 (p0:L9) (p1:LB):Nat→S126→Option (Int)
 | 0,_=>none
 | n+1,s=>T126 Ops.std p0 p1 (R126 p0 p1 n) some (some s)
theorem rr126 {R:Type} (p0:L9) (p1:LB) (k:AV→Objs→Option R):∀ (n:Nat) (s:S126),A126 Ops.std p0 p1 k s n=ob (R126 p0 p1 n s) (K9 k)
 | 0,s=>by cases s<;>rfl
 | n+1,s=>by rw [el126];exact nt126 Ops.std p0 p1 _ _ some (K9 k) (rr126 p0 p1 k n) (some s)
def F126 (p0:L9) (p1:LB):Option (Int):=T126 Ops.std p0 p1 (R126 p0 p1 1000000) some none
abbrev C126:Type:=L9→LB→Option (Int)
def e126 {R:Type} (c:C126):Ent R:=eG [.aC (.cL 9 ty9),.aC .cS] [] fun v k=>ob (c v.1 v.2.1) (K9 k)
abbrev Sp126 (c:C126):Prop:=∀ (p0:L9) (p1:LB) (y:Int),c p0 p1=some y→Spec Try.prog gl0 126 [.c (.list 9 ty9 p0),.c (.str p1)] [] (.c (.int .i64 y)) []
theorem ek126 {R:Type} {c:C126} (hs:Sp126 c):EOk 126 (e126 (R:=R) c):=qah fun v=>hs v.1 v.2.1
theorem sf126:Sp126 (F126):=fun p0 p1 y hy=>by
 refine qae qad 1000000 (fn:=Try.f126) (by kernel_rfl) (by kernel_rfl) (X:=X126) (by kernel_rfl) ?_
 rw [eq126]
 exact (nt126 Ops.std p0 p1 _ _ some (K9 k0) (rr126 p0 p1 k0 1000000) none).trans (by show ob (F126 p0 p1) _=_;rw [hy];rfl)
noncomputable def M126:C126:=F126
theorem sm126:Sp126 M126:=sf126
def X106:Aux:=⟨[],[]⟩
def T106 {R:Type} (B:Ops) (c125:C125) (c124:C124) (c126:C126) (p0:L70) (p1:L73) (p2:L124) (p3 p4:LB) (k:(Int×Int)→Option R):Option R:=ob (c124 p1 p3) fun y0=>cond (B.lt y0.1 0) (k (-1,-1)) (cond (B.inb y0.1 p1.length) (ob (c126 (p1.getD (Int.toNat y0.1) ty73.dflt).2 p4) fun y1=>k (y0.1,y1)) none)
abbrev K16 {R:Type} (k:AV→Objs→Option R) (y:(Int×Int)):Option R:=k (.tup [(false,[.int .i64 y.1]),(false,[.int .i64 y.2])]) []
theorem eq106 {R:Type} (B:Ops) (c125:C125) (c124:C124) (c126:C126) (p0:L70) (p1:L73) (p2:L124) (p3 p4:LB) (k:AV→Objs→Option R) (n:Nat):afun tau B gl0 X106 (ent 125 (e125 c125) (ent 124 (e124 c124) (ent 126 (e126 c126) gnil))) ow Try.f106 [.agg [.list 70 ty70 p0,.list 73 ty73 p1,.list 124 ty124 p2],.c (.str p3),.c (.str p4)] [] k n=T106 B c125 c124 c126 p0 p1 p2 p3 p4 (K16 k):=by kernel_rfl
theorem nt106 {R R':Type} (B:Ops) (c125:C125) (c124:C124) (c126:C126) (p0:L70) (p1:L73) (p2:L124) (p3 p4:LB) (k0:(Int×Int)→Option R') (k:R'→Option R):T106 B c125 c124 c126 p0 p1 p2 p3 p4 (fun y=>ob (k0 y) k)=ob (T106 B c125 c124 c126 p0 p1 p2 p3 p4 k0) k:=by
 unfold T106
 repeat' first | exact rfl | apply qaa | (apply qaf;intro)
def F106 (c125:C125) (c124:C124) (c126:C126) (p0:L70) (p1:L73) (p2:L124) (p3 p4:LB):Option (Int×Int):=T106 Ops.std c125 c124 c126 p0 p1 p2 p3 p4 some
abbrev C106:Type:=L70→L73→L124→LB→LB→Option (Int×Int)
def e106 {R:Type} (c:C106):Ent R:=eG [.aG [.cL 70 ty70,.cL 73 ty73,.cL 124 ty124],.aC .cS,.aC .cS] [] fun v k=>ob (c v.1 v.2.1 v.2.2.1 v.2.2.2.1 v.2.2.2.2.1) (K16 k)
abbrev Sp106 (c:C106):Prop:=∀ (p0:L70) (p1:L73) (p2:L124) (p3 p4:LB) (y:Int×Int),c p0 p1 p2 p3 p4=some y→Spec Try.prog gl0 106 [.agg [.list 70 ty70 p0,.list 73 ty73 p1,.list 124 ty124 p2],.c (.str p3),.c (.str p4)] [] (.tup [(false,[.int .i64 y.1]),(false,[.int .i64 y.2])]) []
theorem ek106 {R:Type} {c:C106} (hs:Sp106 c):EOk 106 (e106 (R:=R) c):=qah fun v=>hs v.1 v.2.1 v.2.2.1 v.2.2.2.1 v.2.2.2.2.1
theorem sf106 {c125:C125} {c124:C124} {c126:C126} (h125:Sp125 c125) (h124:Sp124 c124) (h126:Sp126 c126):Sp106 (F106 c125 c124 c126):=fun p0 p1 p2 p3 p4 y hy=>by
 refine qae (qac (ek125 h125) (qac (ek124 h124) (qac (ek126 h126) qad))) 1000000 (fn:=Try.f106) (by kernel_rfl) (by kernel_rfl) (X:=X106) (by kernel_rfl) ?_
 rw [eq106]
 exact (nt106 Ops.std c125 c124 c126 p0 p1 p2 p3 p4 some (K16 k0)).trans (by show ob (F106 c125 c124 c126 p0 p1 p2 p3 p4) _=_;rw [hy];rfl)
noncomputable def M106:C106:=F106 M125 M124 M126
theorem sm106:Sp106 M106:=sf106 sm125 sm124 sm126
def X116:Aux:=⟨[],[]⟩
def T116 {R:Type} (B:Ops) (p0:Int) (k:(Int)→Option R):Option R:=cond (B.lt p0 1) (k (-1)) (cond (B.lt 16 p0) (k (-1)) (cond (B.le p0 3) (k 0) (cond (B.le p0 5) (k 1) (k 2))))
theorem eq116 {R:Type} (B:Ops) (p0:Int) (k:AV→Objs→Option R) (n:Nat):afun tau B gl0 X116 gnil ow Try.f116 [.c (.int .i64 p0)] [] k n=T116 B p0 (K9 k):=by kernel_rfl
theorem nt116 {R R':Type} (B:Ops) (p0:Int) (k0:(Int)→Option R') (k:R'→Option R):T116 B p0 (fun y=>ob (k0 y) k)=ob (T116 B p0 k0) k:=by
 unfold T116
 repeat' first | exact rfl | apply qaa | (apply qaf;intro)
def F116 (p0:Int):Option (Int):=T116 Ops.std p0 some
abbrev C116:Type:=Int→Option (Int)
def e116 {R:Type} (c:C116):Ent R:=eG [.aC (.cI .i64)] [] fun v k=>ob (c v.1) (K9 k)
abbrev Sp116 (c:C116):Prop:=∀ (p0 y:Int),c p0=some y→Spec Try.prog gl0 116 [.c (.int .i64 p0)] [] (.c (.int .i64 y)) []
theorem ek116 {R:Type} {c:C116} (hs:Sp116 c):EOk 116 (e116 (R:=R) c):=qah fun v=>hs v.1
theorem sf116:Sp116 (F116):=fun p0 y hy=>by
 refine qae qad 1000000 (fn:=Try.f116) (by kernel_rfl) (by kernel_rfl) (X:=X116) (by kernel_rfl) ?_
 rw [eq116]
 exact (nt116 Ops.std p0 some (K9 k0)).trans (by show ob (F116 p0) _=_;rw [hy];rfl)
noncomputable def M116:C116:=F116
theorem sm116:Sp116 M116:=sf116
def X117:Aux:=⟨[],[]⟩
def T117 {R:Type} (B:Ops) (c130:C130) (c116:C116) (p0 p1:Int) (p2 p3:LB) (k:(Bool)→Option R):Option R:=cond (B.eq p0 1) (cond (B.le 0 p1) (cond (B.le p1 999) (cond (p2 == mt UInt8) (k (p3 == mt UInt8)) (k false)) (k false)) (k false)) (cond (B.eq p0 2) (cond (B.eq p1 0) (ob (c130 p2) fun y0=>cond (y0) (k (p3 == mt UInt8)) (k false)) (k false)) (cond (B.eq p0 3) (cond (B.eq p1 0) (ob (c130 p2) fun y0=>cond (y0) (ob (c130 p3) fun y1=>k y1) (k false)) (k false)) (ob (c116 p0) fun y0=>cond (B.lt 0 y0) (cond (B.eq p1 0) (cond (p2 == mt UInt8) (k (p3 == mt UInt8)) (k false)) (k false)) (k false))))
theorem eq117 {R:Type} (B:Ops) (c130:C130) (c116:C116) (p0 p1:Int) (p2 p3:LB) (k:AV→Objs→Option R) (n:Nat):afun tau B gl0 X117 (ent 130 (e130 c130) (ent 116 (e116 c116) gnil)) ow Try.f117 [.agg [.int .i64 p0,.int .i64 p1,.str p2,.str p3]] [] k n=T117 B c130 c116 p0 p1 p2 p3 (K1 k):=by kernel_rfl
theorem nt117 {R R':Type} (B:Ops) (c130:C130) (c116:C116) (p0 p1:Int) (p2 p3:LB) (k0:(Bool)→Option R') (k:R'→Option R):T117 B c130 c116 p0 p1 p2 p3 (fun y=>ob (k0 y) k)=ob (T117 B c130 c116 p0 p1 p2 p3 k0) k:=by
 unfold T117
 repeat' first | exact rfl | apply qaa | (apply qaf;intro)
def F117 (c130:C130) (c116:C116) (p0 p1:Int) (p2 p3:LB):Option (Bool):=T117 Ops.std c130 c116 p0 p1 p2 p3 some
abbrev C117:Type:=Int→Int→LB→LB→Option (Bool)
def e117 {R:Type} (c:C117):Ent R:=eG [.aG [.cI .i64,.cI .i64,.cS,.cS]] [] fun v k=>ob (c v.1 v.2.1 v.2.2.1 v.2.2.2.1) (K1 k)
abbrev Sp117 (c:C117):Prop:=∀ (p0 p1:Int) (p2 p3:LB) (y:Bool),c p0 p1 p2 p3=some y→Spec Try.prog gl0 117 [.agg [.int .i64 p0,.int .i64 p1,.str p2,.str p3]] [] (.c (.bool y)) []
theorem ek117 {R:Type} {c:C117} (hs:Sp117 c):EOk 117 (e117 (R:=R) c):=qah fun v=>hs v.1 v.2.1 v.2.2.1 v.2.2.2.1
theorem sf117 {c130:C130} {c116:C116} (h130:Sp130 c130) (h116:Sp116 c116):Sp117 (F117 c130 c116):=fun p0 p1 p2 p3 y hy=>by
 refine qae (qac (ek130 h130) (qac (ek116 h116) qad)) 1000000 (fn:=Try.f117) (by kernel_rfl) (by kernel_rfl) (X:=X117) (by kernel_rfl) ?_
 rw [eq117]
 exact (nt117 Ops.std c130 c116 p0 p1 p2 p3 some (K1 k0)).trans (by show ob (F117 c130 c116 p0 p1 p2 p3) _=_;rw [hy];rfl)
noncomputable def M117:C117:=F117 M130 M116
theorem sm117:Sp117 M117:=sf117 sm130 sm116
def X89:Aux:=⟨[(3,([1,2,4,5,6]++rg 10 26))],[]⟩
inductive S89 where
 | l0 (v1 v3 v4:Int)
def T89 {R:Type} (B:Ops) (c116:C116) (c117:C117) (p0:L97) (again:S89→Option R) (k:(Bool)→Option R):Option S89→Option R | none=>again (.l0 0 (↑p0.length) 0) | some (.l0 v1 v3 v4)=>cond (B.lt v4 v3) (cond (B.inb v4 p0.length) (ob (c116 (p0.getD v4.toNat ty97.dflt).1) fun y0=>ob (c117 (p0.getD v4.toNat ty97.dflt).1 ((p0.getD v4.toNat ty97.dflt).2).1 (((p0.getD v4.toNat ty97.dflt).2).2).1 (((p0.getD v4.toNat ty97.dflt).2).2).2) fun y1=>cond (!y1) (k false) (cond (B.lt v1 y0) (k false) (again (.l0 (IntKind.wrap .i64 (v1+IntKind.wrap .i64 (1-y0))) v3 (IntKind.wrap .i64 (v4+1)))))) none) (cond (B.eq v1 1) (k (B.le (↑p0.length) 30)) (k false))
def E89 (p0:L97):S89→List AV×Objs
 | .l0 v1 v3 v4=>(mk 36 [(0,.c (.list 97 ty97 p0)),(3,.c (.int .i64 v1)),(7,.c (.list 97 ty97 p0)),(8,.c (.int .i64 v3)),(9,.c (.int .i64 v4))],[])
def I89:S89→Nat
 | .l0 _ _ _=>0
noncomputable abbrev A89 {R:Type} (B:Ops) (c116:C116) (c117:C117) (p0:L97) (k:AV→Objs→Option R) (s:S89) (n:Nat):Option R:=aloop tau B gl0 X89 (ent 116 (e116 c116) (ent 117 (e117 c117) gnil)) ow [] Try.f89 k (I89 s) (E89 p0 s) n
theorem eq89 {R:Type} (B:Ops) (c116:C116) (c117:C117) (p0:L97) (k:AV→Objs→Option R) (n:Nat):afun tau B gl0 X89 (ent 116 (e116 c116) (ent 117 (e117 c117) gnil)) ow Try.f89 [.c (.list 97 ty97 p0)] [] k n=T89 B c116 c117 p0 (fun s=>A89 B c116 c117 p0 k s n) (K1 k) none:=by kernel_rfl
theorem el89 {R:Type} (B:Ops) (c116:C116) (c117:C117) (p0:L97) (k:AV→Objs→Option R) (n:Nat):∀ s,A89 B c116 c117 p0 k s (n+1)=T89 B c116 c117 p0 (fun s=>A89 B c116 c117 p0 k s n) (K1 k) (some s):=by
 intro s
 cases s<;>kernel_rfl
theorem nt89 {R R':Type} (B:Ops) (c116:C116) (c117:C117) (p0:L97) (again:S89→Option R) (again':S89→Option R') (k0:(Bool)→Option R') (k:R'→Option R) (h:∀ s,again s=ob (again' s) k):∀ s,T89 B c116 c117 p0 again (fun y=>ob (k0 y) k) s=ob (T89 B c116 c117 p0 again' k0 s) k:=by
 rintro (_ | x)
 all_goals try cases x
 all_goals (unfold T89;repeat' first | exact rfl | exact h _ | apply qaa | (apply qaf;intro))
def R89 (c116:C116) (c117:C117) (p0:L97):Nat→S89→Option (Bool)
 | 0,_=>none
 | n+1,s=>T89 Ops.std c116 c117 p0 (R89 c116 c117 p0 n) some (some s)
theorem rr89 {R:Type} (c116:C116) (c117:C117) (p0:L97) (k:AV→Objs→Option R):∀ (n:Nat) (s:S89),A89 Ops.std c116 c117 p0 k s n=ob (R89 c116 c117 p0 n s) (K1 k)
 | 0,s=>by cases s<;>rfl
 | n+1,s=>by rw [el89];exact nt89 Ops.std c116 c117 p0 _ _ some (K1 k) (rr89 c116 c117 p0 k n) (some s)
def F89 (c116:C116) (c117:C117) (p0:L97):Option (Bool):=T89 Ops.std c116 c117 p0 (R89 c116 c117 p0 1000000) some none
abbrev C89:Type:=L97→Option (Bool)
def e89 {R:Type} (c:C89):Ent R:=eG [.aC (.cL 97 ty97)] [] fun v k=>ob (c v.1) (K1 k)
abbrev Sp89 (c:C89):Prop:=∀ (p0:L97) (y:Bool),c p0=some y→Spec Try.prog gl0 89 [.c (.list 97 ty97 p0)] [] (.c (.bool y)) []
theorem ek89 {R:Type} {c:C89} (hs:Sp89 c):EOk 89 (e89 (R:=R) c):=qah fun v=>hs v.1
theorem sf89 {c116:C116} {c117:C117} (h116:Sp116 c116) (h117:Sp117 c117):Sp89 (F89 c116 c117):=fun p0 y hy=>by
 refine qae (qac (ek116 h116) (qac (ek117 h117) qad)) 1000000 (fn:=Try.f89) (by kernel_rfl) (by kernel_rfl) (X:=X89) (by kernel_rfl) ?_
 rw [eq89]
 exact (nt89 Ops.std c116 c117 p0 _ _ some (K1 k0) (rr89 c116 c117 p0 k0 1000000) none).trans (by show ob (F89 c116 c117 p0) _=_;rw [hy];rfl)
noncomputable def M89:C89:=F89 M116 M117
theorem sm89:Sp89 M89:=sf89 sm116 sm117
def X69:Aux:=⟨[(2,([0,3,4,5,6,7,8]++rg 12 28))],[]⟩
inductive S69 where
 | l0 (v2 v3:Int)
def T69 {R:Type} (B:Ops) (c105:C105) (c106:C106) (c89:C89) (p0:L70) (p1:L73) (p2:L124) (p3:L97) (again:S69→Option R) (k:(Bool)→Option R):Option S69→Option R | none=>again (.l0 (↑p3.length) 0) | some (.l0 v2 v3)=>cond (B.lt v3 v2) (cond (B.inb v3 p3.length) (cond (B.eq (p3.getD v3.toNat ty97.dflt).1 2) (ob (c105 p0 p1 p2 (((p3.getD v3.toNat ty97.dflt).2).2).1) fun y0=>cond (B.lt y0 0) (k false) (again (.l0 v2 (IntKind.wrap .i64 (v3+1))))) (cond (B.eq (p3.getD v3.toNat ty97.dflt).1 3) (ob (c106 p0 p1 p2 (((p3.getD v3.toNat ty97.dflt).2).2).1 (((p3.getD v3.toNat ty97.dflt).2).2).2) fun y0=>cond (B.lt y0.2 0) (k false) (again (.l0 v2 (IntKind.wrap .i64 (v3+1))))) (again (.l0 v2 (IntKind.wrap .i64 (v3+1)))))) none) (ob (c89 p3) fun y0=>k y0)
def E69 (p0:L70) (p1:L73) (p2:L124) (p3:L97):S69→List AV×Objs
 | .l0 v2 v3=>(mk 40 [(1,.c (.list 97 ty97 p3)),(2,.c (.ptr 2 0)),(9,.c (.list 97 ty97 p3)),(10,.c (.int .i64 v2)),(11,.c (.int .i64 v3))],[(2,.box 41 [.list 70 ty70 p0,.list 73 ty73 p1,.list 124 ty124 p2])])
def I69:S69→Nat
 | .l0 _ _=>0
noncomputable abbrev A69 {R:Type} (B:Ops) (c105:C105) (c106:C106) (c89:C89) (p0:L70) (p1:L73) (p2:L124) (p3:L97) (k:AV→Objs→Option R) (s:S69) (n:Nat):Option R:=aloop tau B gl0 X69 (ent 105 (e105 c105) (ent 106 (e106 c106) (ent 89 (e89 c89) gnil))) ow [] Try.f69 k (I69 s) (E69 p0 p1 p2 p3 s) n
theorem eq69 {R:Type} (B:Ops) (c105:C105) (c106:C106) (c89:C89) (p0:L70) (p1:L73) (p2:L124) (p3:L97) (k:AV→Objs→Option R) (n:Nat):afun tau B gl0 X69 (ent 105 (e105 c105) (ent 106 (e106 c106) (ent 89 (e89 c89) gnil))) ow Try.f69 [.agg [.list 70 ty70 p0,.list 73 ty73 p1,.list 124 ty124 p2],.c (.list 97 ty97 p3)] [] k n=T69 B c105 c106 c89 p0 p1 p2 p3 (fun s=>A69 B c105 c106 c89 p0 p1 p2 p3 k s n) (K1 k) none:=by kernel_rfl
theorem el69 {R:Type} (B:Ops) (c105:C105) (c106:C106) (c89:C89) (p0:L70) (p1:L73) (p2:L124) (p3:L97) (k:AV→Objs→Option R) (n:Nat):∀ s,A69 B c105 c106 c89 p0 p1 p2 p3 k s (n+1)=T69 B c105 c106 c89 p0 p1 p2 p3 (fun s=>A69 B c105 c106 c89 p0 p1 p2 p3 k s n) (K1 k) (some s):=by
 intro s
 cases s<;>kernel_rfl
theorem nt69 {R R':Type} (B:Ops) (c105:C105) (c106:C106) (c89:C89) (p0:L70) (p1:L73) (p2:L124) (p3:L97) (again:S69→Option R) (again':S69→Option R') (k0:(Bool)→Option R') (k:R'→Option R) (h:∀ s,again s=ob (again' s) k):∀ s,T69 B c105 c106 c89 p0 p1 p2 p3 again (fun y=>ob (k0 y) k) s=ob (T69 B c105 c106 c89 p0 p1 p2 p3 again' k0 s) k:=by
 rintro (_ | x)
 all_goals try cases x
 all_goals (unfold T69;repeat' first | exact rfl | exact h _ | apply qaa | (apply qaf;intro))
def R69 (c105:C105) (c106:C106) (c89:C89) (p0:L70) (p1:L73) (p2:L124) (p3:L97):Nat→S69→Option (Bool)
 | 0,_=>none
 | n+1,s=>T69 Ops.std c105 c106 c89 p0 p1 p2 p3 (R69 c105 c106 c89 p0 p1 p2 p3 n) some (some s)
theorem rr69 {R:Type} (c105:C105) (c106:C106) (c89:C89) (p0:L70) (p1:L73) (p2:L124) (p3:L97) (k:AV→Objs→Option R):∀ (n:Nat) (s:S69),A69 Ops.std c105 c106 c89 p0 p1 p2 p3 k s n=ob (R69 c105 c106 c89 p0 p1 p2 p3 n s) (K1 k)
 | 0,s=>by cases s<;>rfl
 | n+1,s=>by rw [el69];exact nt69 Ops.std c105 c106 c89 p0 p1 p2 p3 _ _ some (K1 k) (rr69 c105 c106 c89 p0 p1 p2 p3 k n) (some s)
def F69 (c105:C105) (c106:C106) (c89:C89) (p0:L70) (p1:L73) (p2:L124) (p3:L97):Option (Bool):=T69 Ops.std c105 c106 c89 p0 p1 p2 p3 (R69 c105 c106 c89 p0 p1 p2 p3 1000000) some none
abbrev C69:Type:=L70→L73→L124→L97→Option (Bool)
def e69 {R:Type} (c:C69):Ent R:=eG [.aG [.cL 70 ty70,.cL 73 ty73,.cL 124 ty124],.aC (.cL 97 ty97)] [] fun v k=>ob (c v.1 v.2.1 v.2.2.1 v.2.2.2.1) (K1 k)
abbrev Sp69 (c:C69):Prop:=∀ (p0:L70) (p1:L73) (p2:L124) (p3:L97) (y:Bool),c p0 p1 p2 p3=some y→Spec Try.prog gl0 69 [.agg [.list 70 ty70 p0,.list 73 ty73 p1,.list 124 ty124 p2],.c (.list 97 ty97 p3)] [] (.c (.bool y)) []
theorem ek69 {R:Type} {c:C69} (hs:Sp69 c):EOk 69 (e69 (R:=R) c):=qah fun v=>hs v.1 v.2.1 v.2.2.1 v.2.2.2.1
theorem sf69 {c105:C105} {c106:C106} {c89:C89} (h105:Sp105 c105) (h106:Sp106 c106) (h89:Sp89 c89):Sp69 (F69 c105 c106 c89):=fun p0 p1 p2 p3 y hy=>by
 refine qae (qac (ek105 h105) (qac (ek106 h106) (qac (ek89 h89) qad))) 1000000 (fn:=Try.f69) (by kernel_rfl) (by kernel_rfl) (X:=X69) (by kernel_rfl) ?_
 rw [eq69]
 exact (nt69 Ops.std c105 c106 c89 p0 p1 p2 p3 _ _ some (K1 k0) (rr69 c105 c106 c89 p0 p1 p2 p3 k0 1000000) none).trans (by show ob (F69 c105 c106 c89 p0 p1 p2 p3) _=_;rw [hy];rfl)
noncomputable def M69:C69:=F69 M105 M106 M89
theorem sm69:Sp69 M69:=sf69 sm105 sm106 sm89
def X68:Aux:=⟨[],[]⟩
def T68 {R:Type} (B:Ops) (c69:C69) (p0:Int) (p1:L97) (p2:L70) (p3:L73) (p4:L124) (k:(Bool×L70×L73×L124)→Option R):Option R:=cond (B.eq p0 3) (ob (c69 p2 p3 p4 p1) fun y0=>k (!y0,p2,p3,p4)) (k (false,p2,p3,p4))
abbrev K17 {R:Type} (k:AV→Objs→Option R) (y:(Bool×L70×L73×L124)):Option R:=k (.c (.bool y.1)) [(1,.box 41 [.list 70 ty70 y.2.1,.list 73 ty73 y.2.2.1,.list 124 ty124 y.2.2.2])]
theorem eq68 {R:Type} (B:Ops) (c69:C69) (p0:Int) (p1:L97) (p2:L70) (p3:L73) (p4:L124) (k:AV→Objs→Option R) (n:Nat):afun tau B gl0 X68 (ent 69 (e69 c69) gnil) ow Try.f68 [.agg [.int .i64 p0,.list 97 ty97 p1],.c (.ptr 1 0)] [(1,.box 41 [.list 70 ty70 p2,.list 73 ty73 p3,.list 124 ty124 p4])] k n=T68 B c69 p0 p1 p2 p3 p4 (K17 k):=by kernel_rfl
theorem nt68 {R R':Type} (B:Ops) (c69:C69) (p0:Int) (p1:L97) (p2:L70) (p3:L73) (p4:L124) (k0:(Bool×L70×L73×L124)→Option R') (k:R'→Option R):T68 B c69 p0 p1 p2 p3 p4 (fun y=>ob (k0 y) k)=ob (T68 B c69 p0 p1 p2 p3 p4 k0) k:=by
 unfold T68
 repeat' first | exact rfl | apply qaa | (apply qaf;intro)
def F68 (c69:C69) (p0:Int) (p1:L97) (p2:L70) (p3:L73) (p4:L124):Option (Bool×L70×L73×L124):=T68 Ops.std c69 p0 p1 p2 p3 p4 some
abbrev C68:Type:=Int→L97→L70→L73→L124→Option (Bool×L70×L73×L124)
def e68 {R:Type} (c:C68):Ent R:=eG [.aG [.cI .i64,.cL 97 ty97],.aC (.cP 1)] [.oB 1 41 [.cL 70 ty70,.cL 73 ty73,.cL 124 ty124]] fun v k=>ob (c v.1 v.2.1 v.2.2.1 v.2.2.2.1 v.2.2.2.2.1) (K17 k)
abbrev Sp68 (c:C68):Prop:=∀ (p0:Int) (p1:L97) (p2:L70) (p3:L73) (p4:L124) (y:Bool×L70×L73×L124),c p0 p1 p2 p3 p4=some y→Spec Try.prog gl0 68 [.agg [.int .i64 p0,.list 97 ty97 p1],.c (.ptr 1 0)] [(1,.box 41 [.list 70 ty70 p2,.list 73 ty73 p3,.list 124 ty124 p4])] (.c (.bool y.1)) [(1,.box 41 [.list 70 ty70 y.2.1,.list 73 ty73 y.2.2.1,.list 124 ty124 y.2.2.2])]
theorem ek68 {R:Type} {c:C68} (hs:Sp68 c):EOk 68 (e68 (R:=R) c):=qah fun v=>hs v.1 v.2.1 v.2.2.1 v.2.2.2.1 v.2.2.2.2.1
theorem sf68 {c69:C69} (h69:Sp69 c69):Sp68 (F68 c69):=fun p0 p1 p2 p3 p4 y hy=>by
 refine qae (qac (ek69 h69) qad) 1000000 (fn:=Try.f68) (by kernel_rfl) (by kernel_rfl) (X:=X68) (by kernel_rfl) ?_
 rw [eq68]
 exact (nt68 Ops.std c69 p0 p1 p2 p3 p4 some (K17 k0)).trans (by show ob (F68 c69 p0 p1 p2 p3 p4) _=_;rw [hy];rfl)
noncomputable def M68:C68:=F68 M69
theorem sm68:Sp68 M68:=sf68 sm69
def X104:Aux:=⟨[(2,([2,3,4,5,6]++rg 9 10))],[]⟩
inductive S104 where
 | l0 (v1 v2:Int) (v3:L70) (v4:L73) (v5:L124)
def T104 {R:Type} (B:Ops) (c68:C68) (p0:L36) (p1:L70) (p2:L73) (p3:L124) (again:S104→Option R) (k:(Int×L70×L73×L124)→Option R):Option S104→Option R | none=>again (.l0 (↑p0.length) 0 p1 p2 p3) | some (.l0 v1 v2 v3 v4 v5)=>cond (B.lt v2 v1) (cond (B.inb v2 p0.length) (ob (c68 (p0.getD v2.toNat ty36.dflt).1 (p0.getD v2.toNat ty36.dflt).2 v3 v4 v5) fun y0=>cond y0.1 (k (v2,y0.2.1,y0.2.2.1,y0.2.2.2)) (again (.l0 v1 (IntKind.wrap .i64 (v2+1)) y0.2.1 y0.2.2.1 y0.2.2.2))) none) (k (-1,v3,v4,v5))
def E104 (p0:L36) (p1:L70) (p2:L73) (p3:L124):S104→List AV×Objs
 | .l0 v1 v2 v3 v4 v5=>(mk 19 [(0,.c (.list 36 ty36 p0)),(1,.fn 68 [.ptr 2500 0]),(7,.c (.int .i64 v1)),(8,.c (.int .i64 v2))],[(2500,.box 41 [.list 70 ty70 v3,.list 73 ty73 v4,.list 124 ty124 v5])])
def I104:S104→Nat
 | .l0 _ _ _ _ _=>0
abbrev K18 {R:Type} (k:AV→Objs→Option R) (y:(Int×L70×L73×L124)):Option R:=k (.c (.int .i64 y.1)) [(2500,.box 41 [.list 70 ty70 y.2.1,.list 73 ty73 y.2.2.1,.list 124 ty124 y.2.2.2])]
noncomputable abbrev A104 {R:Type} (B:Ops) (c68:C68) (p0:L36) (p1:L70) (p2:L73) (p3:L124) (k:AV→Objs→Option R) (s:S104) (n:Nat):Option R:=aloop tau B gl0 X104 (ent 68 (e68 c68) gnil) ow [2500] Try.f104 k (I104 s) (E104 p0 p1 p2 p3 s) n
theorem eq104 {R:Type} (B:Ops) (c68:C68) (p0:L36) (p1:L70) (p2:L73) (p3:L124) (k:AV→Objs→Option R) (n:Nat):afun tau B gl0 X104 (ent 68 (e68 c68) gnil) ow Try.f104 [.c (.list 36 ty36 p0),.fn 68 [.ptr 2500 0]] [(2500,.box 41 [.list 70 ty70 p1,.list 73 ty73 p2,.list 124 ty124 p3])] k n=T104 B c68 p0 p1 p2 p3 (fun s=>A104 B c68 p0 p1 p2 p3 k s n) (K18 k) none:=by kernel_rfl
theorem el104 {R:Type} (B:Ops) (c68:C68) (p0:L36) (p1:L70) (p2:L73) (p3:L124) (k:AV→Objs→Option R) (n:Nat):∀ s,A104 B c68 p0 p1 p2 p3 k s (n+1)=T104 B c68 p0 p1 p2 p3 (fun s=>A104 B c68 p0 p1 p2 p3 k s n) (K18 k) (some s):=by
 intro s
 cases s<;>kernel_rfl
theorem nt104 {R R':Type} (B:Ops) (c68:C68) (p0:L36) (p1:L70) (p2:L73) (p3:L124) (again:S104→Option R) (again':S104→Option R') (k0:(Int×L70×L73×L124)→Option R') (k:R'→Option R) (h:∀ s,again s=ob (again' s) k):∀ s,T104 B c68 p0 p1 p2 p3 again (fun y=>ob (k0 y) k) s=ob (T104 B c68 p0 p1 p2 p3 again' k0 s) k:=by
 rintro (_ | x)
 all_goals try cases x
 all_goals (unfold T104;repeat' first | exact rfl | exact h _ | apply qaa | (apply qaf;intro))
def R104 (c68:C68) (p0:L36) (p1:L70) (p2:L73) (p3:L124):Nat→S104→Option (Int×L70×L73×L124)
 | 0,_=>none
 | n+1,s=>T104 Ops.std c68 p0 p1 p2 p3 (R104 c68 p0 p1 p2 p3 n) some (some s)
theorem rr104 {R:Type} (c68:C68) (p0:L36) (p1:L70) (p2:L73) (p3:L124) (k:AV→Objs→Option R):∀ (n:Nat) (s:S104),A104 Ops.std c68 p0 p1 p2 p3 k s n=ob (R104 c68 p0 p1 p2 p3 n s) (K18 k)
 | 0,s=>by cases s<;>rfl
 | n+1,s=>by rw [el104];exact nt104 Ops.std c68 p0 p1 p2 p3 _ _ some (K18 k) (rr104 c68 p0 p1 p2 p3 k n) (some s)
def F104 (c68:C68) (p0:L36) (p1:L70) (p2:L73) (p3:L124):Option (Int×L70×L73×L124):=T104 Ops.std c68 p0 p1 p2 p3 (R104 c68 p0 p1 p2 p3 1000000) some none
abbrev C104:Type:=L36→L70→L73→L124→Option (Int×L70×L73×L124)
def e104 {R:Type} (c:C104):Ent R:=eG [.aC (.cL 36 ty36),.aF 68 [.cP 2500]] [.oB 2500 41 [.cL 70 ty70,.cL 73 ty73,.cL 124 ty124]] fun v k=>ob (c v.1 v.2.1 v.2.2.1 v.2.2.2.1) (K18 k)
abbrev Sp104 (c:C104):Prop:=∀ (p0:L36) (p1:L70) (p2:L73) (p3:L124) (y:Int×L70×L73×L124),c p0 p1 p2 p3=some y→Spec Try.prog gl0 104 [.c (.list 36 ty36 p0),.fn 68 [.ptr 2500 0]] [(2500,.box 41 [.list 70 ty70 p1,.list 73 ty73 p2,.list 124 ty124 p3])] (.c (.int .i64 y.1)) [(2500,.box 41 [.list 70 ty70 y.2.1,.list 73 ty73 y.2.2.1,.list 124 ty124 y.2.2.2])]
theorem ek104 {R:Type} {c:C104} (hs:Sp104 c):EOk 104 (e104 (R:=R) c):=qah fun v=>hs v.1 v.2.1 v.2.2.1 v.2.2.2.1
theorem sf104 {c68:C68} (h68:Sp68 c68):Sp104 (F104 c68):=fun p0 p1 p2 p3 y hy=>by
 refine qae (qac (ek68 h68) qad) 1000000 (fn:=Try.f104) (by kernel_rfl) (by kernel_rfl) (X:=X104) (by kernel_rfl) ?_
 rw [eq104]
 exact (nt104 Ops.std c68 p0 p1 p2 p3 _ _ some (K18 k0) (rr104 c68 p0 p1 p2 p3 k0 1000000) none).trans (by show ob (F104 c68 p0 p1 p2 p3) _=_;rw [hy];rfl)
noncomputable def M104:C104:=F104 M68
theorem sm104:Sp104 M104:=sf104 sm68
def X67:Aux:=⟨[],[]⟩
def T67 {R:Type} (B:Ops) (c104:C104) (c68:C68) (p0:L36) (p1:L70) (p2:L73) (p3:L124) (k:(Bool×L70×L73×L124)→Option R):Option R:=ob (c104 p0 p1 p2 p3) fun y0=>k (B.le 0 y0.1,y0.2.1,y0.2.2.1,y0.2.2.2)
abbrev K19 {R:Type} (k:AV→Objs→Option R) (y:(Bool×L70×L73×L124)):Option R:=k (.c (.bool y.1)) [(2500,.box 41 [.list 70 ty70 y.2.1,.list 73 ty73 y.2.2.1,.list 124 ty124 y.2.2.2])]
theorem eq67 {R:Type} (B:Ops) (c104:C104) (c68:C68) (p0:L36) (p1:L70) (p2:L73) (p3:L124) (k:AV→Objs→Option R) (n:Nat):afun tau B gl0 X67 (ent 104 (e104 c104) (ent 68 (e68 c68) gnil)) ow Try.f67 [.c (.list 36 ty36 p0),.fn 68 [.ptr 2500 0]] [(2500,.box 41 [.list 70 ty70 p1,.list 73 ty73 p2,.list 124 ty124 p3])] k n=T67 B c104 c68 p0 p1 p2 p3 (K19 k):=by kernel_rfl
theorem nt67 {R R':Type} (B:Ops) (c104:C104) (c68:C68) (p0:L36) (p1:L70) (p2:L73) (p3:L124) (k0:(Bool×L70×L73×L124)→Option R') (k:R'→Option R):T67 B c104 c68 p0 p1 p2 p3 (fun y=>ob (k0 y) k)=ob (T67 B c104 c68 p0 p1 p2 p3 k0) k:=by
 unfold T67
 repeat' first | exact rfl | apply qaa | (apply qaf;intro)
def F67 (c104:C104) (c68:C68) (p0:L36) (p1:L70) (p2:L73) (p3:L124):Option (Bool×L70×L73×L124):=T67 Ops.std c104 c68 p0 p1 p2 p3 some
abbrev C67:Type:=L36→L70→L73→L124→Option (Bool×L70×L73×L124)
def e67 {R:Type} (c:C67):Ent R:=eG [.aC (.cL 36 ty36),.aF 68 [.cP 2500]] [.oB 2500 41 [.cL 70 ty70,.cL 73 ty73,.cL 124 ty124]] fun v k=>ob (c v.1 v.2.1 v.2.2.1 v.2.2.2.1) (K19 k)
abbrev Sp67 (c:C67):Prop:=∀ (p0:L36) (p1:L70) (p2:L73) (p3:L124) (y:Bool×L70×L73×L124),c p0 p1 p2 p3=some y→Spec Try.prog gl0 67 [.c (.list 36 ty36 p0),.fn 68 [.ptr 2500 0]] [(2500,.box 41 [.list 70 ty70 p1,.list 73 ty73 p2,.list 124 ty124 p3])] (.c (.bool y.1)) [(2500,.box 41 [.list 70 ty70 y.2.1,.list 73 ty73 y.2.2.1,.list 124 ty124 y.2.2.2])]
theorem ek67 {R:Type} {c:C67} (hs:Sp67 c):EOk 67 (e67 (R:=R) c):=qah fun v=>hs v.1 v.2.1 v.2.2.1 v.2.2.2.1
theorem sf67 {c104:C104} {c68:C68} (h104:Sp104 c104) (h68:Sp68 c68):Sp67 (F67 c104 c68):=fun p0 p1 p2 p3 y hy=>by
 refine qae (qac (ek104 h104) (qac (ek68 h68) qad)) 1000000 (fn:=Try.f67) (by kernel_rfl) (by kernel_rfl) (X:=X67) (by kernel_rfl) ?_
 rw [eq67]
 exact (nt67 Ops.std c104 c68 p0 p1 p2 p3 some (K19 k0)).trans (by show ob (F67 c104 c68 p0 p1 p2 p3) _=_;rw [hy];rfl)
noncomputable def M67:C67:=F67 M104 M68
theorem sm67:Sp67 M67:=sf67 sm104 sm68
def X52:Aux:=⟨[],[]⟩
def T52 {R:Type} (B:Ops) (p0:Int) (k:(Int)→Option R):Option R:=cond (B.eq p0 1) (k 0) (cond (B.eq p0 2) (k 0) (cond (B.eq p0 3) (k 0) (cond (B.eq p0 4) (k 1) (cond (B.eq p0 8) (k 1) (cond (B.eq p0 11) (k 1) (cond (B.eq p0 12) (k 1) (cond (B.eq p0 5) (k 2) (cond (B.eq p0 6) (k 2) (cond (B.eq p0 7) (k 2) (cond (B.eq p0 9) (k 2) (cond (B.eq p0 10) (k 2) (k (-1)))))))))))))
theorem eq52 {R:Type} (B:Ops) (p0:Int) (k:AV→Objs→Option R) (n:Nat):afun tau B gl0 X52 gnil ow Try.f52 [.c (.int .i64 p0)] [] k n=T52 B p0 (K9 k):=by kernel_rfl
theorem nt52 {R R':Type} (B:Ops) (p0:Int) (k0:(Int)→Option R') (k:R'→Option R):T52 B p0 (fun y=>ob (k0 y) k)=ob (T52 B p0 k0) k:=by
 unfold T52
 repeat' first | exact rfl | apply qaa | (apply qaf;intro)
def F52 (p0:Int):Option (Int):=T52 Ops.std p0 some
abbrev C52:Type:=Int→Option (Int)
def e52 {R:Type} (c:C52):Ent R:=eG [.aC (.cI .i64)] [] fun v k=>ob (c v.1) (K9 k)
abbrev Sp52 (c:C52):Prop:=∀ (p0 y:Int),c p0=some y→Spec Try.prog gl0 52 [.c (.int .i64 p0)] [] (.c (.int .i64 y)) []
theorem ek52 {R:Type} {c:C52} (hs:Sp52 c):EOk 52 (e52 (R:=R) c):=qah fun v=>hs v.1
theorem sf52:Sp52 (F52):=fun p0 y hy=>by
 refine qae qad 1000000 (fn:=Try.f52) (by kernel_rfl) (by kernel_rfl) (X:=X52) (by kernel_rfl) ?_
 rw [eq52]
 exact (nt52 Ops.std p0 some (K9 k0)).trans (by show ob (F52 p0) _=_;rw [hy];rfl)
noncomputable def M52:C52:=F52
theorem sm52:Sp52 M52:=sf52
def X51:Aux:=⟨[(3,([1,2,4,5,6]++rg 10 47))],[]⟩
inductive S51 where
 | l0 (v1 v3 v4:Int)
def T51 {R:Type} (B:Ops) (c52:C52) (c89:C89) (p0:L36) (again:S51→Option R) (k:(Bool)→Option R):Option S51→Option R | none=>again (.l0 0 (↑p0.length) 0) | some (.l0 v1 v3 v4)=>cond (B.lt v4 v3) (cond (B.inb v4 p0.length) (ob (c52 (p0.getD v4.toNat ty36.dflt).1) fun y0=>cond (B.lt y0 0) (k false) (cond (B.lt v1 y0) (k false) (cond (B.eq (p0.getD v4.toNat ty36.dflt).1 3) (ob (c89 (p0.getD v4.toNat ty36.dflt).2) fun y1=>cond (!y1) (k false) (cond (!B.eq (p0.getD v4.toNat ty36.dflt).1 3) (cond (B.lt 0 (Nat.cast (List.length (p0.getD v4.toNat ty36.dflt).2))) (k false) (again (.l0 (IntKind.wrap .i64 (v1+IntKind.wrap .i64 (1-y0))) v3 (IntKind.wrap .i64 (v4+1))))) (again (.l0 (IntKind.wrap .i64 (v1+IntKind.wrap .i64 (1-y0))) v3 (IntKind.wrap .i64 (v4+1)))))) (cond (!B.eq (p0.getD v4.toNat ty36.dflt).1 3) (cond (B.lt 0 (Nat.cast (List.length (p0.getD v4.toNat ty36.dflt).2))) (k false) (again (.l0 (IntKind.wrap .i64 (v1+IntKind.wrap .i64 (1-y0))) v3 (IntKind.wrap .i64 (v4+1))))) (again (.l0 (IntKind.wrap .i64 (v1+IntKind.wrap .i64 (1-y0))) v3 (IntKind.wrap .i64 (v4+1)))))))) none) (cond (B.eq v1 1) (k (B.le (↑p0.length) 60)) (k false))
def E51 (p0:L36):S51→List AV×Objs
 | .l0 v1 v3 v4=>(mk 57 [(0,.c (.list 36 ty36 p0)),(3,.c (.int .i64 v1)),(7,.c (.list 36 ty36 p0)),(8,.c (.int .i64 v3)),(9,.c (.int .i64 v4))],[])
def I51:S51→Nat
 | .l0 _ _ _=>0
noncomputable abbrev A51 {R:Type} (B:Ops) (c52:C52) (c89:C89) (p0:L36) (k:AV→Objs→Option R) (s:S51) (n:Nat):Option R:=aloop tau B gl0 X51 (ent 52 (e52 c52) (ent 89 (e89 c89) gnil)) ow [] Try.f51 k (I51 s) (E51 p0 s) n
theorem eq51 {R:Type} (B:Ops) (c52:C52) (c89:C89) (p0:L36) (k:AV→Objs→Option R) (n:Nat):afun tau B gl0 X51 (ent 52 (e52 c52) (ent 89 (e89 c89) gnil)) ow Try.f51 [.c (.list 36 ty36 p0)] [] k n=T51 B c52 c89 p0 (fun s=>A51 B c52 c89 p0 k s n) (K1 k) none:=by kernel_rfl
theorem el51 {R:Type} (B:Ops) (c52:C52) (c89:C89) (p0:L36) (k:AV→Objs→Option R) (n:Nat):∀ s,A51 B c52 c89 p0 k s (n+1)=T51 B c52 c89 p0 (fun s=>A51 B c52 c89 p0 k s n) (K1 k) (some s):=by
 intro s
 cases s<;>kernel_rfl
theorem nt51 {R R':Type} (B:Ops) (c52:C52) (c89:C89) (p0:L36) (again:S51→Option R) (again':S51→Option R') (k0:(Bool)→Option R') (k:R'→Option R) (h:∀ s,again s=ob (again' s) k):∀ s,T51 B c52 c89 p0 again (fun y=>ob (k0 y) k) s=ob (T51 B c52 c89 p0 again' k0 s) k:=by
 rintro (_ | x)
 all_goals try cases x
 all_goals (unfold T51;repeat' first | exact rfl | exact h _ | apply qaa | (apply qaf;intro))
def R51 (c52:C52) (c89:C89) (p0:L36):Nat→S51→Option (Bool)
 | 0,_=>none
 | n+1,s=>T51 Ops.std c52 c89 p0 (R51 c52 c89 p0 n) some (some s)
theorem rr51 {R:Type} (c52:C52) (c89:C89) (p0:L36) (k:AV→Objs→Option R):∀ (n:Nat) (s:S51),A51 Ops.std c52 c89 p0 k s n=ob (R51 c52 c89 p0 n s) (K1 k)
 | 0,s=>by cases s<;>rfl
 | n+1,s=>by rw [el51];exact nt51 Ops.std c52 c89 p0 _ _ some (K1 k) (rr51 c52 c89 p0 k n) (some s)
def F51 (c52:C52) (c89:C89) (p0:L36):Option (Bool):=T51 Ops.std c52 c89 p0 (R51 c52 c89 p0 1000000) some none
abbrev C51:Type:=L36→Option (Bool)
def e51 {R:Type} (c:C51):Ent R:=eG [.aC (.cL 36 ty36)] [] fun v k=>ob (c v.1) (K1 k)
abbrev Sp51 (c:C51):Prop:=∀ (p0:L36) (y:Bool),c p0=some y→Spec Try.prog gl0 51 [.c (.list 36 ty36 p0)] [] (.c (.bool y)) []
theorem ek51 {R:Type} {c:C51} (hs:Sp51 c):EOk 51 (e51 (R:=R) c):=qah fun v=>hs v.1
theorem sf51 {c52:C52} {c89:C89} (h52:Sp52 c52) (h89:Sp89 c89):Sp51 (F51 c52 c89):=fun p0 y hy=>by
 refine qae (qac (ek52 h52) (qac (ek89 h89) qad)) 1000000 (fn:=Try.f51) (by kernel_rfl) (by kernel_rfl) (X:=X51) (by kernel_rfl) ?_
 rw [eq51]
 exact (nt51 Ops.std c52 c89 p0 _ _ some (K1 k0) (rr51 c52 c89 p0 k0 1000000) none).trans (by show ob (F51 c52 c89 p0) _=_;rw [hy];rfl)
noncomputable def M51:C51:=F51 M52 M89
theorem sm51:Sp51 M51:=sf51 sm52 sm89
def X40:Aux:=⟨[],[]⟩
def T40 {R:Type} (B:Ops) (c68:C68) (c67:C67) (c51:C51) (p0:L70) (p1:L73) (p2:L124) (p3:L36) (k:(Bool)→Option R):Option R:=ob (c67 p3 p0 p1 p2) fun y0=>ob (c51 p3) fun y1=>cond (y1) (k (!y0.1)) (k false)
theorem eq40 {R:Type} (B:Ops) (c68:C68) (c67:C67) (c51:C51) (p0:L70) (p1:L73) (p2:L124) (p3:L36) (k:AV→Objs→Option R) (n:Nat):afun tau B gl0 X40 (ent 68 (e68 c68) (ent 67 (e67 c67) (ent 51 (e51 c51) gnil))) ow Try.f40 [.agg [.list 70 ty70 p0,.list 73 ty73 p1,.list 124 ty124 p2],.c (.list 36 ty36 p3)] [] k n=T40 B c68 c67 c51 p0 p1 p2 p3 (K1 k):=by kernel_rfl
theorem nt40 {R R':Type} (B:Ops) (c68:C68) (c67:C67) (c51:C51) (p0:L70) (p1:L73) (p2:L124) (p3:L36) (k0:(Bool)→Option R') (k:R'→Option R):T40 B c68 c67 c51 p0 p1 p2 p3 (fun y=>ob (k0 y) k)=ob (T40 B c68 c67 c51 p0 p1 p2 p3 k0) k:=by
 unfold T40
 repeat' first | exact rfl | apply qaa | (apply qaf;intro)
def F40 (c68:C68) (c67:C67) (c51:C51) (p0:L70) (p1:L73) (p2:L124) (p3:L36):Option (Bool):=T40 Ops.std c68 c67 c51 p0 p1 p2 p3 some
abbrev C40:Type:=L70→L73→L124→L36→Option (Bool)
def e40 {R:Type} (c:C40):Ent R:=eG [.aG [.cL 70 ty70,.cL 73 ty73,.cL 124 ty124],.aC (.cL 36 ty36)] [] fun v k=>ob (c v.1 v.2.1 v.2.2.1 v.2.2.2.1) (K1 k)
abbrev Sp40 (c:C40):Prop:=∀ (p0:L70) (p1:L73) (p2:L124) (p3:L36) (y:Bool),c p0 p1 p2 p3=some y→Spec Try.prog gl0 40 [.agg [.list 70 ty70 p0,.list 73 ty73 p1,.list 124 ty124 p2],.c (.list 36 ty36 p3)] [] (.c (.bool y)) []
theorem ek40 {R:Type} {c:C40} (hs:Sp40 c):EOk 40 (e40 (R:=R) c):=qah fun v=>hs v.1 v.2.1 v.2.2.1 v.2.2.2.1
theorem sf40 {c68:C68} {c67:C67} {c51:C51} (h68:Sp68 c68) (h67:Sp67 c67) (h51:Sp51 c51):Sp40 (F40 c68 c67 c51):=fun p0 p1 p2 p3 y hy=>by
 refine qae (qac (ek68 h68) (qac (ek67 h67) (qac (ek51 h51) qad))) 1000000 (fn:=Try.f40) (by kernel_rfl) (by kernel_rfl) (X:=X40) (by kernel_rfl) ?_
 rw [eq40]
 exact (nt40 Ops.std c68 c67 c51 p0 p1 p2 p3 some (K1 k0)).trans (by show ob (F40 c68 c67 c51 p0 p1 p2 p3) _=_;rw [hy];rfl)
noncomputable def M40:C40:=F40 M68 M67 M51
theorem sm40:Sp40 M40:=sf40 sm68 sm67 sm51
def X108:Aux:=⟨[(2,([0,2,3,4,5,6,7]++rg 11 10)),(2000000,[])],[]⟩
inductive S108 where
 | l0 (v2 v3:Int)
def T108 {R:Type} (B:Ops) (p0:L70) (p1:L73) (p2:L124) (p3:LB) (again:S108→Option R) (k:(L9)→Option R):Option S108→Option R | none=>again (.l0 (↑p1.length) 0) | some (.l0 v2 v3)=>cond (B.lt v3 v2) (cond (B.inb v3 p1.length) (cond ((p1.getD v3.toNat ty73.dflt).1 == p3) (k (p1.getD v3.toNat ty73.dflt).2) (again (.l0 v2 (IntKind.wrap .i64 (v3+1))))) none) (k (mt (Ty.den Ty.str)))
def E108 (p0:L70) (p1:L73) (p2:L124) (p3:LB):S108→List AV×Objs
 | .l0 v2 v3=>(mk 21 [(1,.c (.str p3)),(8,.c (.list 73 ty73 p1)),(9,.c (.int .i64 v2)),(10,.c (.int .i64 v3))],[])
def I108:S108→Nat
 | .l0 _ _=>0
abbrev K20 {R:Type} (k:AV→Objs→Option R) (y:(L9)):Option R:=k (.c (.list 9 ty9 y)) []
noncomputable abbrev A108 {R:Type} (B:Ops) (p0:L70) (p1:L73) (p2:L124) (p3:LB) (k:AV→Objs→Option R) (s:S108) (n:Nat):Option R:=aloop tau B gl0 X108 gnil ow [] Try.f108 k (I108 s) (E108 p0 p1 p2 p3 s) n
theorem eq108 {R:Type} (B:Ops) (p0:L70) (p1:L73) (p2:L124) (p3:LB) (k:AV→Objs→Option R) (n:Nat):afun tau B gl0 X108 gnil ow Try.f108 [.agg [.list 70 ty70 p0,.list 73 ty73 p1,.list 124 ty124 p2],.c (.str p3)] [] k n=T108 B p0 p1 p2 p3 (fun s=>A108 B p0 p1 p2 p3 k s n) (K20 k) none:=by kernel_rfl
theorem el108 {R:Type} (B:Ops) (p0:L70) (p1:L73) (p2:L124) (p3:LB) (k:AV→Objs→Option R) (n:Nat):∀ s,A108 B p0 p1 p2 p3 k s (n+1)=T108 B p0 p1 p2 p3 (fun s=>A108 B p0 p1 p2 p3 k s n) (K20 k) (some s):=by
 intro s
 cases s<;>kernel_rfl
theorem nt108 {R R':Type} (B:Ops) (p0:L70) (p1:L73) (p2:L124) (p3:LB) (again:S108→Option R) (again':S108→Option R') (k0:(L9)→Option R') (k:R'→Option R) (h:∀ s,again s=ob (again' s) k):∀ s,T108 B p0 p1 p2 p3 again (fun y=>ob (k0 y) k) s=ob (T108 B p0 p1 p2 p3 again' k0 s) k:=by
 rintro (_ | x)
 all_goals try cases x
 all_goals (unfold T108;repeat' first | exact rfl | exact h _ | apply qaa | (apply qaf;intro))
def R108 (p0:L70) (p1:L73) (p2:L124) (p3:LB):Nat→S108→Option (L9)
 | 0,_=>none
 | n+1,s=>T108 Ops.std p0 p1 p2 p3 (R108 p0 p1 p2 p3 n) some (some s)
theorem rr108 {R:Type} (p0:L70) (p1:L73) (p2:L124) (p3:LB) (k:AV→Objs→Option R):∀ (n:Nat) (s:S108),A108 Ops.std p0 p1 p2 p3 k s n=ob (R108 p0 p1 p2 p3 n s) (K20 k)
 | 0,s=>by cases s<;>rfl
 | n+1,s=>by rw [el108];exact nt108 Ops.std p0 p1 p2 p3 _ _ some (K20 k) (rr108 p0 p1 p2 p3 k n) (some s)
def F108 (p0:L70) (p1:L73) (p2:L124) (p3:LB):Option (L9):=T108 Ops.std p0 p1 p2 p3 (R108 p0 p1 p2 p3 1000000) some none
abbrev C108:Type:=L70→L73→L124→LB→Option (L9)
def e108 {R:Type} (c:C108):Ent R:=eG [.aG [.cL 70 ty70,.cL 73 ty73,.cL 124 ty124],.aC .cS] [] fun v k=>ob (c v.1 v.2.1 v.2.2.1 v.2.2.2.1) (K20 k)
abbrev Sp108 (c:C108):Prop:=∀ (p0:L70) (p1:L73) (p2:L124) (p3:LB) (y:L9),c p0 p1 p2 p3=some y→Spec Try.prog gl0 108 [.agg [.list 70 ty70 p0,.list 73 ty73 p1,.list 124 ty124 p2],.c (.str p3)] [] (.c (.list 9 ty9 y)) []
theorem ek108 {R:Type} {c:C108} (hs:Sp108 c):EOk 108 (e108 (R:=R) c):=qah fun v=>hs v.1 v.2.1 v.2.2.1 v.2.2.2.1
theorem sf108:Sp108 (F108):=fun p0 p1 p2 p3 y hy=>by
 refine qae qad 1000000 (fn:=Try.f108) (by kernel_rfl) (by kernel_rfl) (X:=X108) (by kernel_rfl) ?_
 rw [eq108]
 exact (nt108 Ops.std p0 p1 p2 p3 _ _ some (K20 k0) (rr108 p0 p1 p2 p3 k0 1000000) none).trans (by show ob (F108 p0 p1 p2 p3) _=_;rw [hy];rfl)
noncomputable def M108:C108:=F108
theorem sm108:Sp108 M108:=sf108
def X110:Aux:=⟨[],[]⟩
def T110 {R:Type} (B:Ops) (p0:LB) (p1 p2 p3:Int) (p4:LB) (p5:L97) (k:(Bool×LB×L97)→Option R):Option R:=k (p0 == p4,p4,p5)
abbrev K21 {R:Type} (k:AV→Objs→Option R) (y:(Bool×LB×L97)):Option R:=k (.c (.bool y.1)) [(1,.box 148 [.str y.2.1,.list 97 ty97 y.2.2])]
theorem eq110 {R:Type} (B:Ops) (p0:LB) (p1 p2 p3:Int) (p4:LB) (p5:L97) (k:AV→Objs→Option R) (n:Nat):afun tau B gl0 X110 gnil ow Try.f110 [.agg [.str p0,.int .i64 p1,.int .i64 p2,.int .i64 p3],.c (.ptr 1 0)] [(1,.box 148 [.str p4,.list 97 ty97 p5])] k n=T110 B p0 p1 p2 p3 p4 p5 (K21 k):=by kernel_rfl
theorem nt110 {R R':Type} (B:Ops) (p0:LB) (p1 p2 p3:Int) (p4:LB) (p5:L97) (k0:(Bool×LB×L97)→Option R') (k:R'→Option R):T110 B p0 p1 p2 p3 p4 p5 (fun y=>ob (k0 y) k)=ob (T110 B p0 p1 p2 p3 p4 p5 k0) k:=by
 unfold T110
 repeat' first | exact rfl | apply qaa | (apply qaf;intro)
def F110 (p0:LB) (p1 p2 p3:Int) (p4:LB) (p5:L97):Option (Bool×LB×L97):=T110 Ops.std p0 p1 p2 p3 p4 p5 some
abbrev C110:Type:=LB→Int→Int→Int→LB→L97→Option (Bool×LB×L97)
def e110 {R:Type} (c:C110):Ent R:=eG [.aG [.cS,.cI .i64,.cI .i64,.cI .i64],.aC (.cP 1)] [.oB 1 148 [.cS,.cL 97 ty97]] fun v k=>ob (c v.1 v.2.1 v.2.2.1 v.2.2.2.1 v.2.2.2.2.1 v.2.2.2.2.2.1) (K21 k)
abbrev Sp110 (c:C110):Prop:=∀ (p0:LB) (p1 p2 p3:Int) (p4:LB) (p5:L97) (y:Bool×LB×L97),c p0 p1 p2 p3 p4 p5=some y→Spec Try.prog gl0 110 [.agg [.str p0,.int .i64 p1,.int .i64 p2,.int .i64 p3],.c (.ptr 1 0)] [(1,.box 148 [.str p4,.list 97 ty97 p5])] (.c (.bool y.1)) [(1,.box 148 [.str y.2.1,.list 97 ty97 y.2.2])]
theorem ek110 {R:Type} {c:C110} (hs:Sp110 c):EOk 110 (e110 (R:=R) c):=qah fun v=>hs v.1 v.2.1 v.2.2.1 v.2.2.2.1 v.2.2.2.2.1 v.2.2.2.2.2.1
theorem sf110:Sp110 (F110):=fun p0 p1 p2 p3 p4 p5 y hy=>by
 refine qae qad 1000000 (fn:=Try.f110) (by kernel_rfl) (by kernel_rfl) (X:=X110) (by kernel_rfl) ?_
 rw [eq110]
 exact (nt110 Ops.std p0 p1 p2 p3 p4 p5 some (K21 k0)).trans (by show ob (F110 p0 p1 p2 p3 p4 p5) _=_;rw [hy];rfl)
noncomputable def M110:C110:=F110
theorem sm110:Sp110 M110:=sf110
def X158:Aux:=⟨[(2,([2,3,4,5,6]++rg 9 10))],[]⟩
inductive S158 where
 | l0 (v1 v2:Int) (v3:LB) (v4:L97)
def T158 {R:Type} (B:Ops) (c110:C110) (p0:L70) (p1:LB) (p2:L97) (again:S158→Option R) (k:(Int×LB×L97)→Option R):Option S158→Option R | none=>again (.l0 (↑p0.length) 0 p1 p2) | some (.l0 v1 v2 v3 v4)=>cond (B.lt v2 v1) (cond (B.inb v2 p0.length) (ob (c110 (p0.getD v2.toNat ty70.dflt).1 ((p0.getD v2.toNat ty70.dflt).2).1 (((p0.getD v2.toNat ty70.dflt).2).2).1 (((p0.getD v2.toNat ty70.dflt).2).2).2 v3 v4) fun y0=>cond y0.1 (k (v2,y0.2.1,y0.2.2)) (again (.l0 v1 (IntKind.wrap .i64 (v2+1)) y0.2.1 y0.2.2))) none) (k (-1,v3,v4))
def E158 (p0:L70) (p1:LB) (p2:L97):S158→List AV×Objs
 | .l0 v1 v2 v3 v4=>(mk 19 [(0,.c (.list 70 ty70 p0)),(1,.fn 110 [.ptr 2500 0]),(7,.c (.int .i64 v1)),(8,.c (.int .i64 v2))],[(2500,.box 148 [.str v3,.list 97 ty97 v4])])
def I158:S158→Nat
 | .l0 _ _ _ _=>0
abbrev K22 {R:Type} (k:AV→Objs→Option R) (y:(Int×LB×L97)):Option R:=k (.c (.int .i64 y.1)) [(2500,.box 148 [.str y.2.1,.list 97 ty97 y.2.2])]
noncomputable abbrev A158 {R:Type} (B:Ops) (c110:C110) (p0:L70) (p1:LB) (p2:L97) (k:AV→Objs→Option R) (s:S158) (n:Nat):Option R:=aloop tau B gl0 X158 (ent 110 (e110 c110) gnil) ow [2500] Try.f122 k (I158 s) (E158 p0 p1 p2 s) n
theorem eq158 {R:Type} (B:Ops) (c110:C110) (p0:L70) (p1:LB) (p2:L97) (k:AV→Objs→Option R) (n:Nat):afun tau B gl0 X158 (ent 110 (e110 c110) gnil) ow Try.f122 [.c (.list 70 ty70 p0),.fn 110 [.ptr 2500 0]] [(2500,.box 148 [.str p1,.list 97 ty97 p2])] k n=T158 B c110 p0 p1 p2 (fun s=>A158 B c110 p0 p1 p2 k s n) (K22 k) none:=by kernel_rfl
theorem el158 {R:Type} (B:Ops) (c110:C110) (p0:L70) (p1:LB) (p2:L97) (k:AV→Objs→Option R) (n:Nat):∀ s,A158 B c110 p0 p1 p2 k s (n+1)=T158 B c110 p0 p1 p2 (fun s=>A158 B c110 p0 p1 p2 k s n) (K22 k) (some s):=by
 intro s
 cases s<;>kernel_rfl
theorem nt158 {R R':Type} (B:Ops) (c110:C110) (p0:L70) (p1:LB) (p2:L97) (again:S158→Option R) (again':S158→Option R') (k0:(Int×LB×L97)→Option R') (k:R'→Option R) (h:∀ s,again s=ob (again' s) k):∀ s,T158 B c110 p0 p1 p2 again (fun y=>ob (k0 y) k) s=ob (T158 B c110 p0 p1 p2 again' k0 s) k:=by
 rintro (_ | x)
 all_goals try cases x
 all_goals (unfold T158;repeat' first | exact rfl | exact h _ | apply qaa | (apply qaf;intro))
def R158 (c110:C110) (p0:L70) (p1:LB) (p2:L97):Nat→S158→Option (Int×LB×L97)
 | 0,_=>none
 | n+1,s=>T158 Ops.std c110 p0 p1 p2 (R158 c110 p0 p1 p2 n) some (some s)
theorem rr158 {R:Type} (c110:C110) (p0:L70) (p1:LB) (p2:L97) (k:AV→Objs→Option R):∀ (n:Nat) (s:S158),A158 Ops.std c110 p0 p1 p2 k s n=ob (R158 c110 p0 p1 p2 n s) (K22 k)
 | 0,s=>by cases s<;>rfl
 | n+1,s=>by rw [el158];exact nt158 Ops.std c110 p0 p1 p2 _ _ some (K22 k) (rr158 c110 p0 p1 p2 k n) (some s)
def F158 (c110:C110) (p0:L70) (p1:LB) (p2:L97):Option (Int×LB×L97):=T158 Ops.std c110 p0 p1 p2 (R158 c110 p0 p1 p2 1000000) some none
abbrev C158:Type:=L70→LB→L97→Option (Int×LB×L97)
def e158 {R:Type} (c:C158):Ent R:=eG [.aC (.cL 70 ty70),.aF 110 [.cP 2500]] [.oB 2500 148 [.cS,.cL 97 ty97]] fun v k=>ob (c v.1 v.2.1 v.2.2.1) (K22 k)
abbrev Sp158 (c:C158):Prop:=∀ (p0:L70) (p1:LB) (p2:L97) (y:Int×LB×L97),c p0 p1 p2=some y→Spec Try.prog gl0 122 [.c (.list 70 ty70 p0),.fn 110 [.ptr 2500 0]] [(2500,.box 148 [.str p1,.list 97 ty97 p2])] (.c (.int .i64 y.1)) [(2500,.box 148 [.str y.2.1,.list 97 ty97 y.2.2])]
theorem ek158 {R:Type} {c:C158} (hs:Sp158 c):EOk 122 (e158 (R:=R) c):=qah fun v=>hs v.1 v.2.1 v.2.2.1
theorem sf158 {c110:C110} (h110:Sp110 c110):Sp158 (F158 c110):=fun p0 p1 p2 y hy=>by
 refine qae (qac (ek110 h110) qad) 1000000 (fn:=Try.f122) (by kernel_rfl) (by kernel_rfl) (X:=X158) (by kernel_rfl) ?_
 rw [eq158]
 exact (nt158 Ops.std c110 p0 p1 p2 _ _ some (K22 k0) (rr158 c110 p0 p1 p2 k0 1000000) none).trans (by show ob (F158 c110 p0 p1 p2) _=_;rw [hy];rfl)
noncomputable def M158:C158:=F158 M110
theorem sm158:Sp158 M158:=sf158 sm110
def X109:Aux:=⟨[],[]⟩
def T109 {R:Type} (B:Ops) (c158:C158) (c110:C110) (p0:L70) (p1:LB) (p2:L97) (k:(Bool×LB×L97)→Option R):Option R:=ob (c158 p0 p1 p2) fun y0=>k (B.le 0 y0.1,y0.2.1,y0.2.2)
abbrev K23 {R:Type} (k:AV→Objs→Option R) (y:(Bool×LB×L97)):Option R:=k (.c (.bool y.1)) [(2500,.box 148 [.str y.2.1,.list 97 ty97 y.2.2])]
theorem eq109 {R:Type} (B:Ops) (c158:C158) (c110:C110) (p0:L70) (p1:LB) (p2:L97) (k:AV→Objs→Option R) (n:Nat):afun tau B gl0 X109 (ent 122 (e158 c158) (ent 110 (e110 c110) gnil)) ow Try.f109 [.c (.list 70 ty70 p0),.fn 110 [.ptr 2500 0]] [(2500,.box 148 [.str p1,.list 97 ty97 p2])] k n=T109 B c158 c110 p0 p1 p2 (K23 k):=by kernel_rfl
theorem nt109 {R R':Type} (B:Ops) (c158:C158) (c110:C110) (p0:L70) (p1:LB) (p2:L97) (k0:(Bool×LB×L97)→Option R') (k:R'→Option R):T109 B c158 c110 p0 p1 p2 (fun y=>ob (k0 y) k)=ob (T109 B c158 c110 p0 p1 p2 k0) k:=by
 unfold T109
 repeat' first | exact rfl | apply qaa | (apply qaf;intro)
def F109 (c158:C158) (c110:C110) (p0:L70) (p1:LB) (p2:L97):Option (Bool×LB×L97):=T109 Ops.std c158 c110 p0 p1 p2 some
abbrev C109:Type:=L70→LB→L97→Option (Bool×LB×L97)
def e109 {R:Type} (c:C109):Ent R:=eG [.aC (.cL 70 ty70),.aF 110 [.cP 2500]] [.oB 2500 148 [.cS,.cL 97 ty97]] fun v k=>ob (c v.1 v.2.1 v.2.2.1) (K23 k)
abbrev Sp109 (c:C109):Prop:=∀ (p0:L70) (p1:LB) (p2:L97) (y:Bool×LB×L97),c p0 p1 p2=some y→Spec Try.prog gl0 109 [.c (.list 70 ty70 p0),.fn 110 [.ptr 2500 0]] [(2500,.box 148 [.str p1,.list 97 ty97 p2])] (.c (.bool y.1)) [(2500,.box 148 [.str y.2.1,.list 97 ty97 y.2.2])]
theorem ek109 {R:Type} {c:C109} (hs:Sp109 c):EOk 109 (e109 (R:=R) c):=qah fun v=>hs v.1 v.2.1 v.2.2.1
theorem sf109 {c158:C158} {c110:C110} (h158:Sp158 c158) (h110:Sp110 c110):Sp109 (F109 c158 c110):=fun p0 p1 p2 y hy=>by
 refine qae (qac (ek158 h158) (qac (ek110 h110) qad)) 1000000 (fn:=Try.f109) (by kernel_rfl) (by kernel_rfl) (X:=X109) (by kernel_rfl) ?_
 rw [eq109]
 exact (nt109 Ops.std c158 c110 p0 p1 p2 some (K23 k0)).trans (by show ob (F109 c158 c110 p0 p1 p2) _=_;rw [hy];rfl)
noncomputable def M109:C109:=F109 M158 M110
theorem sm109:Sp109 M109:=sf109 sm158 sm110
def X111:Aux:=⟨[],[]⟩
def T111 {R:Type} (B:Ops) (c126:C126) (p0:L9) (p1:LB) (k:(Bool)→Option R):Option R:=ob (c126 p0 p1) fun y0=>k (B.le 0 y0)
theorem eq111 {R:Type} (B:Ops) (c126:C126) (p0:L9) (p1:LB) (k:AV→Objs→Option R) (n:Nat):afun tau B gl0 X111 (ent 126 (e126 c126) gnil) ow Try.f111 [.c (.list 9 ty9 p0),.c (.str p1)] [] k n=T111 B c126 p0 p1 (K1 k):=by kernel_rfl
theorem nt111 {R R':Type} (B:Ops) (c126:C126) (p0:L9) (p1:LB) (k0:(Bool)→Option R') (k:R'→Option R):T111 B c126 p0 p1 (fun y=>ob (k0 y) k)=ob (T111 B c126 p0 p1 k0) k:=by
 unfold T111
 repeat' first | exact rfl | apply qaa | (apply qaf;intro)
def F111 (c126:C126) (p0:L9) (p1:LB):Option (Bool):=T111 Ops.std c126 p0 p1 some
abbrev C111:Type:=L9→LB→Option (Bool)
def e111 {R:Type} (c:C111):Ent R:=eG [.aC (.cL 9 ty9),.aC .cS] [] fun v k=>ob (c v.1 v.2.1) (K1 k)
abbrev Sp111 (c:C111):Prop:=∀ (p0:L9) (p1:LB) (y:Bool),c p0 p1=some y→Spec Try.prog gl0 111 [.c (.list 9 ty9 p0),.c (.str p1)] [] (.c (.bool y)) []
theorem ek111 {R:Type} {c:C111} (hs:Sp111 c):EOk 111 (e111 (R:=R) c):=qah fun v=>hs v.1 v.2.1
theorem sf111 {c126:C126} (h126:Sp126 c126):Sp111 (F111 c126):=fun p0 p1 y hy=>by
 refine qae (qac (ek126 h126) qad) 1000000 (fn:=Try.f111) (by kernel_rfl) (by kernel_rfl) (X:=X111) (by kernel_rfl) ?_
 rw [eq111]
 exact (nt111 Ops.std c126 p0 p1 some (K1 k0)).trans (by show ob (F111 c126 p0 p1) _=_;rw [hy];rfl)
noncomputable def M111:C111:=F111 M126
theorem sm111:Sp111 M111:=sf111 sm126
def X112:Aux:=⟨[],[]⟩
def T112 {R:Type} (B:Ops) (c130:C130) (p0:LB) (k:(Bool)→Option R):Option R:=cond (p0 == mt UInt8) (k true) (cond (B.inb (IntKind.wrap .i64 (Nat.cast p0.length-1)) p0.length) (cond (B.inb (IntKind.wrap .i64 (Nat.cast p0.length-1)) (List.length p0+1)) (ob (c130 (List.drop 0 (List.take (Int.toNat (IntKind.wrap .i64 (Nat.cast p0.length-1))) p0))) fun y0=>cond (y0) (cond (B.eq (Nat.cast (UInt8.toNat (p0.getD (Int.toNat (IntKind.wrap .i64 (Nat.cast p0.length-1))) 0))) 33) (k true) (k (B.eq (Nat.cast (UInt8.toNat (p0.getD (Int.toNat (IntKind.wrap .i64 (Nat.cast p0.length-1))) 0))) 63))) (k false)) none) none)
theorem eq112 {R:Type} (B:Ops) (c130:C130) (p0:LB) (k:AV→Objs→Option R) (n:Nat):afun tau B gl0 X112 (ent 130 (e130 c130) gnil) ow Try.f112 [.c (.str p0)] [] k n=T112 B c130 p0 (K1 k):=by kernel_rfl
theorem nt112 {R R':Type} (B:Ops) (c130:C130) (p0:LB) (k0:(Bool)→Option R') (k:R'→Option R):T112 B c130 p0 (fun y=>ob (k0 y) k)=ob (T112 B c130 p0 k0) k:=by
 unfold T112
 repeat' first | exact rfl | apply qaa | (apply qaf;intro)
def F112 (c130:C130) (p0:LB):Option (Bool):=T112 Ops.std c130 p0 some
abbrev C112:Type:=LB→Option (Bool)
def e112 {R:Type} (c:C112):Ent R:=eG [.aC .cS] [] fun v k=>ob (c v.1) (K1 k)
abbrev Sp112 (c:C112):Prop:=∀ (p0:LB) (y:Bool),c p0=some y→Spec Try.prog gl0 112 [.c (.str p0)] [] (.c (.bool y)) []
theorem ek112 {R:Type} {c:C112} (hs:Sp112 c):EOk 112 (e112 (R:=R) c):=qah fun v=>hs v.1
theorem sf112 {c130:C130} (h130:Sp130 c130):Sp112 (F112 c130):=fun p0 y hy=>by
 refine qae (qac (ek130 h130) qad) 1000000 (fn:=Try.f112) (by kernel_rfl) (by kernel_rfl) (X:=X112) (by kernel_rfl) ?_
 rw [eq112]
 exact (nt112 Ops.std c130 p0 some (K1 k0)).trans (by show ob (F112 c130 p0) _=_;rw [hy];rfl)
noncomputable def M112:C112:=F112 M130
theorem sm112:Sp112 M112:=sf112 sm130
def X82:Aux:=⟨[(3,([0,1,4,6,7,8,9,10,11,12,13]++rg 17 54))],[]⟩
inductive S82 where
 | l0 (v0:L9) (v2 v3:Int)
def T82 {R:Type} (B:Ops) (c108:C108) (c110:C110) (c109:C109) (c69:C69) (c111:C111) (c112:C112) (p0:L70) (p1:L73) (p2:L124) (p3:Int) (p4 p5 p6 p7:LB) (p8:L97) (p9:L148) (again:S82→Option R) (k:(Bool)→Option R):Option S82→Option R | none=>ob (c108 p0 p1 p2 p4) fun y0=>again (.l0 y0 (↑p9.length) 0) | some (.l0 v0 v2 v3)=>cond (B.lt v3 v2) (cond (B.inb v3 p9.length) (ob (c109 p0 (p9.getD v3.toNat ty148.dflt).1 (p9.getD v3.toNat ty148.dflt).2) fun y0=>cond (!y0.1) (k false) (ob (c69 p0 p1 p2 y0.2.2) fun y1=>cond (!y1) (k false) (again (.l0 v0 v2 (IntKind.wrap .i64 (v3+1)))))) none) (cond (B.le 1 p3) (cond (B.le p3 999) (ob (c111 v0 p5) fun y0=>cond (y0) (ob (c111 v0 p6) fun y1=>cond (y1) (ob (c112 p7) fun y2=>cond (y2) (ob (c69 p0 p1 p2 p8) fun y3=>cond (y3) (k (B.le (↑p9.length) 3)) (k false)) (k false)) (k false)) (k false)) (k false)) (k false))
def E82 (p0:L70) (p1:L73) (p2:L124) (p3:Int) (p4 p5 p6 p7:LB) (p8:L97) (p9:L148):S82→List AV×Objs
 | .l0 v0 v2 v3=>(mk 71 [(2,.c (.ptr 2 0)),(3,.c (.ptr 3 0)),(5,.c (.list 9 ty9 v0)),(14,.c (.list 148 ty148 p9)),(15,.c (.int .i64 v2)),(16,.c (.int .i64 v3))],[(2,.box 41 [.list 70 ty70 p0,.list 73 ty73 p1,.list 124 ty124 p2]),(3,.box 124 [.int .i64 p3,.str p4,.str p5,.str p6,.str p7,.list 97 ty97 p8,.list 148 ty148 p9])])
def I82:S82→Nat
 | .l0 _ _ _=>0
noncomputable abbrev A82 {R:Type} (B:Ops) (c108:C108) (c110:C110) (c109:C109) (c69:C69) (c111:C111) (c112:C112) (p0:L70) (p1:L73) (p2:L124) (p3:Int) (p4 p5 p6 p7:LB) (p8:L97) (p9:L148) (k:AV→Objs→Option R) (s:S82) (n:Nat):Option R:=aloop tau B gl0 X82 (ent 108 (e108 c108) (ent 110 (e110 c110) (ent 109 (e109 c109) (ent 69 (e69 c69) (ent 111 (e111 c111) (ent 112 (e112 c112) gnil)))))) ow [] Try.f82 k (I82 s) (E82 p0 p1 p2 p3 p4 p5 p6 p7 p8 p9 s) n
theorem eq82 {R:Type} (B:Ops) (c108:C108) (c110:C110) (c109:C109) (c69:C69) (c111:C111) (c112:C112) (p0:L70) (p1:L73) (p2:L124) (p3:Int) (p4 p5 p6 p7:LB) (p8:L97) (p9:L148) (k:AV→Objs→Option R) (n:Nat):afun tau B gl0 X82 (ent 108 (e108 c108) (ent 110 (e110 c110) (ent 109 (e109 c109) (ent 69 (e69 c69) (ent 111 (e111 c111) (ent 112 (e112 c112) gnil)))))) ow Try.f82 [.agg [.list 70 ty70 p0,.list 73 ty73 p1,.list 124 ty124 p2],.agg [.int .i64 p3,.str p4,.str p5,.str p6,.str p7,.list 97 ty97 p8,.list 148 ty148 p9]] [] k n=T82 B c108 c110 c109 c69 c111 c112 p0 p1 p2 p3 p4 p5 p6 p7 p8 p9 (fun s=>A82 B c108 c110 c109 c69 c111 c112 p0 p1 p2 p3 p4 p5 p6 p7 p8 p9 k s n) (K1 k) none:=by kernel_rfl
theorem el82 {R:Type} (B:Ops) (c108:C108) (c110:C110) (c109:C109) (c69:C69) (c111:C111) (c112:C112) (p0:L70) (p1:L73) (p2:L124) (p3:Int) (p4 p5 p6 p7:LB) (p8:L97) (p9:L148) (k:AV→Objs→Option R) (n:Nat):∀ s,A82 B c108 c110 c109 c69 c111 c112 p0 p1 p2 p3 p4 p5 p6 p7 p8 p9 k s (n+1)=T82 B c108 c110 c109 c69 c111 c112 p0 p1 p2 p3 p4 p5 p6 p7 p8 p9 (fun s=>A82 B c108 c110 c109 c69 c111 c112 p0 p1 p2 p3 p4 p5 p6 p7 p8 p9 k s n) (K1 k) (some s):=by
 intro s
 cases s<;>kernel_rfl
theorem nt82 {R R':Type} (B:Ops) (c108:C108) (c110:C110) (c109:C109) (c69:C69) (c111:C111) (c112:C112) (p0:L70) (p1:L73) (p2:L124) (p3:Int) (p4 p5 p6 p7:LB) (p8:L97) (p9:L148) (again:S82→Option R) (again':S82→Option R') (k0:(Bool)→Option R') (k:R'→Option R) (h:∀ s,again s=ob (again' s) k):∀ s,T82 B c108 c110 c109 c69 c111 c112 p0 p1 p2 p3 p4 p5 p6 p7 p8 p9 again (fun y=>ob (k0 y) k) s=ob (T82 B c108 c110 c109 c69 c111 c112 p0 p1 p2 p3 p4 p5 p6 p7 p8 p9 again' k0 s) k:=by
 rintro (_ | x)
 all_goals try cases x
 all_goals (unfold T82;repeat' first | exact rfl | exact h _ | apply qaa | (apply qaf;intro))
def R82 (c108:C108) (c110:C110) (c109:C109) (c69:C69) (c111:C111) (c112:C112) (p0:L70) (p1:L73) (p2:L124) (p3:Int) (p4 p5 p6 p7:LB) (p8:L97) (p9:L148):Nat→S82→Option (Bool)
 | 0,_=>none
 | n+1,s=>T82 Ops.std c108 c110 c109 c69 c111 c112 p0 p1 p2 p3 p4 p5 p6 p7 p8 p9 (R82 c108 c110 c109 c69 c111 c112 p0 p1 p2 p3 p4 p5 p6 p7 p8 p9 n) some (some s)
theorem rr82 {R:Type} (c108:C108) (c110:C110) (c109:C109) (c69:C69) (c111:C111) (c112:C112) (p0:L70) (p1:L73) (p2:L124) (p3:Int) (p4 p5 p6 p7:LB) (p8:L97) (p9:L148) (k:AV→Objs→Option R):∀ (n:Nat) (s:S82),A82 Ops.std c108 c110 c109 c69 c111 c112 p0 p1 p2 p3 p4 p5 p6 p7 p8 p9 k s n=ob (R82 c108 c110 c109 c69 c111 c112 p0 p1 p2 p3 p4 p5 p6 p7 p8 p9 n s) (K1 k)
 | 0,s=>by cases s<;>rfl
 | n+1,s=>by rw [el82];exact nt82 Ops.std c108 c110 c109 c69 c111 c112 p0 p1 p2 p3 p4 p5 p6 p7 p8 p9 _ _ some (K1 k) (rr82 c108 c110 c109 c69 c111 c112 p0 p1 p2 p3 p4 p5 p6 p7 p8 p9 k n) (some s)
def F82 (c108:C108) (c110:C110) (c109:C109) (c69:C69) (c111:C111) (c112:C112) (p0:L70) (p1:L73) (p2:L124) (p3:Int) (p4 p5 p6 p7:LB) (p8:L97) (p9:L148):Option (Bool):=T82 Ops.std c108 c110 c109 c69 c111 c112 p0 p1 p2 p3 p4 p5 p6 p7 p8 p9 (R82 c108 c110 c109 c69 c111 c112 p0 p1 p2 p3 p4 p5 p6 p7 p8 p9 1000000) some none
abbrev C82:Type:=L70→L73→L124→Int→LB→LB→LB→LB→L97→L148→Option (Bool)
def e82 {R:Type} (c:C82):Ent R:=eG [.aG [.cL 70 ty70,.cL 73 ty73,.cL 124 ty124],.aG [.cI .i64,.cS,.cS,.cS,.cS,.cL 97 ty97,.cL 148 ty148]] [] fun v k=>ob (c v.1 v.2.1 v.2.2.1 v.2.2.2.1 v.2.2.2.2.1 v.2.2.2.2.2.1 v.2.2.2.2.2.2.1 v.2.2.2.2.2.2.2.1 v.2.2.2.2.2.2.2.2.1 v.2.2.2.2.2.2.2.2.2.1) (K1 k)
abbrev Sp82 (c:C82):Prop:=∀ (p0:L70) (p1:L73) (p2:L124) (p3:Int) (p4 p5 p6 p7:LB) (p8:L97) (p9:L148) (y:Bool),c p0 p1 p2 p3 p4 p5 p6 p7 p8 p9=some y→Spec Try.prog gl0 82 [.agg [.list 70 ty70 p0,.list 73 ty73 p1,.list 124 ty124 p2],.agg [.int .i64 p3,.str p4,.str p5,.str p6,.str p7,.list 97 ty97 p8,.list 148 ty148 p9]] [] (.c (.bool y)) []
theorem ek82 {R:Type} {c:C82} (hs:Sp82 c):EOk 82 (e82 (R:=R) c):=qah fun v=>hs v.1 v.2.1 v.2.2.1 v.2.2.2.1 v.2.2.2.2.1 v.2.2.2.2.2.1 v.2.2.2.2.2.2.1 v.2.2.2.2.2.2.2.1 v.2.2.2.2.2.2.2.2.1 v.2.2.2.2.2.2.2.2.2.1
theorem sf82 {c108:C108} {c110:C110} {c109:C109} {c69:C69} {c111:C111} {c112:C112} (h108:Sp108 c108) (h110:Sp110 c110) (h109:Sp109 c109) (h69:Sp69 c69) (h111:Sp111 c111) (h112:Sp112 c112):Sp82 (F82 c108 c110 c109 c69 c111 c112):=fun p0 p1 p2 p3 p4 p5 p6 p7 p8 p9 y hy=>by
 refine qae (qac (ek108 h108) (qac (ek110 h110) (qac (ek109 h109) (qac (ek69 h69) (qac (ek111 h111) (qac (ek112 h112) qad)))))) 1000000 (fn:=Try.f82) (by kernel_rfl) (by kernel_rfl) (X:=X82) (by kernel_rfl) ?_
 rw [eq82]
 exact (nt82 Ops.std c108 c110 c109 c69 c111 c112 p0 p1 p2 p3 p4 p5 p6 p7 p8 p9 _ _ some (K1 k0) (rr82 c108 c110 c109 c69 c111 c112 p0 p1 p2 p3 p4 p5 p6 p7 p8 p9 k0 1000000) none).trans (by show ob (F82 c108 c110 c109 c69 c111 c112 p0 p1 p2 p3 p4 p5 p6 p7 p8 p9) _=_;rw [hy];rfl)
noncomputable def M82:C82:=F82 M108 M110 M109 M69 M111 M112
theorem sm82:Sp82 M82:=sf82 sm108 sm110 sm109 sm69 sm111 sm112
def X113:Aux:=⟨[],[]⟩
def T113 {R:Type} (B:Ops) (p0:LB) (p1 p2 p3:Int) (k:(Bool)→Option R):Option R:=cond (B.le (-999) p1) (cond (B.le p1 p3) (cond (B.le p3 p2) (k (B.le p2 999)) (k false)) (k false)) (k false)
theorem eq113 {R:Type} (B:Ops) (p0:LB) (p1 p2 p3:Int) (k:AV→Objs→Option R) (n:Nat):afun tau B gl0 X113 gnil ow Try.f113 [.agg [.str p0,.int .i64 p1,.int .i64 p2,.int .i64 p3]] [] k n=T113 B p0 p1 p2 p3 (K1 k):=by kernel_rfl
theorem nt113 {R R':Type} (B:Ops) (p0:LB) (p1 p2 p3:Int) (k0:(Bool)→Option R') (k:R'→Option R):T113 B p0 p1 p2 p3 (fun y=>ob (k0 y) k)=ob (T113 B p0 p1 p2 p3 k0) k:=by
 unfold T113
 repeat' first | exact rfl | apply qaa | (apply qaf;intro)
def F113 (p0:LB) (p1 p2 p3:Int):Option (Bool):=T113 Ops.std p0 p1 p2 p3 some
abbrev C113:Type:=LB→Int→Int→Int→Option (Bool)
def e113 {R:Type} (c:C113):Ent R:=eG [.aG [.cS,.cI .i64,.cI .i64,.cI .i64]] [] fun v k=>ob (c v.1 v.2.1 v.2.2.1 v.2.2.2.1) (K1 k)
abbrev Sp113 (c:C113):Prop:=∀ (p0:LB) (p1 p2 p3:Int) (y:Bool),c p0 p1 p2 p3=some y→Spec Try.prog gl0 113 [.agg [.str p0,.int .i64 p1,.int .i64 p2,.int .i64 p3]] [] (.c (.bool y)) []
theorem ek113 {R:Type} {c:C113} (hs:Sp113 c):EOk 113 (e113 (R:=R) c):=qah fun v=>hs v.1 v.2.1 v.2.2.1 v.2.2.2.1
theorem sf113:Sp113 (F113):=fun p0 p1 p2 p3 y hy=>by
 refine qae qad 1000000 (fn:=Try.f113) (by kernel_rfl) (by kernel_rfl) (X:=X113) (by kernel_rfl) ?_
 rw [eq113]
 exact (nt113 Ops.std p0 p1 p2 p3 some (K1 k0)).trans (by show ob (F113 p0 p1 p2 p3) _=_;rw [hy];rfl)
noncomputable def M113:C113:=F113
theorem sm113:Sp113 M113:=sf113
def X83:Aux:=⟨[(3,([0,2,5,6,7,8,9]++rg 13 62)),(10,([0,1,2]++rg 5 21++rg 29 46))],[]⟩
inductive S83 where
 | l0 (v1 v2:Int) (v6:L9)
 | l1 (v1 v2:Int) (v3 v4:L9)
def T83 {R:Type} (B:Ops) (c113:C113) (c114:C114) (p0:L70) (p1:L73) (p2:L124) (again:S83→Option R) (k:(Bool)→Option R):Option S83→Option R | none=>again (.l0 (↑p0.length) 0 (mt (Ty.den Ty.str))) | some (.l0 v1 v2 v6)=>cond (B.lt v2 v1) (cond (B.inb v2 p0.length) (ob (c113 (p0.getD v2.toNat ty70.dflt).1 ((p0.getD v2.toNat ty70.dflt).2).1 (((p0.getD v2.toNat ty70.dflt).2).2).1 (((p0.getD v2.toNat ty70.dflt).2).2).2) fun y0=>cond (!y0) (k false) (cond (B.lim (List.length v6+List.length ((p0.getD v2.toNat ty70.dflt).1::mt (Ty.den Ty.str))) 16) (again (.l0 v1 (IntKind.wrap .i64 (v2+1)) (v6++(p0.getD v2.toNat ty70.dflt).1::mt (Ty.den Ty.str)))) none)) none) (again (.l1 (↑p1.length) 0 v6 ((mt (Ty.den Ty.str))))) | some (.l1 v1 v2 v3 v4)=>cond (B.lt v2 v1) (cond (B.inb v2 p1.length) (cond (B.lt (Nat.cast (List.length (p1.getD v2.toNat ty73.dflt).2)) 1) (k false) (cond (B.lt 6 (Nat.cast (List.length (p1.getD v2.toNat ty73.dflt).2))) (k false) (ob (c114 (p1.getD v2.toNat ty73.dflt).2) fun y0=>cond (!y0) (k false) (cond (B.lim (List.length v4+List.length ((p1.getD v2.toNat ty73.dflt).1::mt (Ty.den Ty.str))) 16) (again (.l1 v1 (IntKind.wrap .i64 (v2+1)) v3 (v4++(p1.getD v2.toNat ty73.dflt).1::mt (Ty.den Ty.str)))) none)))) none) (cond (B.le (↑v3.length) 4) (ob (c114 v3) fun y0=>cond (y0) (cond (B.le 1 (↑v4.length)) (cond (B.le (↑v4.length) 3) (ob (c114 v4) fun y1=>k y1) (k false)) (k false)) (k false)) (k false))
def E83 (p0:L70) (p1:L73) (p2:L124):S83→List AV×Objs
 | .l0 v1 v2 v6=>(mk 75 [(1,.c (.ptr 1 0)),(3,.c (.own 3)),(4,.c (.own 4)),(10,.c (.list 70 ty70 p0)),(11,.c (.int .i64 v1)),(12,.c (.int .i64 v2))],[(1,.box 41 [.list 70 ty70 p0,.list 73 ty73 p1,.list 124 ty124 p2]),(3,.row 9 ty9 v6),(4,.row 9 ty9 (mt (Ty.den Ty.str)))])
 | .l1 v1 v2 v3 v4=>(mk 75 [(3,.c (.own 3)),(4,.c (.own 4)),(26,.c (.list 73 ty73 p1)),(27,.c (.int .i64 v1)),(28,.c (.int .i64 v2))],[(3,.row 9 ty9 v3),(4,.row 9 ty9 v4)])
def I83:S83→Nat
 | .l0 _ _ _=>0
 | .l1 _ _ _ _=>1
noncomputable abbrev A83 {R:Type} (B:Ops) (c113:C113) (c114:C114) (p0:L70) (p1:L73) (p2:L124) (k:AV→Objs→Option R) (s:S83) (n:Nat):Option R:=aloop tau B gl0 X83 (ent 113 (e113 c113) (ent 114 (e114 c114) gnil)) ow [] Try.f83 k (I83 s) (E83 p0 p1 p2 s) n
theorem eq83 {R:Type} (B:Ops) (c113:C113) (c114:C114) (p0:L70) (p1:L73) (p2:L124) (k:AV→Objs→Option R) (n:Nat):afun tau B gl0 X83 (ent 113 (e113 c113) (ent 114 (e114 c114) gnil)) ow Try.f83 [.agg [.list 70 ty70 p0,.list 73 ty73 p1,.list 124 ty124 p2]] [] k n=T83 B c113 c114 p0 p1 p2 (fun s=>A83 B c113 c114 p0 p1 p2 k s n) (K1 k) none:=by kernel_rfl
theorem el83 {R:Type} (B:Ops) (c113:C113) (c114:C114) (p0:L70) (p1:L73) (p2:L124) (k:AV→Objs→Option R) (n:Nat):∀ s,A83 B c113 c114 p0 p1 p2 k s (n+1)=T83 B c113 c114 p0 p1 p2 (fun s=>A83 B c113 c114 p0 p1 p2 k s n) (K1 k) (some s):=by
 intro s
 cases s<;>kernel_rfl
theorem nt83 {R R':Type} (B:Ops) (c113:C113) (c114:C114) (p0:L70) (p1:L73) (p2:L124) (again:S83→Option R) (again':S83→Option R') (k0:(Bool)→Option R') (k:R'→Option R) (h:∀ s,again s=ob (again' s) k):∀ s,T83 B c113 c114 p0 p1 p2 again (fun y=>ob (k0 y) k) s=ob (T83 B c113 c114 p0 p1 p2 again' k0 s) k:=by
 rintro (_ | x)
 all_goals try cases x
 all_goals (unfold T83;repeat' first | exact rfl | exact h _ | apply qaa | (apply qaf;intro))
def R83 (c113:C113) (c114:C114) (p0:L70) (p1:L73) (p2:L124):Nat→S83→Option (Bool)
 | 0,_=>none
 | n+1,s=>T83 Ops.std c113 c114 p0 p1 p2 (R83 c113 c114 p0 p1 p2 n) some (some s)
theorem rr83 {R:Type} (c113:C113) (c114:C114) (p0:L70) (p1:L73) (p2:L124) (k:AV→Objs→Option R):∀ (n:Nat) (s:S83),A83 Ops.std c113 c114 p0 p1 p2 k s n=ob (R83 c113 c114 p0 p1 p2 n s) (K1 k)
 | 0,s=>by cases s<;>rfl
 | n+1,s=>by rw [el83];exact nt83 Ops.std c113 c114 p0 p1 p2 _ _ some (K1 k) (rr83 c113 c114 p0 p1 p2 k n) (some s)
def F83 (c113:C113) (c114:C114) (p0:L70) (p1:L73) (p2:L124):Option (Bool):=T83 Ops.std c113 c114 p0 p1 p2 (R83 c113 c114 p0 p1 p2 1000000) some none
abbrev C83:Type:=L70→L73→L124→Option (Bool)
def e83 {R:Type} (c:C83):Ent R:=eG [.aG [.cL 70 ty70,.cL 73 ty73,.cL 124 ty124]] [] fun v k=>ob (c v.1 v.2.1 v.2.2.1) (K1 k)
abbrev Sp83 (c:C83):Prop:=∀ (p0:L70) (p1:L73) (p2:L124) (y:Bool),c p0 p1 p2=some y→Spec Try.prog gl0 83 [.agg [.list 70 ty70 p0,.list 73 ty73 p1,.list 124 ty124 p2]] [] (.c (.bool y)) []
theorem ek83 {R:Type} {c:C83} (hs:Sp83 c):EOk 83 (e83 (R:=R) c):=qah fun v=>hs v.1 v.2.1 v.2.2.1
theorem sf83 {c113:C113} {c114:C114} (h113:Sp113 c113) (h114:Sp114 c114):Sp83 (F83 c113 c114):=fun p0 p1 p2 y hy=>by
 refine qae (qac (ek113 h113) (qac (ek114 h114) qad)) 1000000 (fn:=Try.f83) (by kernel_rfl) (by kernel_rfl) (X:=X83) (by kernel_rfl) ?_
 rw [eq83]
 exact (nt83 Ops.std c113 c114 p0 p1 p2 _ _ some (K1 k0) (rr83 c113 c114 p0 p1 p2 k0 1000000) none).trans (by show ob (F83 c113 c114 p0 p1 p2) _=_;rw [hy];rfl)
noncomputable def M83:C83:=F83 M113 M114
theorem sm83:Sp83 M83:=sf83 sm113 sm114
def X43:Aux:=⟨[(2,([0,2,3,4,5]++rg 9 33))],[(4,.lin (rg 0 20))]⟩
inductive S43 where
 | l0 (v1 v2:Int)
def T43 {R:Type} (B:Ops) (c82:C82) (c83:C83) (p0:L70) (p1:L73) (p2:L124) (again:S43→Option R) (k:(Bool)→Option R):Option S43→Option R | none=>again (.l0 (↑p2.length) 0) | some (.l0 v1 v2)=>cond (B.lt v2 v1) (cond (B.inb v2 p2.length) (ob (c82 p0 p1 p2 (p2.getD v2.toNat ty124.dflt).1 ((p2.getD v2.toNat ty124.dflt).2).1 (((p2.getD v2.toNat ty124.dflt).2).2).1 ((((p2.getD v2.toNat ty124.dflt).2).2).2).1 ((((((p2.getD v2.toNat ty124.dflt).2).2).2).2).1) (Prod.fst ((((((p2.getD v2.toNat ty124.dflt).2).2).2).2).2)) (Prod.snd ((((((p2.getD v2.toNat ty124.dflt).2).2).2).2).2))) fun y0=>cond (!y0) (k false) (cond (B.lt 0 v2) (cond (B.inb (IntKind.wrap .i64 (v2-1)) p2.length) (cond (B.le (p2.getD v2.toNat ty124.dflt).1 (p2.getD (Int.toNat (IntKind.wrap .i64 (v2-1))) ty124.dflt).1) (k false) (again (.l0 v1 (IntKind.wrap .i64 (v2+1))))) none) (again (.l0 v1 (IntKind.wrap .i64 (v2+1)))))) none) (ob (c83 p0 p1 p2) fun y0=>cond (y0) (k (B.le (↑p2.length) 16)) (k false))
def E43 (p0:L70) (p1:L73) (p2:L124):S43→List AV×Objs
 | .l0 v1 v2=>(mk 42 [(1,.c (.ptr 1 0)),(6,.c (.list 124 ty124 p2)),(7,.c (.int .i64 v1)),(8,.c (.int .i64 v2))],[(1,.box 41 [.list 70 ty70 p0,.list 73 ty73 p1,.list 124 ty124 p2])])
def I43:S43→Nat
 | .l0 _ _=>0
noncomputable abbrev A43 {R:Type} (B:Ops) (c82:C82) (c83:C83) (p0:L70) (p1:L73) (p2:L124) (k:AV→Objs→Option R) (s:S43) (n:Nat):Option R:=aloop tau B gl0 X43 (ent 82 (e82 c82) (ent 83 (e83 c83) gnil)) ow [] Try.f43 k (I43 s) (E43 p0 p1 p2 s) n
theorem eq43 {R:Type} (B:Ops) (c82:C82) (c83:C83) (p0:L70) (p1:L73) (p2:L124) (k:AV→Objs→Option R) (n:Nat):afun tau B gl0 X43 (ent 82 (e82 c82) (ent 83 (e83 c83) gnil)) ow Try.f43 [.agg [.list 70 ty70 p0,.list 73 ty73 p1,.list 124 ty124 p2]] [] k n=T43 B c82 c83 p0 p1 p2 (fun s=>A43 B c82 c83 p0 p1 p2 k s n) (K1 k) none:=by kernel_rfl
theorem el43 {R:Type} (B:Ops) (c82:C82) (c83:C83) (p0:L70) (p1:L73) (p2:L124) (k:AV→Objs→Option R) (n:Nat):∀ s,A43 B c82 c83 p0 p1 p2 k s (n+1)=T43 B c82 c83 p0 p1 p2 (fun s=>A43 B c82 c83 p0 p1 p2 k s n) (K1 k) (some s):=by
 intro s
 cases s<;>kernel_rfl
theorem nt43 {R R':Type} (B:Ops) (c82:C82) (c83:C83) (p0:L70) (p1:L73) (p2:L124) (again:S43→Option R) (again':S43→Option R') (k0:(Bool)→Option R') (k:R'→Option R) (h:∀ s,again s=ob (again' s) k):∀ s,T43 B c82 c83 p0 p1 p2 again (fun y=>ob (k0 y) k) s=ob (T43 B c82 c83 p0 p1 p2 again' k0 s) k:=by
 rintro (_ | x)
 all_goals try cases x
 all_goals (unfold T43;repeat' first | exact rfl | exact h _ | apply qaa | (apply qaf;intro))
def R43 (c82:C82) (c83:C83) (p0:L70) (p1:L73) (p2:L124):Nat→S43→Option (Bool)
 | 0,_=>none
 | n+1,s=>T43 Ops.std c82 c83 p0 p1 p2 (R43 c82 c83 p0 p1 p2 n) some (some s)
theorem rr43 {R:Type} (c82:C82) (c83:C83) (p0:L70) (p1:L73) (p2:L124) (k:AV→Objs→Option R):∀ (n:Nat) (s:S43),A43 Ops.std c82 c83 p0 p1 p2 k s n=ob (R43 c82 c83 p0 p1 p2 n s) (K1 k)
 | 0,s=>by cases s<;>rfl
 | n+1,s=>by rw [el43];exact nt43 Ops.std c82 c83 p0 p1 p2 _ _ some (K1 k) (rr43 c82 c83 p0 p1 p2 k n) (some s)
def F43 (c82:C82) (c83:C83) (p0:L70) (p1:L73) (p2:L124):Option (Bool):=T43 Ops.std c82 c83 p0 p1 p2 (R43 c82 c83 p0 p1 p2 1000000) some none
abbrev C43:Type:=L70→L73→L124→Option (Bool)
def e43 {R:Type} (c:C43):Ent R:=eG [.aG [.cL 70 ty70,.cL 73 ty73,.cL 124 ty124]] [] fun v k=>ob (c v.1 v.2.1 v.2.2.1) (K1 k)
abbrev Sp43 (c:C43):Prop:=∀ (p0:L70) (p1:L73) (p2:L124) (y:Bool),c p0 p1 p2=some y→Spec Try.prog gl0 43 [.agg [.list 70 ty70 p0,.list 73 ty73 p1,.list 124 ty124 p2]] [] (.c (.bool y)) []
theorem ek43 {R:Type} {c:C43} (hs:Sp43 c):EOk 43 (e43 (R:=R) c):=qah fun v=>hs v.1 v.2.1 v.2.2.1
theorem sf43 {c82:C82} {c83:C83} (h82:Sp82 c82) (h83:Sp83 c83):Sp43 (F43 c82 c83):=fun p0 p1 p2 y hy=>by
 refine qae (qac (ek82 h82) (qac (ek83 h83) qad)) 1000000 (fn:=Try.f43) (by kernel_rfl) (by kernel_rfl) (X:=X43) (by kernel_rfl) ?_
 rw [eq43]
 exact (nt43 Ops.std c82 c83 p0 p1 p2 _ _ some (K1 k0) (rr43 c82 c83 p0 p1 p2 k0 1000000) none).trans (by show ob (F43 c82 c83 p0 p1 p2) _=_;rw [hy];rfl)
noncomputable def M43:C43:=F43 M82 M83
theorem sm43:Sp43 M43:=sf43 sm82 sm83
end Go.Proofs.Ytccnmhdgghjgoaa.Av
