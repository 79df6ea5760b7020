/- Twins of functions,printed by gen.py. Conditions: none. -/
import Derived.Test.YtccnmhdgghjgoaaGreatDoorWt5
import Derived.KernelRfl
set_option linter.unusedSimpArgs false
set_option linter.unusedVariables false
set_option maxRecDepth 100000
set_option maxHeartbeats 8000000
namespace Go.Proofs.YtccnmhdgghjgoaaGreatDoor.Av
open Go
def X133:Aux:=⟨[],[(1,.lin [0,1,2,3,4,5,6,7,8])]⟩
def T133 {R:Type} (B:Ops) (c134:C134) (p0:Int) (p1:L47) (p2:L94) (p3:L98) (p4:L103) (p5:L68) (p6:Int) (k:(Bool×L47×L94×L98×L103×L68×Int)→Option R):Option R:=cond (B.inb 0 p1.length) (ob (c134 p2 p3 p4 p5 p6 p0) fun y0=>cond (B.inb y0 (List.length (p1.getD (Int.toNat 0) ty47.dflt))) (k ((List.getD (p1.getD (Int.toNat 0) ty47.dflt) y0.toNat (Ty.dflt Ty.bool),p1,p2,p3,p4,p5,p6))) none) none
abbrev K44 {R:Type} (k:AV→Objs→Option R) (y:(Bool×L47×L94×L98×L103×L68×Int)):Option R:=k (.c (.bool y.1)) [(1,.box 43 [.list 47 ty47 y.2.1]),(2,.box 117 [.list 94 ty94 y.2.2.1,.list 98 ty98 y.2.2.2.1,.list 103 ty103 y.2.2.2.2.1,.list 68 ty68 y.2.2.2.2.2.1,.int .i64 y.2.2.2.2.2.2])]
theorem eq133 {R:Type} (B:Ops) (c134:C134) (p0:Int) (p1:L47) (p2:L94) (p3:L98) (p4:L103) (p5:L68) (p6:Int) (k:AV→Objs→Option R) (n:Nat):afun tau B gl0 X133 (ent 134 (e134 c134) gnil) ow Tryz.f133 [.c (.int .i64 p0),.c (.ptr 1 0),.c (.ptr 2 0)] [(1,.box 43 [.list 47 ty47 p1]),(2,.box 117 [.list 94 ty94 p2,.list 98 ty98 p3,.list 103 ty103 p4,.list 68 ty68 p5,.int .i64 p6])] k n=T133 B c134 p0 p1 p2 p3 p4 p5 p6 (K44 k):=by kernel_rfl
theorem nt133 {R R':Type} (B:Ops) (c134:C134) (p0:Int) (p1:L47) (p2:L94) (p3:L98) (p4:L103) (p5:L68) (p6:Int) (k0:(Bool×L47×L94×L98×L103×L68×Int)→Option R') (k:R'→Option R):T133 B c134 p0 p1 p2 p3 p4 p5 p6 (fun y=>ob (k0 y) k)=ob (T133 B c134 p0 p1 p2 p3 p4 p5 p6 k0) k:=by
 unfold T133
 repeat' first | exact rfl | apply qad | (apply qaj;intro)
def F133 (c134:C134) (p0:Int) (p1:L47) (p2:L94) (p3:L98) (p4:L103) (p5:L68) (p6:Int):Option (Bool×L47×L94×L98×L103×L68×Int):=T133 Ops.std c134 p0 p1 p2 p3 p4 p5 p6 some
abbrev C133:Type:=Int→L47→L94→L98→L103→L68→Int→Option (Bool×L47×L94×L98×L103×L68×Int)
def e133 {R:Type} (c:C133):Ent R:=eG [.aC (.cI .i64),.aC (.cP 1),.aC (.cP 2)] [.oB 1 43 [.cL 47 ty47],.oB 2 117 [.cL 94 ty94,.cL 98 ty98,.cL 103 ty103,.cL 68 ty68,.cI .i64]] fun v k=>ob (c v.1 v.2.1 v.2.2.1 v.2.2.2.1 v.2.2.2.2.1 v.2.2.2.2.2.1 v.2.2.2.2.2.2.1) (K44 k)
abbrev Sp133 (c:C133):Prop:=∀ (p0:Int) (p1:L47) (p2:L94) (p3:L98) (p4:L103) (p5:L68) (p6:Int) (y:Bool×L47×L94×L98×L103×L68×Int),c p0 p1 p2 p3 p4 p5 p6=some y→Spec Tryz.prog gl0 133 [.c (.int .i64 p0),.c (.ptr 1 0),.c (.ptr 2 0)] [(1,.box 43 [.list 47 ty47 p1]),(2,.box 117 [.list 94 ty94 p2,.list 98 ty98 p3,.list 103 ty103 p4,.list 68 ty68 p5,.int .i64 p6])] (.c (.bool y.1)) [(1,.box 43 [.list 47 ty47 y.2.1]),(2,.box 117 [.list 94 ty94 y.2.2.1,.list 98 ty98 y.2.2.2.1,.list 103 ty103 y.2.2.2.2.1,.list 68 ty68 y.2.2.2.2.2.1,.int .i64 y.2.2.2.2.2.2])]
theorem ek133 {R:Type} {c:C133} (hs:Sp133 c):EOk 133 (e133 (R:=R) c):=qal fun v=>hs v.1 v.2.1 v.2.2.1 v.2.2.2.1 v.2.2.2.2.1 v.2.2.2.2.2.1 v.2.2.2.2.2.2.1
theorem sf133 {c134:C134} (h134:Sp134 c134):Sp133 (F133 c134):=fun p0 p1 p2 p3 p4 p5 p6 y hy=>by
 refine qai (qac (ek134 h134) qah) 1000000 (fn:=Tryz.f133) (by kernel_rfl) (by kernel_rfl) (X:=X133) (by kernel_rfl) ?_
 rw [eq133]
 exact (nt133 Ops.std c134 p0 p1 p2 p3 p4 p5 p6 some (K44 k0)).trans (by show ob (F133 c134 p0 p1 p2 p3 p4 p5 p6) _=_;rw [hy];rfl)
noncomputable def M133:C133:=F133 M134
theorem sm133:Sp133 M133:=sf133 sm134
def X224:Aux:=⟨[(3,([0,2,3,4,6,7,8,9,10,11]++rg 14 10))],[]⟩
inductive S224 where
 | l0 (v0 v1:Int) (v2:L4) (v3:L47) (v4:L94) (v5:L98) (v6:L103) (v7:L68) (v8:Int)
def T224 {R:Type} (B:Ops) (c133:C133) (p0:L94) (p1:L98) (p2:L103) (p3:L68) (p4:Int) (p5:L47) (p6:L94) (p7:L98) (p8:L103) (p9:L68) (p10:Int) (again:S224→Option R) (k:(L4×L47×L94×L98×L103×L68×Int)→Option R):Option S224→Option R | none=>cond (bif B.eq (↑p3.length) (↑p3.length) then bif B.le 0 (↑p3.length) then B.lim (Int.toNat (↑p3.length)) 1 else false else false) (again (.l0 (Nat.cast (List.length (List.replicate (Int.toNat (↑p3.length)) (Ty.dflt Ty.bool)))) 0 (List.replicate (Int.toNat (↑p3.length)) (Ty.dflt Ty.bool)) p5 p6 p7 p8 p9 p10)) none | some (.l0 v0 v1 v2 v3 v4 v5 v6 v7 v8)=>cond (B.lt v1 v0) (ob (c133 v1 v3 v4 v5 v6 v7 v8) fun y0=>cond (B.inb v1 v2.length) (again (.l0 v0 (IntKind.wrap .i64 (v1+1)) (List.set v2 v1.toNat y0.1) y0.2.1 y0.2.2.1 y0.2.2.2.1 y0.2.2.2.2.1 y0.2.2.2.2.2.1 y0.2.2.2.2.2.2)) none) (k (v2,v3,v4,v5,v6,v7,v8))
def E224 (p0:L94) (p1:L98) (p2:L103) (p3:L68) (p4:Int) (p5:L47) (p6:L94) (p7:L98) (p8:L103) (p9:L68) (p10:Int):S224→List AV×Objs
 | .l0 v0 v1 v2 v3 v4 v5 v6 v7 v8=>(mk 24 [(1,.fn 133 [.ptr 2500 0,.ptr 2501 0]),(5,.c (.own 5)),(12,.c (.int .i64 v0)),(13,.c (.int .i64 v1))],[(5,.row 4 ty4 v2),(2500,.box 43 [.list 47 ty47 v3]),(2501,.box 117 [.list 94 ty94 v4,.list 98 ty98 v5,.list 103 ty103 v6,.list 68 ty68 v7,.int .i64 v8])])
def I224:S224→Nat
 | .l0 _ _ _ _ _ _ _ _ _=>0
abbrev K45 {R:Type} (k:AV→Objs→Option R) (y:(L4×L47×L94×L98×L103×L68×Int)):Option R:=k (.c (.own 500)) [(500,.row 4 ty4 y.1),(2500,.box 43 [.list 47 ty47 y.2.1]),(2501,.box 117 [.list 94 ty94 y.2.2.1,.list 98 ty98 y.2.2.2.1,.list 103 ty103 y.2.2.2.2.1,.list 68 ty68 y.2.2.2.2.2.1,.int .i64 y.2.2.2.2.2.2])]
noncomputable abbrev A224 {R:Type} (B:Ops) (c133:C133) (p0:L94) (p1:L98) (p2:L103) (p3:L68) (p4:Int) (p5:L47) (p6:L94) (p7:L98) (p8:L103) (p9:L68) (p10:Int) (k:AV→Objs→Option R) (s:S224) (n:Nat):Option R:=aloop tau B gl0 X224 (ent 133 (e133 c133) gnil) ow [2500,2501] Tryz.f125 k (I224 s) (E224 p0 p1 p2 p3 p4 p5 p6 p7 p8 p9 p10 s) n
theorem eq224 {R:Type} (B:Ops) (c133:C133) (p0:L94) (p1:L98) (p2:L103) (p3:L68) (p4:Int) (p5:L47) (p6:L94) (p7:L98) (p8:L103) (p9:L68) (p10:Int) (k:AV→Objs→Option R) (n:Nat):afun tau B gl0 X224 (ent 133 (e133 c133) gnil) ow Tryz.f125 [.agg [.list 94 ty94 p0,.list 98 ty98 p1,.list 103 ty103 p2,.list 68 ty68 p3,.int .i64 p4],.fn 133 [.ptr 2500 0,.ptr 2501 0]] [(2500,.box 43 [.list 47 ty47 p5]),(2501,.box 117 [.list 94 ty94 p6,.list 98 ty98 p7,.list 103 ty103 p8,.list 68 ty68 p9,.int .i64 p10])] k n=T224 B c133 p0 p1 p2 p3 p4 p5 p6 p7 p8 p9 p10 (fun s=>A224 B c133 p0 p1 p2 p3 p4 p5 p6 p7 p8 p9 p10 k s n) (K45 k) none:=by kernel_rfl
theorem el224 {R:Type} (B:Ops) (c133:C133) (p0:L94) (p1:L98) (p2:L103) (p3:L68) (p4:Int) (p5:L47) (p6:L94) (p7:L98) (p8:L103) (p9:L68) (p10:Int) (k:AV→Objs→Option R) (n:Nat):∀ s,A224 B c133 p0 p1 p2 p3 p4 p5 p6 p7 p8 p9 p10 k s (n+1)=T224 B c133 p0 p1 p2 p3 p4 p5 p6 p7 p8 p9 p10 (fun s=>A224 B c133 p0 p1 p2 p3 p4 p5 p6 p7 p8 p9 p10 k s n) (K45 k) (some s):=by
 intro s
 cases s<;>kernel_rfl
theorem nt224 {R R':Type} (B:Ops) (c133:C133) (p0:L94) (p1:L98) (p2:L103) (p3:L68) (p4:Int) (p5:L47) (p6:L94) (p7:L98) (p8:L103) (p9:L68) (p10:Int) (again:S224→Option R) (again':S224→Option R') (k0:(L4×L47×L94×L98×L103×L68×Int)→Option R') (k:R'→Option R) (h:∀ s,again s=ob (again' s) k):∀ s,T224 B c133 p0 p1 p2 p3 p4 p5 p6 p7 p8 p9 p10 again (fun y=>ob (k0 y) k) s=ob (T224 B c133 p0 p1 p2 p3 p4 p5 p6 p7 p8 p9 p10 again' k0 s) k:=by
 rintro (_ | x)
 all_goals try cases x
 all_goals (unfold T224;repeat' first | exact rfl | exact h _ | apply qad | (apply qaj;intro))
def R224 (c133:C133) (p0:L94) (p1:L98) (p2:L103) (p3:L68) (p4:Int) (p5:L47) (p6:L94) (p7:L98) (p8:L103) (p9:L68) (p10:Int):Nat→S224→Option (L4×L47×L94×L98×L103×L68×Int)
 | 0,_=>none
 | n+1,s=>T224 Ops.std c133 p0 p1 p2 p3 p4 p5 p6 p7 p8 p9 p10 (R224 c133 p0 p1 p2 p3 p4 p5 p6 p7 p8 p9 p10 n) some (some s)
theorem rr224 {R:Type} (c133:C133) (p0:L94) (p1:L98) (p2:L103) (p3:L68) (p4:Int) (p5:L47) (p6:L94) (p7:L98) (p8:L103) (p9:L68) (p10:Int) (k:AV→Objs→Option R):∀ (n:Nat) (s:S224),A224 Ops.std c133 p0 p1 p2 p3 p4 p5 p6 p7 p8 p9 p10 k s n=ob (R224 c133 p0 p1 p2 p3 p4 p5 p6 p7 p8 p9 p10 n s) (K45 k)
 | 0,s=>by cases s<;>rfl
 | n+1,s=>by rw [el224];exact nt224 Ops.std c133 p0 p1 p2 p3 p4 p5 p6 p7 p8 p9 p10 _ _ some (K45 k) (rr224 c133 p0 p1 p2 p3 p4 p5 p6 p7 p8 p9 p10 k n) (some s)
def F224 (c133:C133) (p0:L94) (p1:L98) (p2:L103) (p3:L68) (p4:Int) (p5:L47) (p6:L94) (p7:L98) (p8:L103) (p9:L68) (p10:Int):Option (L4×L47×L94×L98×L103×L68×Int):=T224 Ops.std c133 p0 p1 p2 p3 p4 p5 p6 p7 p8 p9 p10 (R224 c133 p0 p1 p2 p3 p4 p5 p6 p7 p8 p9 p10 1000000) some none
abbrev C224:Type:=L94→L98→L103→L68→Int→L47→L94→L98→L103→L68→Int→Option (L4×L47×L94×L98×L103×L68×Int)
def e224 {R:Type} (c:C224):Ent R:=eG [.aG [.cL 94 ty94,.cL 98 ty98,.cL 103 ty103,.cL 68 ty68,.cI .i64],.aF 133 [.cP 2500,.cP 2501]] [.oB 2500 43 [.cL 47 ty47],.oB 2501 117 [.cL 94 ty94,.cL 98 ty98,.cL 103 ty103,.cL 68 ty68,.cI .i64]] fun v k=>ob (c v.1 v.2.1 v.2.2.1 v.2.2.2.1 v.2.2.2.2.1 v.2.2.2.2.2.1 v.2.2.2.2.2.2.1 v.2.2.2.2.2.2.2.1 v.2.2.2.2.2.2.2.2.1 v.2.2.2.2.2.2.2.2.2.1 v.2.2.2.2.2.2.2.2.2.2.1) (K45 k)
abbrev Sp224 (c:C224):Prop:=∀ (p0:L94) (p1:L98) (p2:L103) (p3:L68) (p4:Int) (p5:L47) (p6:L94) (p7:L98) (p8:L103) (p9:L68) (p10:Int) (y:L4×L47×L94×L98×L103×L68×Int),c p0 p1 p2 p3 p4 p5 p6 p7 p8 p9 p10=some y→Spec Tryz.prog gl0 125 [.agg [.list 94 ty94 p0,.list 98 ty98 p1,.list 103 ty103 p2,.list 68 ty68 p3,.int .i64 p4],.fn 133 [.ptr 2500 0,.ptr 2501 0]] [(2500,.box 43 [.list 47 ty47 p5]),(2501,.box 117 [.list 94 ty94 p6,.list 98 ty98 p7,.list 103 ty103 p8,.list 68 ty68 p9,.int .i64 p10])] (.c (.own 500)) [(500,.row 4 ty4 y.1),(2500,.box 43 [.list 47 ty47 y.2.1]),(2501,.box 117 [.list 94 ty94 y.2.2.1,.list 98 ty98 y.2.2.2.1,.list 103 ty103 y.2.2.2.2.1,.list 68 ty68 y.2.2.2.2.2.1,.int .i64 y.2.2.2.2.2.2])]
theorem ek224 {R:Type} {c:C224} (hs:Sp224 c):EOk 125 (e224 (R:=R) c):=qal fun v=>hs v.1 v.2.1 v.2.2.1 v.2.2.2.1 v.2.2.2.2.1 v.2.2.2.2.2.1 v.2.2.2.2.2.2.1 v.2.2.2.2.2.2.2.1 v.2.2.2.2.2.2.2.2.1 v.2.2.2.2.2.2.2.2.2.1 v.2.2.2.2.2.2.2.2.2.2.1
theorem sf224 {c133:C133} (h133:Sp133 c133):Sp224 (F224 c133):=fun p0 p1 p2 p3 p4 p5 p6 p7 p8 p9 p10 y hy=>by
 refine qai (qac (ek133 h133) qah) 1000000 (fn:=Tryz.f125) (by kernel_rfl) (by kernel_rfl) (X:=X224) (by kernel_rfl) ?_
 rw [eq224]
 exact (nt224 Ops.std c133 p0 p1 p2 p3 p4 p5 p6 p7 p8 p9 p10 _ _ some (K45 k0) (rr224 c133 p0 p1 p2 p3 p4 p5 p6 p7 p8 p9 p10 k0 1000000) none).trans (by show ob (F224 c133 p0 p1 p2 p3 p4 p5 p6 p7 p8 p9 p10) _=_;rw [hy];rfl)
noncomputable def M224:C224:=F224 M133
theorem sm224:Sp224 M224:=sf224 sm133
def X128:Aux:=⟨[(3,([0,3,4,6,7,8,9,10,11,12]++rg 16 16))],[]⟩
inductive S128 where
 | l0 (v2 v3:Int) (v9:L4)
def T128 {R:Type} (B:Ops) (c68:C68) (p0:L94) (p1:L98) (p2:L103) (p3:L68) (p4:Int) (p5:L150) (again:S128→Option R) (k:(L4)→Option R):Option S128→Option R | none=>cond (bif B.eq (↑p3.length) (↑p3.length) then bif B.le 0 (↑p3.length) then B.lim (Int.toNat (↑p3.length)) 1 else false else false) (again (.l0 (↑p3.length) 0 (List.replicate (Int.toNat (↑p3.length)) (Ty.dflt Ty.bool)))) none | some (.l0 v2 v3 v9)=>cond (B.lt v3 v2) (cond (B.inb v3 p3.length) (ob (c68 p0 p1 p2 ((p3.getD v3.toNat ty68.dflt).1).1 ((p3.getD v3.toNat ty68.dflt).1).2 p5) fun y0=>cond (B.inb v3 v9.length) (again (.l0 v2 (IntKind.wrap .i64 (v3+1)) (List.set v9 v3.toNat !B.eq y0 0))) none) none) (k v9)
def E128 (p0:L94) (p1:L98) (p2:L103) (p3:L68) (p4:Int) (p5:L150):S128→List AV×Objs
 | .l0 v2 v3 v9=>(mk 32 [(1,.c (.list 150 ty150 p5)),(2,.c (.ptr 2 0)),(5,.c (.own 5)),(13,.c (.list 68 ty68 p3)),(14,.c (.int .i64 v2)),(15,.c (.int .i64 v3))],[(2,.box 117 [.list 94 ty94 p0,.list 98 ty98 p1,.list 103 ty103 p2,.list 68 ty68 p3,.int .i64 p4]),(5,.row 4 ty4 v9)])
def I128:S128→Nat
 | .l0 _ _ _=>0
noncomputable abbrev A128 {R:Type} (B:Ops) (c68:C68) (p0:L94) (p1:L98) (p2:L103) (p3:L68) (p4:Int) (p5:L150) (k:AV→Objs→Option R) (s:S128) (n:Nat):Option R:=aloop tau B gl0 X128 (ent 68 (e68 c68) gnil) ow [] Tryz.f128 k (I128 s) (E128 p0 p1 p2 p3 p4 p5 s) n
theorem eq128 {R:Type} (B:Ops) (c68:C68) (p0:L94) (p1:L98) (p2:L103) (p3:L68) (p4:Int) (p5:L150) (k:AV→Objs→Option R) (n:Nat):afun tau B gl0 X128 (ent 68 (e68 c68) gnil) ow Tryz.f128 [.agg [.list 94 ty94 p0,.list 98 ty98 p1,.list 103 ty103 p2,.list 68 ty68 p3,.int .i64 p4],.c (.list 150 ty150 p5)] [] k n=T128 B c68 p0 p1 p2 p3 p4 p5 (fun s=>A128 B c68 p0 p1 p2 p3 p4 p5 k s n) (K32 k) none:=by kernel_rfl
theorem el128 {R:Type} (B:Ops) (c68:C68) (p0:L94) (p1:L98) (p2:L103) (p3:L68) (p4:Int) (p5:L150) (k:AV→Objs→Option R) (n:Nat):∀ s,A128 B c68 p0 p1 p2 p3 p4 p5 k s (n+1)=T128 B c68 p0 p1 p2 p3 p4 p5 (fun s=>A128 B c68 p0 p1 p2 p3 p4 p5 k s n) (K32 k) (some s):=by
 intro s
 cases s<;>kernel_rfl
theorem nt128 {R R':Type} (B:Ops) (c68:C68) (p0:L94) (p1:L98) (p2:L103) (p3:L68) (p4:Int) (p5:L150) (again:S128→Option R) (again':S128→Option R') (k0:(L4)→Option R') (k:R'→Option R) (h:∀ s,again s=ob (again' s) k):∀ s,T128 B c68 p0 p1 p2 p3 p4 p5 again (fun y=>ob (k0 y) k) s=ob (T128 B c68 p0 p1 p2 p3 p4 p5 again' k0 s) k:=by
 rintro (_ | x)
 all_goals try cases x
 all_goals (unfold T128;repeat' first | exact rfl | exact h _ | apply qad | (apply qaj;intro))
def R128 (c68:C68) (p0:L94) (p1:L98) (p2:L103) (p3:L68) (p4:Int) (p5:L150):Nat→S128→Option (L4)
 | 0,_=>none
 | n+1,s=>T128 Ops.std c68 p0 p1 p2 p3 p4 p5 (R128 c68 p0 p1 p2 p3 p4 p5 n) some (some s)
theorem rr128 {R:Type} (c68:C68) (p0:L94) (p1:L98) (p2:L103) (p3:L68) (p4:Int) (p5:L150) (k:AV→Objs→Option R):∀ (n:Nat) (s:S128),A128 Ops.std c68 p0 p1 p2 p3 p4 p5 k s n=ob (R128 c68 p0 p1 p2 p3 p4 p5 n s) (K32 k)
 | 0,s=>by cases s<;>rfl
 | n+1,s=>by rw [el128];exact nt128 Ops.std c68 p0 p1 p2 p3 p4 p5 _ _ some (K32 k) (rr128 c68 p0 p1 p2 p3 p4 p5 k n) (some s)
def F128 (c68:C68) (p0:L94) (p1:L98) (p2:L103) (p3:L68) (p4:Int) (p5:L150):Option (L4):=T128 Ops.std c68 p0 p1 p2 p3 p4 p5 (R128 c68 p0 p1 p2 p3 p4 p5 1000000) some none
abbrev C128:Type:=L94→L98→L103→L68→Int→L150→Option (L4)
def e128 {R:Type} (c:C128):Ent R:=eG [.aG [.cL 94 ty94,.cL 98 ty98,.cL 103 ty103,.cL 68 ty68,.cI .i64],.aC (.cL 150 ty150)] [] fun v k=>ob (c v.1 v.2.1 v.2.2.1 v.2.2.2.1 v.2.2.2.2.1 v.2.2.2.2.2.1) (K32 k)
abbrev Sp128 (c:C128):Prop:=∀ (p0:L94) (p1:L98) (p2:L103) (p3:L68) (p4:Int) (p5:L150) (y:L4),c p0 p1 p2 p3 p4 p5=some y→Spec Tryz.prog gl0 128 [.agg [.list 94 ty94 p0,.list 98 ty98 p1,.list 103 ty103 p2,.list 68 ty68 p3,.int .i64 p4],.c (.list 150 ty150 p5)] [] (.c (.own 500)) [(500,.row 4 ty4 y)]
theorem ek128 {R:Type} {c:C128} (hs:Sp128 c):EOk 128 (e128 (R:=R) c):=qal fun v=>hs v.1 v.2.1 v.2.2.1 v.2.2.2.1 v.2.2.2.2.1 v.2.2.2.2.2.1
theorem sf128 {c68:C68} (h68:Sp68 c68):Sp128 (F128 c68):=fun p0 p1 p2 p3 p4 p5 y hy=>by
 refine qai (qac (ek68 h68) qah) 1000000 (fn:=Tryz.f128) (by kernel_rfl) (by kernel_rfl) (X:=X128) (by kernel_rfl) ?_
 rw [eq128]
 exact (nt128 Ops.std c68 p0 p1 p2 p3 p4 p5 _ _ some (K32 k0) (rr128 c68 p0 p1 p2 p3 p4 p5 k0 1000000) none).trans (by show ob (F128 c68 p0 p1 p2 p3 p4 p5) _=_;rw [hy];rfl)
noncomputable def M128:C128:=F128 M68
theorem sm128:Sp128 M128:=sf128 sm68
def X135:Aux:=⟨[(3,([0,5,6,7,8,10,11,12,13,14,15,16,17,18]++rg 21 66)),(8,([0,5,6,7,8,10]++rg 12 75)),(11,([0,5,6,7,8,10]++rg 13 74)),(1000014,([0,5,6,7,8,10]++rg 14 73)),(1000016,([0,5,6,7,8,10]++rg 14 73))],[]⟩
inductive S135 where
 | l0 (v3 v4:Int) (v10:L4)
 | l1 (v3:Bool) (v9:L4)
 | l2 (v3:Bool) (v4:Int) (v10:L4)
 | l1014 (v3:Bool) (v4:Int) (v5:Bool) (v11:L4)
 | l1016 (v3:Bool) (v4:Int) (v5:Bool) (v11:L4)
def T135 {R:Type} (B:Ops) (c134:C134) (p0:L94) (p1:L98) (p2:L103) (p3:L68) (p4:Int) (p5 p6:L4) (p7:Bool) (again:S135→Option R) (k:(L4)→Option R):Option S135→Option R | none=>cond (bif B.eq (↑p3.length) (↑p3.length) then bif B.le 0 (↑p3.length) then B.lim (Int.toNat (↑p3.length)) 1 else false else false) (again (.l0 (Nat.cast (List.length (List.replicate (Int.toNat (↑p3.length)) (Ty.dflt Ty.bool)))) 0 (List.replicate (Int.toNat (↑p3.length)) (Ty.dflt Ty.bool)))) none | some (.l0 v3 v4 v10)=>cond (B.lt v4 v3) (cond (B.inb v4 v10.length) (again (.l0 v3 (IntKind.wrap .i64 (v4+1)) (List.set v10 v4.toNat p7))) none) (again (.l1 true v10)) | some (.l1 v3 v9)=>cond (v3) (again (.l2 false (IntKind.wrap .i64 (Nat.cast v9.length-1)) v9)) (k v9) | some (.l2 v3 v4 v10)=>cond (B.le 0 v4) (cond (B.inb v4 p6.length) (cond (p6.getD v4.toNat ty4.dflt) (again (.l1014 v3 v4 true v10)) (cond (B.inb v4 p5.length) (cond (p5.getD v4.toNat ty4.dflt) (ob (c134 p0 p1 p2 p3 p4 v4) fun y0=>cond (B.inb y0 v10.length) (again (.l1014 v3 v4 (v10.getD y0.toNat ty4.dflt) v10)) none) (again (.l1014 v3 v4 false v10))) none)) none) (again (.l1 v3 v10)) | some (.l1014 v3 v4 v5 v11)=>cond (p7) (cond (B.inb v4 p6.length) (cond (p6.getD v4.toNat ty4.dflt) (cond (B.inb v4 p5.length) (cond (p5.getD v4.toNat ty4.dflt) (again (.l1016 v3 v4 true v11)) (ob (c134 p0 p1 p2 p3 p4 v4) fun y0=>cond (B.inb y0 v11.length) (again (.l1016 v3 v4 (v11.getD y0.toNat ty4.dflt) v11)) none)) none) (again (.l1016 v3 v4 false v11))) none) (again (.l1016 v3 v4 v5 v11)) | some (.l1016 v3 v4 v5 v11)=>cond (v3) (cond (B.inb v4 v11.length) (again (.l2 true (IntKind.wrap .i64 (v4-1)) (List.set v11 v4.toNat v5))) none) (cond (B.inb v4 v11.length) (cond (B.inb v4 v11.length) (again (.l2 (!v5 == v11.getD v4.toNat ty4.dflt) (IntKind.wrap .i64 (v4-1)) (List.set v11 v4.toNat v5))) none) none)
def E135 (p0:L94) (p1:L98) (p2:L103) (p3:L68) (p4:Int) (p5 p6:L4) (p7:Bool):S135→List AV×Objs
 | .l0 v3 v4 v10=>(mk 87 [(1,.c (.list 4 ty4 p5)),(2,.c (.list 4 ty4 p6)),(3,.c (.bool p7)),(4,.c (.ptr 4 0)),(9,.c (.own 9)),(19,.c (.int .i64 v3)),(20,.c (.int .i64 v4))],[(4,.box 117 [.list 94 ty94 p0,.list 98 ty98 p1,.list 103 ty103 p2,.list 68 ty68 p3,.int .i64 p4]),(9,.row 4 ty4 v10)])
 | .l1 v3 v9=>(mk 87 [(1,.c (.list 4 ty4 p5)),(2,.c (.list 4 ty4 p6)),(3,.c (.bool p7)),(4,.c (.ptr 4 0)),(9,.c (.own 9)),(11,.c (.bool v3))],[(4,.box 117 [.list 94 ty94 p0,.list 98 ty98 p1,.list 103 ty103 p2,.list 68 ty68 p3,.int .i64 p4]),(9,.row 4 ty4 v9)])
 | .l2 v3 v4 v10=>(mk 87 [(1,.c (.list 4 ty4 p5)),(2,.c (.list 4 ty4 p6)),(3,.c (.bool p7)),(4,.c (.ptr 4 0)),(9,.c (.own 9)),(11,.c (.bool v3)),(12,.c (.int .i64 v4))],[(4,.box 117 [.list 94 ty94 p0,.list 98 ty98 p1,.list 103 ty103 p2,.list 68 ty68 p3,.int .i64 p4]),(9,.row 4 ty4 v10)])
 | .l1014 v3 v4 v5 v11=>(mk 87 [(1,.c (.list 4 ty4 p5)),(2,.c (.list 4 ty4 p6)),(3,.c (.bool p7)),(4,.c (.ptr 4 0)),(9,.c (.own 9)),(11,.c (.bool v3)),(12,.c (.int .i64 v4)),(13,.c (.bool v5))],[(4,.box 117 [.list 94 ty94 p0,.list 98 ty98 p1,.list 103 ty103 p2,.list 68 ty68 p3,.int .i64 p4]),(9,.row 4 ty4 v11)])
 | .l1016 v3 v4 v5 v11=>(mk 87 [(1,.c (.list 4 ty4 p5)),(2,.c (.list 4 ty4 p6)),(3,.c (.bool p7)),(4,.c (.ptr 4 0)),(9,.c (.own 9)),(11,.c (.bool v3)),(12,.c (.int .i64 v4)),(13,.c (.bool v5))],[(4,.box 117 [.list 94 ty94 p0,.list 98 ty98 p1,.list 103 ty103 p2,.list 68 ty68 p3,.int .i64 p4]),(9,.row 4 ty4 v11)])
def I135:S135→Nat
 | .l0 _ _ _=>0
 | .l1 _ _=>1
 | .l2 _ _ _=>2
 | .l1014 _ _ _ _=>1014
 | .l1016 _ _ _ _=>1016
noncomputable abbrev A135 {R:Type} (B:Ops) (c134:C134) (p0:L94) (p1:L98) (p2:L103) (p3:L68) (p4:Int) (p5 p6:L4) (p7:Bool) (k:AV→Objs→Option R) (s:S135) (n:Nat):Option R:=aloop tau B gl0 X135 (ent 134 (e134 c134) gnil) ow [] Tryz.f135 k (I135 s) (E135 p0 p1 p2 p3 p4 p5 p6 p7 s) n
theorem eq135 {R:Type} (B:Ops) (c134:C134) (p0:L94) (p1:L98) (p2:L103) (p3:L68) (p4:Int) (p5 p6:L4) (p7:Bool) (k:AV→Objs→Option R) (n:Nat):afun tau B gl0 X135 (ent 134 (e134 c134) gnil) ow Tryz.f135 [.agg [.list 94 ty94 p0,.list 98 ty98 p1,.list 103 ty103 p2,.list 68 ty68 p3,.int .i64 p4],.c (.list 4 ty4 p5),.c (.list 4 ty4 p6),.c (.bool p7)] [] k n=T135 B c134 p0 p1 p2 p3 p4 p5 p6 p7 (fun s=>A135 B c134 p0 p1 p2 p3 p4 p5 p6 p7 k s n) (K32 k) none:=by kernel_rfl
theorem el135 {R:Type} (B:Ops) (c134:C134) (p0:L94) (p1:L98) (p2:L103) (p3:L68) (p4:Int) (p5 p6:L4) (p7:Bool) (k:AV→Objs→Option R) (n:Nat):∀ s,A135 B c134 p0 p1 p2 p3 p4 p5 p6 p7 k s (n+1)=T135 B c134 p0 p1 p2 p3 p4 p5 p6 p7 (fun s=>A135 B c134 p0 p1 p2 p3 p4 p5 p6 p7 k s n) (K32 k) (some s):=by
 intro s
 cases s<;>kernel_rfl
theorem nt135 {R R':Type} (B:Ops) (c134:C134) (p0:L94) (p1:L98) (p2:L103) (p3:L68) (p4:Int) (p5 p6:L4) (p7:Bool) (again:S135→Option R) (again':S135→Option R') (k0:(L4)→Option R') (k:R'→Option R) (h:∀ s,again s=ob (again' s) k):∀ s,T135 B c134 p0 p1 p2 p3 p4 p5 p6 p7 again (fun y=>ob (k0 y) k) s=ob (T135 B c134 p0 p1 p2 p3 p4 p5 p6 p7 again' k0 s) k:=by
 rintro (_ | x)
 all_goals try cases x
 all_goals (unfold T135;repeat' first | exact rfl | exact h _ | apply qad | (apply qaj;intro))
def R135 (c134:C134) (p0:L94) (p1:L98) (p2:L103) (p3:L68) (p4:Int) (p5 p6:L4) (p7:Bool):Nat→S135→Option (L4)
 | 0,_=>none
 | n+1,s=>T135 Ops.std c134 p0 p1 p2 p3 p4 p5 p6 p7 (R135 c134 p0 p1 p2 p3 p4 p5 p6 p7 n) some (some s)
theorem rr135 {R:Type} (c134:C134) (p0:L94) (p1:L98) (p2:L103) (p3:L68) (p4:Int) (p5 p6:L4) (p7:Bool) (k:AV→Objs→Option R):∀ (n:Nat) (s:S135),A135 Ops.std c134 p0 p1 p2 p3 p4 p5 p6 p7 k s n=ob (R135 c134 p0 p1 p2 p3 p4 p5 p6 p7 n s) (K32 k)
 | 0,s=>by cases s<;>rfl
 | n+1,s=>by rw [el135];exact nt135 Ops.std c134 p0 p1 p2 p3 p4 p5 p6 p7 _ _ some (K32 k) (rr135 c134 p0 p1 p2 p3 p4 p5 p6 p7 k n) (some s)
def F135 (c134:C134) (p0:L94) (p1:L98) (p2:L103) (p3:L68) (p4:Int) (p5 p6:L4) (p7:Bool):Option (L4):=T135 Ops.std c134 p0 p1 p2 p3 p4 p5 p6 p7 (R135 c134 p0 p1 p2 p3 p4 p5 p6 p7 1000000) some none
abbrev C135:Type:=L94→L98→L103→L68→Int→L4→L4→Bool→Option (L4)
def e135 {R:Type} (c:C135):Ent R:=eG [.aG [.cL 94 ty94,.cL 98 ty98,.cL 103 ty103,.cL 68 ty68,.cI .i64],.aC (.cL 4 ty4),.aC (.cL 4 ty4),.aC .cB] [] fun v k=>ob (c v.1 v.2.1 v.2.2.1 v.2.2.2.1 v.2.2.2.2.1 v.2.2.2.2.2.1 v.2.2.2.2.2.2.1 v.2.2.2.2.2.2.2.1) (K32 k)
abbrev Sp135 (c:C135):Prop:=∀ (p0:L94) (p1:L98) (p2:L103) (p3:L68) (p4:Int) (p5 p6:L4) (p7:Bool) (y:L4),c p0 p1 p2 p3 p4 p5 p6 p7=some y→Spec Tryz.prog gl0 135 [.agg [.list 94 ty94 p0,.list 98 ty98 p1,.list 103 ty103 p2,.list 68 ty68 p3,.int .i64 p4],.c (.list 4 ty4 p5),.c (.list 4 ty4 p6),.c (.bool p7)] [] (.c (.own 500)) [(500,.row 4 ty4 y)]
theorem ek135 {R:Type} {c:C135} (hs:Sp135 c):EOk 135 (e135 (R:=R) c):=qal fun v=>hs v.1 v.2.1 v.2.2.1 v.2.2.2.1 v.2.2.2.2.1 v.2.2.2.2.2.1 v.2.2.2.2.2.2.1 v.2.2.2.2.2.2.2.1
theorem sf135 {c134:C134} (h134:Sp134 c134):Sp135 (F135 c134):=fun p0 p1 p2 p3 p4 p5 p6 p7 y hy=>by
 refine qai (qac (ek134 h134) qah) 1000000 (fn:=Tryz.f135) (by kernel_rfl) (by kernel_rfl) (X:=X135) (by kernel_rfl) ?_
 rw [eq135]
 exact (nt135 Ops.std c134 p0 p1 p2 p3 p4 p5 p6 p7 _ _ some (K32 k0) (rr135 c134 p0 p1 p2 p3 p4 p5 p6 p7 k0 1000000) none).trans (by show ob (F135 c134 p0 p1 p2 p3 p4 p5 p6 p7) _=_;rw [hy];rfl)
noncomputable def M135:C135:=F135 M134
theorem sm135:Sp135 M135:=sf135 sm134
def X76:Aux:=⟨[],[(1,.lin [0,2,1,3,4,5]),(20,.lin [0,1,2,3,4,5,6]),(22,.lin [0,1,2,3,4,5,6]),(23,.lin (rg 0 12))]⟩
def T76 {R:Type} (B:Ops) (c125:C125) (c219:C219) (c220:C220) (c221:C221) (c222:C222) (c223:C223) (c224:C224) (c126:C126) (c127:C127) (c128:C128) (c129:C129) (c130:C130) (c131:C131) (c132:C132) (c133:C133) (c135:C135) (p0:L94) (p1:L98) (p2:L103) (p3:L68) (p4 p5:Int) (p6:L150) (p7:L47) (k:(L4)→Option R):Option R:=ob (c125 p0 p1 p2 p3 p4) fun y0=>ob (c219 p0 p1 p2 p3 p4) fun y1=>cond (B.eq p5 1) (k y0) (cond (B.eq p5 2) (k y1) (cond (B.eq p5 3) (ob (c128 p0 p1 p2 p3 p4 p6) fun y2=>k y2) (cond (B.eq p5 4) (ob (c220 p0 p1 p2 p3 p4 p7) fun y2=>k y2.1) (cond (B.eq p5 5) (ob (c221 p0 p1 p2 p3 p4 p7) fun y2=>k y2.1) (cond (B.eq p5 6) (ob (c222 p0 p1 p2 p3 p4 p7) fun y2=>k y2.1) (cond (B.eq p5 7) (ob (c223 p0 p1 p2 p3 p4 p7) fun y2=>k y2.1) (cond (B.eq p5 8) (ob (c224 p0 p1 p2 p3 p4 p7 p0 p1 p2 p3 p4) fun y2=>k y2.1) (cond (B.eq p5 11) (cond (B.inb 0 p7.length) (ob (c135 p0 p1 p2 p3 p4 y0 (p7.getD (Int.toNat 0) ty47.dflt) false) fun y2=>k y2) none) (cond (B.eq p5 12) (cond (B.inb 0 p7.length) (ob (c135 p0 p1 p2 p3 p4 y1 (p7.getD (Int.toNat 0) ty47.dflt) true) fun y2=>k y2) none) (cond (B.inb 0 p7.length) (cond (B.inb 1 p7.length) (ob (c135 p0 p1 p2 p3 p4 (p7.getD (Int.toNat 0) ty47.dflt) (p7.getD (Int.toNat 1) ty47.dflt) (B.eq p5 10)) fun y2=>k y2) none) none))))))))))
theorem eq76 {R:Type} (B:Ops) (c125:C125) (c219:C219) (c220:C220) (c221:C221) (c222:C222) (c223:C223) (c224:C224) (c126:C126) (c127:C127) (c128:C128) (c129:C129) (c130:C130) (c131:C131) (c132:C132) (c133:C133) (c135:C135) (p0:L94) (p1:L98) (p2:L103) (p3:L68) (p4 p5:Int) (p6:L150) (p7:L47) (k:AV→Objs→Option R) (n:Nat):afun tau B gl0 X76 (ent 125 (eAlt 1 126 (e125 c125) (eAlt 1 127 (e219 c219) (eAlt 1 129 (e220 c220) (eAlt 1 130 (e221 c221) (eAlt 1 131 (e222 c222) (eAlt 1 132 (e223 c223) (e224 c224))))))) (ent 126 (e126 c126) (ent 127 (e127 c127) (ent 128 (e128 c128) (ent 129 (e129 c129) (ent 130 (e130 c130) (ent 131 (e131 c131) (ent 132 (e132 c132) (ent 133 (e133 c133) (ent 135 (e135 c135) gnil)))))))))) ow Tryz.f76 [.agg [.list 94 ty94 p0,.list 98 ty98 p1,.list 103 ty103 p2,.list 68 ty68 p3,.int .i64 p4],.agg [.int .i64 p5,.list 150 ty150 p6],.c (.list 47 ty47 p7)] [] k n=T76 B c125 c219 c220 c221 c222 c223 c224 c126 c127 c128 c129 c130 c131 c132 c133 c135 p0 p1 p2 p3 p4 p5 p6 p7 (K32 k):=by kernel_rfl
theorem nt76 {R R':Type} (B:Ops) (c125:C125) (c219:C219) (c220:C220) (c221:C221) (c222:C222) (c223:C223) (c224:C224) (c126:C126) (c127:C127) (c128:C128) (c129:C129) (c130:C130) (c131:C131) (c132:C132) (c133:C133) (c135:C135) (p0:L94) (p1:L98) (p2:L103) (p3:L68) (p4 p5:Int) (p6:L150) (p7:L47) (k0:(L4)→Option R') (k:R'→Option R):T76 B c125 c219 c220 c221 c222 c223 c224 c126 c127 c128 c129 c130 c131 c132 c133 c135 p0 p1 p2 p3 p4 p5 p6 p7 (fun y=>ob (k0 y) k)=ob (T76 B c125 c219 c220 c221 c222 c223 c224 c126 c127 c128 c129 c130 c131 c132 c133 c135 p0 p1 p2 p3 p4 p5 p6 p7 k0) k:=by
 unfold T76
 repeat' first | exact rfl | apply qad | (apply qaj;intro)
def F76 (c125:C125) (c219:C219) (c220:C220) (c221:C221) (c222:C222) (c223:C223) (c224:C224) (c126:C126) (c127:C127) (c128:C128) (c129:C129) (c130:C130) (c131:C131) (c132:C132) (c133:C133) (c135:C135) (p0:L94) (p1:L98) (p2:L103) (p3:L68) (p4 p5:Int) (p6:L150) (p7:L47):Option (L4):=T76 Ops.std c125 c219 c220 c221 c222 c223 c224 c126 c127 c128 c129 c130 c131 c132 c133 c135 p0 p1 p2 p3 p4 p5 p6 p7 some
abbrev C76:Type:=L94→L98→L103→L68→Int→Int→L150→L47→Option (L4)
def e76 {R:Type} (c:C76):Ent R:=eG [.aG [.cL 94 ty94,.cL 98 ty98,.cL 103 ty103,.cL 68 ty68,.cI .i64],.aG [.cI .i64,.cL 150 ty150],.aC (.cL 47 ty47)] [] fun v k=>ob (c v.1 v.2.1 v.2.2.1 v.2.2.2.1 v.2.2.2.2.1 v.2.2.2.2.2.1 v.2.2.2.2.2.2.1 v.2.2.2.2.2.2.2.1) (K32 k)
abbrev Sp76 (c:C76):Prop:=∀ (p0:L94) (p1:L98) (p2:L103) (p3:L68) (p4 p5:Int) (p6:L150) (p7:L47) (y:L4),c p0 p1 p2 p3 p4 p5 p6 p7=some y→Spec Tryz.prog gl0 76 [.agg [.list 94 ty94 p0,.list 98 ty98 p1,.list 103 ty103 p2,.list 68 ty68 p3,.int .i64 p4],.agg [.int .i64 p5,.list 150 ty150 p6],.c (.list 47 ty47 p7)] [] (.c (.own 500)) [(500,.row 4 ty4 y)]
theorem ek76 {R:Type} {c:C76} (hs:Sp76 c):EOk 76 (e76 (R:=R) c):=qal fun v=>hs v.1 v.2.1 v.2.2.1 v.2.2.2.1 v.2.2.2.2.1 v.2.2.2.2.2.1 v.2.2.2.2.2.2.1 v.2.2.2.2.2.2.2.1
theorem sf76 {c125:C125} {c219:C219} {c220:C220} {c221:C221} {c222:C222} {c223:C223} {c224:C224} {c126:C126} {c127:C127} {c128:C128} {c129:C129} {c130:C130} {c131:C131} {c132:C132} {c133:C133} {c135:C135} (h125:Sp125 c125) (h219:Sp219 c219) (h220:Sp220 c220) (h221:Sp221 c221) (h222:Sp222 c222) (h223:Sp223 c223) (h224:Sp224 c224) (h126:Sp126 c126) (h127:Sp127 c127) (h128:Sp128 c128) (h129:Sp129 c129) (h130:Sp130 c130) (h131:Sp131 c131) (h132:Sp132 c132) (h133:Sp133 c133) (h135:Sp135 c135):Sp76 (F76 c125 c219 c220 c221 c222 c223 c224 c126 c127 c128 c129 c130 c131 c132 c133 c135):=fun p0 p1 p2 p3 p4 p5 p6 p7 y hy=>by
 refine qai (G:=ent 125 (eAlt 1 126 (e125 c125) (eAlt 1 127 (e219 c219) (eAlt 1 129 (e220 c220) (eAlt 1 130 (e221 c221) (eAlt 1 131 (e222 c222) (eAlt 1 132 (e223 c223) (e224 c224))))))) (ent 126 (e126 c126) (ent 127 (e127 c127) (ent 128 (e128 c128) (ent 129 (e129 c129) (ent 130 (e130 c130) (ent 131 (e131 c131) (ent 132 (e132 c132) (ent 133 (e133 c133) (ent 135 (e135 c135) gnil)))))))))) (qac (qct (ek125 h125) (qct (ek219 h219) (qct (ek220 h220) (qct (ek221 h221) (qct (ek222 h222) (qct (ek223 h223) (ek224 h224))))))) (qac (ek126 h126) (qac (ek127 h127) (qac (ek128 h128) (qac (ek129 h129) (qac (ek130 h130) (qac (ek131 h131) (qac (ek132 h132) (qac (ek133 h133) (qac (ek135 h135) qah)))))))))) 1000000 (fn:=Tryz.f76) (by kernel_rfl) (by kernel_rfl) (X:=X76) (by kernel_rfl) ?_
 rw [eq76]
 exact (nt76 Ops.std c125 c219 c220 c221 c222 c223 c224 c126 c127 c128 c129 c130 c131 c132 c133 c135 p0 p1 p2 p3 p4 p5 p6 p7 some (K32 k0)).trans (by show ob (F76 c125 c219 c220 c221 c222 c223 c224 c126 c127 c128 c129 c130 c131 c132 c133 c135 p0 p1 p2 p3 p4 p5 p6 p7) _=_;rw [hy];rfl)
noncomputable def M76:C76:=F76 M125 M219 M220 M221 M222 M223 M224 M126 M127 M128 M129 M130 M131 M132 M133 M135
theorem sm76:Sp76 M76:=sf76 sm125 sm219 sm220 sm221 sm222 sm223 sm224 sm126 sm127 sm128 sm129 sm130 sm131 sm132 sm133 sm135
def X44:Aux:=⟨[],[]⟩
def T44 {R:Type} (B:Ops) (c21:C21) (p0:L94) (p1:L98) (p2:L103) (p3:L66) (p4 p5:L68) (k:(Bool)→Option R):Option R:=ob (c21 p0 p1 p2 p3 p4 p5) fun y0=>cond (B.lt 0 (↑y0.length)) (cond (B.inb (IntKind.wrap .i64 (Nat.cast y0.length-1)) y0.length) (cond (B.inb 0 (List.length (y0.getD (Int.toNat (IntKind.wrap .i64 (Nat.cast y0.length-1))) ty47.dflt))) (k (List.getD (y0.getD (Int.toNat (IntKind.wrap .i64 (Nat.cast y0.length-1))) ty47.dflt) (Int.toNat 0) (Ty.dflt Ty.bool))) none) none) (k false)
theorem eq44 {R:Type} (B:Ops) (c21:C21) (p0:L94) (p1:L98) (p2:L103) (p3:L66) (p4 p5:L68) (k:AV→Objs→Option R) (n:Nat):afun tau B gl0 X44 (ent 21 (e21 c21) gnil) ow Tryz.f44 [.agg [.list 94 ty94 p0,.list 98 ty98 p1,.list 103 ty103 p2],.c (.list 66 ty66 p3),.agg [.list 68 ty68 p4,.list 68 ty68 p5]] [] k n=T44 B c21 p0 p1 p2 p3 p4 p5 (K2 k):=by kernel_rfl
theorem nt44 {R R':Type} (B:Ops) (c21:C21) (p0:L94) (p1:L98) (p2:L103) (p3:L66) (p4 p5:L68) (k0:(Bool)→Option R') (k:R'→Option R):T44 B c21 p0 p1 p2 p3 p4 p5 (fun y=>ob (k0 y) k)=ob (T44 B c21 p0 p1 p2 p3 p4 p5 k0) k:=by
 unfold T44
 repeat' first | exact rfl | apply qad | (apply qaj;intro)
def F44 (c21:C21) (p0:L94) (p1:L98) (p2:L103) (p3:L66) (p4 p5:L68):Option (Bool):=T44 Ops.std c21 p0 p1 p2 p3 p4 p5 some
abbrev C44:Type:=L94→L98→L103→L66→L68→L68→Option (Bool)
def e44 {R:Type} (c:C44):Ent R:=eG [.aG [.cL 94 ty94,.cL 98 ty98,.cL 103 ty103],.aC (.cL 66 ty66),.aG [.cL 68 ty68,.cL 68 ty68]] [] fun v k=>ob (c v.1 v.2.1 v.2.2.1 v.2.2.2.1 v.2.2.2.2.1 v.2.2.2.2.2.1) (K2 k)
abbrev Sp44 (c:C44):Prop:=∀ (p0:L94) (p1:L98) (p2:L103) (p3:L66) (p4 p5:L68) (y:Bool),c p0 p1 p2 p3 p4 p5=some y→Spec Tryz.prog gl0 44 [.agg [.list 94 ty94 p0,.list 98 ty98 p1,.list 103 ty103 p2],.c (.list 66 ty66 p3),.agg [.list 68 ty68 p4,.list 68 ty68 p5]] [] (.c (.bool y)) []
theorem ek44 {R:Type} {c:C44} (hs:Sp44 c):EOk 44 (e44 (R:=R) c):=qal fun v=>hs v.1 v.2.1 v.2.2.1 v.2.2.2.1 v.2.2.2.2.1 v.2.2.2.2.2.1
theorem sf44 {c21:C21} (h21:Sp21 c21):Sp44 (F44 c21):=fun p0 p1 p2 p3 p4 p5 y hy=>by
 refine qai (qac (ek21 h21) qah) 1000000 (fn:=Tryz.f44) (by kernel_rfl) (by kernel_rfl) (X:=X44) (by kernel_rfl) ?_
 rw [eq44]
 exact (nt44 Ops.std c21 p0 p1 p2 p3 p4 p5 some (K2 k0)).trans (by show ob (F44 c21 p0 p1 p2 p3 p4 p5) _=_;rw [hy];rfl)
noncomputable def M44:C44:=F44 M21
theorem sm44:Sp44 M44:=sf44 sm21
def X174:Aux:=⟨[(3,([0,1,2,4,5,6]++rg 10 14))],[]⟩
inductive S174 where
 | l0 (v1 v2:Int) (v3:List (LB×Bool))
def T174 {R:Type} (B:Ops) (c185:C185) (p0:L9) (again:S174→Option R) (k:(Bool)→Option R):Option S174→Option R | none=>again (.l0 (↑p0.length) 0 (mt (Ty.den Ty.str×Ty.den Ty.bool))) | some (.l0 v1 v2 v3)=>cond (B.lt v2 v1) (cond (B.inb v2 p0.length) (ob (c185 (p0.getD v2.toNat ty9.dflt)) fun y0=>cond (!y0) (k false) (cond (Option.getD (mget Ty.str v3 (p0.getD v2.toNat ty9.dflt)) (Ty.dflt Ty.bool)) (k false) (again (.l0 v1 (IntKind.wrap .i64 (v2+1)) (mput Ty.str v3 (p0.getD v2.toNat ty9.dflt) true))))) none) (k true)
def E174 (p0:L9):S174→List AV×Objs
 | .l0 v1 v2 v3=>(mk 24 [(3,.c (.own 3)),(7,.c (.list 9 ty9 p0)),(8,.c (.int .i64 v1)),(9,.c (.int .i64 v2))],[(3,.mp 218 .str .bool v3)])
def I174:S174→Nat
 | .l0 _ _ _=>0
noncomputable abbrev A174 {R:Type} (B:Ops) (c185:C185) (p0:L9) (k:AV→Objs→Option R) (s:S174) (n:Nat):Option R:=aloop tau B gl0 X174 (ent 185 (e185 c185) gnil) ow [] Tryz.f174 k (I174 s) (E174 p0 s) n
theorem eq174 {R:Type} (B:Ops) (c185:C185) (p0:L9) (k:AV→Objs→Option R) (n:Nat):afun tau B gl0 X174 (ent 185 (e185 c185) gnil) ow Tryz.f174 [.c (.list 9 ty9 p0)] [] k n=T174 B c185 p0 (fun s=>A174 B c185 p0 k s n) (K2 k) none:=by kernel_rfl
theorem el174 {R:Type} (B:Ops) (c185:C185) (p0:L9) (k:AV→Objs→Option R) (n:Nat):∀ s,A174 B c185 p0 k s (n+1)=T174 B c185 p0 (fun s=>A174 B c185 p0 k s n) (K2 k) (some s):=by
 intro s
 cases s<;>kernel_rfl
theorem nt174 {R R':Type} (B:Ops) (c185:C185) (p0:L9) (again:S174→Option R) (again':S174→Option R') (k0:(Bool)→Option R') (k:R'→Option R) (h:∀ s,again s=ob (again' s) k):∀ s,T174 B c185 p0 again (fun y=>ob (k0 y) k) s=ob (T174 B c185 p0 again' k0 s) k:=by
 rintro (_ | x)
 all_goals try cases x
 all_goals (unfold T174;repeat' first | exact rfl | exact h _ | apply qad | (apply qaj;intro))
def R174 (c185:C185) (p0:L9):Nat→S174→Option (Bool)
 | 0,_=>none
 | n+1,s=>T174 Ops.std c185 p0 (R174 c185 p0 n) some (some s)
theorem rr174 {R:Type} (c185:C185) (p0:L9) (k:AV→Objs→Option R):∀ (n:Nat) (s:S174),A174 Ops.std c185 p0 k s n=ob (R174 c185 p0 n s) (K2 k)
 | 0,s=>by cases s<;>rfl
 | n+1,s=>by rw [el174];exact nt174 Ops.std c185 p0 _ _ some (K2 k) (rr174 c185 p0 k n) (some s)
def F174 (c185:C185) (p0:L9):Option (Bool):=T174 Ops.std c185 p0 (R174 c185 p0 1000000) some none
abbrev C174:Type:=L9→Option (Bool)
def e174 {R:Type} (c:C174):Ent R:=eG [.aC (.cL 9 ty9)] [] fun v k=>ob (c v.1) (K2 k)
abbrev Sp174 (c:C174):Prop:=∀ (p0:L9) (y:Bool),c p0=some y→Spec Tryz.prog gl0 174 [.c (.list 9 ty9 p0)] [] (.c (.bool y)) []
theorem ek174 {R:Type} {c:C174} (hs:Sp174 c):EOk 174 (e174 (R:=R) c):=qal fun v=>hs v.1
theorem sf174 {c185:C185} (h185:Sp185 c185):Sp174 (F174 c185):=fun p0 y hy=>by
 refine qai (qac (ek185 h185) qah) 1000000 (fn:=Tryz.f174) (by kernel_rfl) (by kernel_rfl) (X:=X174) (by kernel_rfl) ?_
 rw [eq174]
 exact (nt174 Ops.std c185 p0 _ _ some (K2 k0) (rr174 c185 p0 k0 1000000) none).trans (by show ob (F174 c185 p0) _=_;rw [hy];rfl)
noncomputable def M174:C174:=F174 M185
theorem sm174:Sp174 M174:=sf174 sm185
def X137:Aux:=⟨[(3,([0,2,5,6,7,8,9]++rg 13 62)),(10,([0,1,2]++rg 5 21++rg 29 46))],[]⟩
inductive S137 where
 | l0 (v1 v2:Int) (v6:L9)
 | l1 (v1 v2:Int) (v3 v4:L9)
def T137 {R:Type} (B:Ops) (c173:C173) (c174:C174) (p0:L94) (p1:L98) (p2:L103) (again:S137→Option R) (k:(Bool)→Option R):Option S137→Option R | none=>again (.l0 (↑p0.length) 0 (mt (Ty.den Ty.str))) | some (.l0 v1 v2 v6)=>cond (B.lt v2 v1) (cond (B.inb v2 p0.length) (ob (c173 (p0.getD v2.toNat ty94.dflt).1 ((p0.getD v2.toNat ty94.dflt).2).1 (((p0.getD v2.toNat ty94.dflt).2).2).1 (((p0.getD v2.toNat ty94.dflt).2).2).2) fun y0=>cond (!y0) (k false) (cond (B.lim (List.length v6+List.length ((p0.getD v2.toNat ty94.dflt).1::mt (Ty.den Ty.str))) 16) (again (.l0 v1 (IntKind.wrap .i64 (v2+1)) (v6++(p0.getD v2.toNat ty94.dflt).1::mt (Ty.den Ty.str)))) none)) none) (again (.l1 (↑p1.length) 0 v6 ((mt (Ty.den Ty.str))))) | some (.l1 v1 v2 v3 v4)=>cond (B.lt v2 v1) (cond (B.inb v2 p1.length) (cond (B.lt (Nat.cast (List.length (p1.getD v2.toNat ty98.dflt).2)) 1) (k false) (cond (B.lt 6 (Nat.cast (List.length (p1.getD v2.toNat ty98.dflt).2))) (k false) (ob (c174 (p1.getD v2.toNat ty98.dflt).2) fun y0=>cond (!y0) (k false) (cond (B.lim (List.length v4+List.length ((p1.getD v2.toNat ty98.dflt).1::mt (Ty.den Ty.str))) 16) (again (.l1 v1 (IntKind.wrap .i64 (v2+1)) v3 (v4++(p1.getD v2.toNat ty98.dflt).1::mt (Ty.den Ty.str)))) none)))) none) (cond (B.le (↑v3.length) 4) (ob (c174 v3) fun y0=>cond (y0) (cond (B.le 1 (↑v4.length)) (cond (B.le (↑v4.length) 3) (ob (c174 v4) fun y1=>k y1) (k false)) (k false)) (k false)) (k false))
def E137 (p0:L94) (p1:L98) (p2:L103):S137→List AV×Objs
 | .l0 v1 v2 v6=>(mk 75 [(1,.c (.ptr 1 0)),(3,.c (.own 3)),(4,.c (.own 4)),(10,.c (.list 94 ty94 p0)),(11,.c (.int .i64 v1)),(12,.c (.int .i64 v2))],[(1,.box 31 [.list 94 ty94 p0,.list 98 ty98 p1,.list 103 ty103 p2]),(3,.row 9 ty9 v6),(4,.row 9 ty9 (mt (Ty.den Ty.str)))])
 | .l1 v1 v2 v3 v4=>(mk 75 [(3,.c (.own 3)),(4,.c (.own 4)),(26,.c (.list 98 ty98 p1)),(27,.c (.int .i64 v1)),(28,.c (.int .i64 v2))],[(3,.row 9 ty9 v3),(4,.row 9 ty9 v4)])
def I137:S137→Nat
 | .l0 _ _ _=>0
 | .l1 _ _ _ _=>1
noncomputable abbrev A137 {R:Type} (B:Ops) (c173:C173) (c174:C174) (p0:L94) (p1:L98) (p2:L103) (k:AV→Objs→Option R) (s:S137) (n:Nat):Option R:=aloop tau B gl0 X137 (ent 173 (e173 c173) (ent 174 (e174 c174) gnil)) ow [] Tryz.f137 k (I137 s) (E137 p0 p1 p2 s) n
theorem eq137 {R:Type} (B:Ops) (c173:C173) (c174:C174) (p0:L94) (p1:L98) (p2:L103) (k:AV→Objs→Option R) (n:Nat):afun tau B gl0 X137 (ent 173 (e173 c173) (ent 174 (e174 c174) gnil)) ow Tryz.f137 [.agg [.list 94 ty94 p0,.list 98 ty98 p1,.list 103 ty103 p2]] [] k n=T137 B c173 c174 p0 p1 p2 (fun s=>A137 B c173 c174 p0 p1 p2 k s n) (K2 k) none:=by kernel_rfl
theorem el137 {R:Type} (B:Ops) (c173:C173) (c174:C174) (p0:L94) (p1:L98) (p2:L103) (k:AV→Objs→Option R) (n:Nat):∀ s,A137 B c173 c174 p0 p1 p2 k s (n+1)=T137 B c173 c174 p0 p1 p2 (fun s=>A137 B c173 c174 p0 p1 p2 k s n) (K2 k) (some s):=by
 intro s
 cases s<;>kernel_rfl
theorem nt137 {R R':Type} (B:Ops) (c173:C173) (c174:C174) (p0:L94) (p1:L98) (p2:L103) (again:S137→Option R) (again':S137→Option R') (k0:(Bool)→Option R') (k:R'→Option R) (h:∀ s,again s=ob (again' s) k):∀ s,T137 B c173 c174 p0 p1 p2 again (fun y=>ob (k0 y) k) s=ob (T137 B c173 c174 p0 p1 p2 again' k0 s) k:=by
 rintro (_ | x)
 all_goals try cases x
 all_goals (unfold T137;repeat' first | exact rfl | exact h _ | apply qad | (apply qaj;intro))
def R137 (c173:C173) (c174:C174) (p0:L94) (p1:L98) (p2:L103):Nat→S137→Option (Bool)
 | 0,_=>none
 | n+1,s=>T137 Ops.std c173 c174 p0 p1 p2 (R137 c173 c174 p0 p1 p2 n) some (some s)
theorem rr137 {R:Type} (c173:C173) (c174:C174) (p0:L94) (p1:L98) (p2:L103) (k:AV→Objs→Option R):∀ (n:Nat) (s:S137),A137 Ops.std c173 c174 p0 p1 p2 k s n=ob (R137 c173 c174 p0 p1 p2 n s) (K2 k)
 | 0,s=>by cases s<;>rfl
 | n+1,s=>by rw [el137];exact nt137 Ops.std c173 c174 p0 p1 p2 _ _ some (K2 k) (rr137 c173 c174 p0 p1 p2 k n) (some s)
def F137 (c173:C173) (c174:C174) (p0:L94) (p1:L98) (p2:L103):Option (Bool):=T137 Ops.std c173 c174 p0 p1 p2 (R137 c173 c174 p0 p1 p2 1000000) some none
abbrev C137:Type:=L94→L98→L103→Option (Bool)
def e137 {R:Type} (c:C137):Ent R:=eG [.aG [.cL 94 ty94,.cL 98 ty98,.cL 103 ty103]] [] fun v k=>ob (c v.1 v.2.1 v.2.2.1) (K2 k)
abbrev Sp137 (c:C137):Prop:=∀ (p0:L94) (p1:L98) (p2:L103) (y:Bool),c p0 p1 p2=some y→Spec Tryz.prog gl0 137 [.agg [.list 94 ty94 p0,.list 98 ty98 p1,.list 103 ty103 p2]] [] (.c (.bool y)) []
theorem ek137 {R:Type} {c:C137} (hs:Sp137 c):EOk 137 (e137 (R:=R) c):=qal fun v=>hs v.1 v.2.1 v.2.2.1
theorem sf137 {c173:C173} {c174:C174} (h173:Sp173 c173) (h174:Sp174 c174):Sp137 (F137 c173 c174):=fun p0 p1 p2 y hy=>by
 refine qai (qac (ek173 h173) (qac (ek174 h174) qah)) 1000000 (fn:=Tryz.f137) (by kernel_rfl) (by kernel_rfl) (X:=X137) (by kernel_rfl) ?_
 rw [eq137]
 exact (nt137 Ops.std c173 c174 p0 p1 p2 _ _ some (K2 k0) (rr137 c173 c174 p0 p1 p2 k0 1000000) none).trans (by show ob (F137 c173 c174 p0 p1 p2) _=_;rw [hy];rfl)
noncomputable def M137:C137:=F137 M173 M174
theorem sm137:Sp137 M137:=sf137 sm173 sm174
def X77:Aux:=⟨[(2,([0,2,3,4,5]++rg 9 33))],[(4,.lin (rg 0 20))]⟩
inductive S77 where
 | l0 (v1 v2:Int)
def T77 {R:Type} (B:Ops) (c136:C136) (c137:C137) (p0:L94) (p1:L98) (p2:L103) (again:S77→Option R) (k:(Bool)→Option R):Option S77→Option R | none=>again (.l0 (↑p2.length) 0) | some (.l0 v1 v2)=>cond (B.lt v2 v1) (cond (B.inb v2 p2.length) (ob (c136 p0 p1 p2 (p2.getD v2.toNat ty103.dflt).1 ((p2.getD v2.toNat ty103.dflt).2).1 (((p2.getD v2.toNat ty103.dflt).2).2).1 ((((p2.getD v2.toNat ty103.dflt).2).2).2).1 ((((((p2.getD v2.toNat ty103.dflt).2).2).2).2).1) (Prod.fst ((((((p2.getD v2.toNat ty103.dflt).2).2).2).2).2)) (Prod.snd ((((((p2.getD v2.toNat ty103.dflt).2).2).2).2).2))) fun y0=>cond (!y0) (k false) (cond (B.lt 0 v2) (cond (B.inb (IntKind.wrap .i64 (v2-1)) p2.length) (cond (B.le (p2.getD v2.toNat ty103.dflt).1 (p2.getD (Int.toNat (IntKind.wrap .i64 (v2-1))) ty103.dflt).1) (k false) (again (.l0 v1 (IntKind.wrap .i64 (v2+1))))) none) (again (.l0 v1 (IntKind.wrap .i64 (v2+1)))))) none) (ob (c137 p0 p1 p2) fun y0=>cond (y0) (k (B.le (↑p2.length) 16)) (k false))
def E77 (p0:L94) (p1:L98) (p2:L103):S77→List AV×Objs
 | .l0 v1 v2=>(mk 42 [(1,.c (.ptr 1 0)),(6,.c (.list 103 ty103 p2)),(7,.c (.int .i64 v1)),(8,.c (.int .i64 v2))],[(1,.box 31 [.list 94 ty94 p0,.list 98 ty98 p1,.list 103 ty103 p2])])
def I77:S77→Nat
 | .l0 _ _=>0
noncomputable abbrev A77 {R:Type} (B:Ops) (c136:C136) (c137:C137) (p0:L94) (p1:L98) (p2:L103) (k:AV→Objs→Option R) (s:S77) (n:Nat):Option R:=aloop tau B gl0 X77 (ent 136 (e136 c136) (ent 137 (e137 c137) gnil)) ow [] Tryz.f77 k (I77 s) (E77 p0 p1 p2 s) n
theorem eq77 {R:Type} (B:Ops) (c136:C136) (c137:C137) (p0:L94) (p1:L98) (p2:L103) (k:AV→Objs→Option R) (n:Nat):afun tau B gl0 X77 (ent 136 (e136 c136) (ent 137 (e137 c137) gnil)) ow Tryz.f77 [.agg [.list 94 ty94 p0,.list 98 ty98 p1,.list 103 ty103 p2]] [] k n=T77 B c136 c137 p0 p1 p2 (fun s=>A77 B c136 c137 p0 p1 p2 k s n) (K2 k) none:=by kernel_rfl
theorem el77 {R:Type} (B:Ops) (c136:C136) (c137:C137) (p0:L94) (p1:L98) (p2:L103) (k:AV→Objs→Option R) (n:Nat):∀ s,A77 B c136 c137 p0 p1 p2 k s (n+1)=T77 B c136 c137 p0 p1 p2 (fun s=>A77 B c136 c137 p0 p1 p2 k s n) (K2 k) (some s):=by
 intro s
 cases s<;>kernel_rfl
theorem nt77 {R R':Type} (B:Ops) (c136:C136) (c137:C137) (p0:L94) (p1:L98) (p2:L103) (again:S77→Option R) (again':S77→Option R') (k0:(Bool)→Option R') (k:R'→Option R) (h:∀ s,again s=ob (again' s) k):∀ s,T77 B c136 c137 p0 p1 p2 again (fun y=>ob (k0 y) k) s=ob (T77 B c136 c137 p0 p1 p2 again' k0 s) k:=by
 rintro (_ | x)
 all_goals try cases x
 all_goals (unfold T77;repeat' first | exact rfl | exact h _ | apply qad | (apply qaj;intro))
def R77 (c136:C136) (c137:C137) (p0:L94) (p1:L98) (p2:L103):Nat→S77→Option (Bool)
 | 0,_=>none
 | n+1,s=>T77 Ops.std c136 c137 p0 p1 p2 (R77 c136 c137 p0 p1 p2 n) some (some s)
theorem rr77 {R:Type} (c136:C136) (c137:C137) (p0:L94) (p1:L98) (p2:L103) (k:AV→Objs→Option R):∀ (n:Nat) (s:S77),A77 Ops.std c136 c137 p0 p1 p2 k s n=ob (R77 c136 c137 p0 p1 p2 n s) (K2 k)
 | 0,s=>by cases s<;>rfl
 | n+1,s=>by rw [el77];exact nt77 Ops.std c136 c137 p0 p1 p2 _ _ some (K2 k) (rr77 c136 c137 p0 p1 p2 k n) (some s)
def F77 (c136:C136) (c137:C137) (p0:L94) (p1:L98) (p2:L103):Option (Bool):=T77 Ops.std c136 c137 p0 p1 p2 (R77 c136 c137 p0 p1 p2 1000000) some none
abbrev C77:Type:=L94→L98→L103→Option (Bool)
def e77 {R:Type} (c:C77):Ent R:=eG [.aG [.cL 94 ty94,.cL 98 ty98,.cL 103 ty103]] [] fun v k=>ob (c v.1 v.2.1 v.2.2.1) (K2 k)
abbrev Sp77 (c:C77):Prop:=∀ (p0:L94) (p1:L98) (p2:L103) (y:Bool),c p0 p1 p2=some y→Spec Tryz.prog gl0 77 [.agg [.list 94 ty94 p0,.list 98 ty98 p1,.list 103 ty103 p2]] [] (.c (.bool y)) []
theorem ek77 {R:Type} {c:C77} (hs:Sp77 c):EOk 77 (e77 (R:=R) c):=qal fun v=>hs v.1 v.2.1 v.2.2.1
theorem sf77 {c136:C136} {c137:C137} (h136:Sp136 c136) (h137:Sp137 c137):Sp77 (F77 c136 c137):=fun p0 p1 p2 y hy=>by
 refine qai (qac (ek136 h136) (qac (ek137 h137) qah)) 1000000 (fn:=Tryz.f77) (by kernel_rfl) (by kernel_rfl) (X:=X77) (by kernel_rfl) ?_
 rw [eq77]
 exact (nt77 Ops.std c136 c137 p0 p1 p2 _ _ some (K2 k0) (rr77 c136 c137 p0 p1 p2 k0 1000000) none).trans (by show ob (F77 c136 c137 p0 p1 p2) _=_;rw [hy];rfl)
noncomputable def M77:C77:=F77 M136 M137
theorem sm77:Sp77 M77:=sf77 sm136 sm137
def X80:Aux:=⟨[(4,([0,1]++rg 4 27++rg 34 49)),(10,([0,1,2]++rg 4 53++rg 60 23))],[(6,.lin (rg 0 17)),(12,.lin (rg 0 18))]⟩
inductive S80 where
 | l0 (v1 v2:Int)
 | l1 (v1 v2:Int)
def T80 {R:Type} (B:Ops) (c77:C77) (p0:L94) (p1:L98) (p2:L103) (p3 p4:L3) (again:S80→Option R) (k:(Bool)→Option R):Option S80→Option R | none=>ob (c77 p0 p1 p2) fun y0=>cond (!y0) (k false) (cond (!B.eq (↑p3.length) (↑p1.length)) (k false) (cond (!B.eq (↑p4.length) (↑p0.length)) (k false) (again (.l0 (↑p1.length) 0)))) | some (.l0 v1 v2)=>cond (B.lt v2 v1) (cond (B.inb v2 p1.length) (cond (B.inb v2 p3.length) (cond (B.lt (p3.getD v2.toNat ty3.dflt) 0) (k false) (cond (B.inb v2 p3.length) (cond (B.le (Nat.cast (List.length (p1.getD v2.toNat ty98.dflt).2)) (p3.getD v2.toNat ty3.dflt)) (k false) (again (.l0 v1 (IntKind.wrap .i64 (v2+1))))) none)) none) none) (again (.l1 (↑p0.length) 0)) | some (.l1 v1 v2)=>cond (B.lt v2 v1) (cond (B.inb v2 p0.length) (cond (B.inb v2 p4.length) (cond (B.lt (p4.getD v2.toNat ty3.dflt) ((p0.getD v2.toNat ty94.dflt).2).1) (k false) (cond (B.inb v2 p4.length) (cond (B.lt (((p0.getD v2.toNat ty94.dflt).2).2).1 (p4.getD v2.toNat ty3.dflt)) (k false) (again (.l1 v1 (IntKind.wrap .i64 (v2+1))))) none)) none) none) (k true)
def E80 (p0:L94) (p1:L98) (p2:L103) (p3 p4:L3):S80→List AV×Objs
 | .l0 v1 v2=>(mk 83 [(2,.c (.ptr 2 0)),(3,.c (.ptr 3 0)),(31,.c (.list 98 ty98 p1)),(32,.c (.int .i64 v1)),(33,.c (.int .i64 v2))],[(2,.box 31 [.list 94 ty94 p0,.list 98 ty98 p1,.list 103 ty103 p2]),(3,.box 57 [.list 3 ty3 p3,.list 3 ty3 p4])])
 | .l1 v1 v2=>(mk 83 [(3,.c (.ptr 3 0)),(57,.c (.list 94 ty94 p0)),(58,.c (.int .i64 v1)),(59,.c (.int .i64 v2))],[(3,.box 57 [.list 3 ty3 p3,.list 3 ty3 p4])])
def I80:S80→Nat
 | .l0 _ _=>0
 | .l1 _ _=>1
noncomputable abbrev A80 {R:Type} (B:Ops) (c77:C77) (p0:L94) (p1:L98) (p2:L103) (p3 p4:L3) (k:AV→Objs→Option R) (s:S80) (n:Nat):Option R:=aloop tau B gl0 X80 (ent 77 (e77 c77) gnil) ow [] Tryz.f80 k (I80 s) (E80 p0 p1 p2 p3 p4 s) n
theorem eq80 {R:Type} (B:Ops) (c77:C77) (p0:L94) (p1:L98) (p2:L103) (p3 p4:L3) (k:AV→Objs→Option R) (n:Nat):afun tau B gl0 X80 (ent 77 (e77 c77) gnil) ow Tryz.f80 [.agg [.list 94 ty94 p0,.list 98 ty98 p1,.list 103 ty103 p2],.agg [.list 3 ty3 p3,.list 3 ty3 p4]] [] k n=T80 B c77 p0 p1 p2 p3 p4 (fun s=>A80 B c77 p0 p1 p2 p3 p4 k s n) (K2 k) none:=by kernel_rfl
theorem el80 {R:Type} (B:Ops) (c77:C77) (p0:L94) (p1:L98) (p2:L103) (p3 p4:L3) (k:AV→Objs→Option R) (n:Nat):∀ s,A80 B c77 p0 p1 p2 p3 p4 k s (n+1)=T80 B c77 p0 p1 p2 p3 p4 (fun s=>A80 B c77 p0 p1 p2 p3 p4 k s n) (K2 k) (some s):=by
 intro s
 cases s<;>kernel_rfl
theorem nt80 {R R':Type} (B:Ops) (c77:C77) (p0:L94) (p1:L98) (p2:L103) (p3 p4:L3) (again:S80→Option R) (again':S80→Option R') (k0:(Bool)→Option R') (k:R'→Option R) (h:∀ s,again s=ob (again' s) k):∀ s,T80 B c77 p0 p1 p2 p3 p4 again (fun y=>ob (k0 y) k) s=ob (T80 B c77 p0 p1 p2 p3 p4 again' k0 s) k:=by
 rintro (_ | x)
 all_goals try cases x
 all_goals (unfold T80;repeat' first | exact rfl | exact h _ | apply qad | (apply qaj;intro))
def R80 (c77:C77) (p0:L94) (p1:L98) (p2:L103) (p3 p4:L3):Nat→S80→Option (Bool)
 | 0,_=>none
 | n+1,s=>T80 Ops.std c77 p0 p1 p2 p3 p4 (R80 c77 p0 p1 p2 p3 p4 n) some (some s)
theorem rr80 {R:Type} (c77:C77) (p0:L94) (p1:L98) (p2:L103) (p3 p4:L3) (k:AV→Objs→Option R):∀ (n:Nat) (s:S80),A80 Ops.std c77 p0 p1 p2 p3 p4 k s n=ob (R80 c77 p0 p1 p2 p3 p4 n s) (K2 k)
 | 0,s=>by cases s<;>rfl
 | n+1,s=>by rw [el80];exact nt80 Ops.std c77 p0 p1 p2 p3 p4 _ _ some (K2 k) (rr80 c77 p0 p1 p2 p3 p4 k n) (some s)
def F80 (c77:C77) (p0:L94) (p1:L98) (p2:L103) (p3 p4:L3):Option (Bool):=T80 Ops.std c77 p0 p1 p2 p3 p4 (R80 c77 p0 p1 p2 p3 p4 1000000) some none
abbrev C80:Type:=L94→L98→L103→L3→L3→Option (Bool)
def e80 {R:Type} (c:C80):Ent R:=eG [.aG [.cL 94 ty94,.cL 98 ty98,.cL 103 ty103],.aG [.cL 3 ty3,.cL 3 ty3]] [] fun v k=>ob (c v.1 v.2.1 v.2.2.1 v.2.2.2.1 v.2.2.2.2.1) (K2 k)
abbrev Sp80 (c:C80):Prop:=∀ (p0:L94) (p1:L98) (p2:L103) (p3 p4:L3) (y:Bool),c p0 p1 p2 p3 p4=some y→Spec Tryz.prog gl0 80 [.agg [.list 94 ty94 p0,.list 98 ty98 p1,.list 103 ty103 p2],.agg [.list 3 ty3 p3,.list 3 ty3 p4]] [] (.c (.bool y)) []
theorem ek80 {R:Type} {c:C80} (hs:Sp80 c):EOk 80 (e80 (R:=R) c):=qal fun v=>hs v.1 v.2.1 v.2.2.1 v.2.2.2.1 v.2.2.2.2.1
theorem sf80 {c77:C77} (h77:Sp77 c77):Sp80 (F80 c77):=fun p0 p1 p2 p3 p4 y hy=>by
 refine qai (qac (ek77 h77) qah) 1000000 (fn:=Tryz.f80) (by kernel_rfl) (by kernel_rfl) (X:=X80) (by kernel_rfl) ?_
 rw [eq80]
 exact (nt80 Ops.std c77 p0 p1 p2 p3 p4 _ _ some (K2 k0) (rr80 c77 p0 p1 p2 p3 p4 k0 1000000) none).trans (by show ob (F80 c77 p0 p1 p2 p3 p4) _=_;rw [hy];rfl)
noncomputable def M80:C80:=F80 M77
theorem sm80:Sp80 M80:=sf80 sm77
def X79:Aux:=⟨[],[]⟩
def T79 {R:Type} (B:Ops) (c80:C80) (p0 p1 p2:L3) (p3:L94) (p4:L98) (p5:L103) (k:(Bool×L94×L98×L103)→Option R):Option R:=ob (c80 p3 p4 p5 p0 p1) fun y0=>k (!y0,p3,p4,p5)
theorem eq79 {R:Type} (B:Ops) (c80:C80) (p0 p1 p2:L3) (p3:L94) (p4:L98) (p5:L103) (k:AV→Objs→Option R) (n:Nat):afun tau B gl0 X79 (ent 80 (e80 c80) gnil) ow Tryz.f79 [.agg [.list 3 ty3 p0,.list 3 ty3 p1,.list 3 ty3 p2],.c (.ptr 1 0)] [(1,.box 31 [.list 94 ty94 p3,.list 98 ty98 p4,.list 103 ty103 p5])] k n=T79 B c80 p0 p1 p2 p3 p4 p5 (K10 k):=by kernel_rfl
theorem nt79 {R R':Type} (B:Ops) (c80:C80) (p0 p1 p2:L3) (p3:L94) (p4:L98) (p5:L103) (k0:(Bool×L94×L98×L103)→Option R') (k:R'→Option R):T79 B c80 p0 p1 p2 p3 p4 p5 (fun y=>ob (k0 y) k)=ob (T79 B c80 p0 p1 p2 p3 p4 p5 k0) k:=by
 unfold T79
 repeat' first | exact rfl | apply qad | (apply qaj;intro)
def F79 (c80:C80) (p0 p1 p2:L3) (p3:L94) (p4:L98) (p5:L103):Option (Bool×L94×L98×L103):=T79 Ops.std c80 p0 p1 p2 p3 p4 p5 some
abbrev C79:Type:=L3→L3→L3→L94→L98→L103→Option (Bool×L94×L98×L103)
def e79 {R:Type} (c:C79):Ent R:=eG [.aG [.cL 3 ty3,.cL 3 ty3,.cL 3 ty3],.aC (.cP 1)] [.oB 1 31 [.cL 94 ty94,.cL 98 ty98,.cL 103 ty103]] fun v k=>ob (c v.1 v.2.1 v.2.2.1 v.2.2.2.1 v.2.2.2.2.1 v.2.2.2.2.2.1) (K10 k)
abbrev Sp79 (c:C79):Prop:=∀ (p0 p1 p2:L3) (p3:L94) (p4:L98) (p5:L103) (y:Bool×L94×L98×L103),c p0 p1 p2 p3 p4 p5=some y→Spec Tryz.prog gl0 79 [.agg [.list 3 ty3 p0,.list 3 ty3 p1,.list 3 ty3 p2],.c (.ptr 1 0)] [(1,.box 31 [.list 94 ty94 p3,.list 98 ty98 p4,.list 103 ty103 p5])] (.c (.bool y.1)) [(1,.box 31 [.list 94 ty94 y.2.1,.list 98 ty98 y.2.2.1,.list 103 ty103 y.2.2.2])]
theorem ek79 {R:Type} {c:C79} (hs:Sp79 c):EOk 79 (e79 (R:=R) c):=qal fun v=>hs v.1 v.2.1 v.2.2.1 v.2.2.2.1 v.2.2.2.2.1 v.2.2.2.2.2.1
theorem sf79 {c80:C80} (h80:Sp80 c80):Sp79 (F79 c80):=fun p0 p1 p2 p3 p4 p5 y hy=>by
 refine qai (qac (ek80 h80) qah) 1000000 (fn:=Tryz.f79) (by kernel_rfl) (by kernel_rfl) (X:=X79) (by kernel_rfl) ?_
 rw [eq79]
 exact (nt79 Ops.std c80 p0 p1 p2 p3 p4 p5 some (K10 k0)).trans (by show ob (F79 c80 p0 p1 p2 p3 p4 p5) _=_;rw [hy];rfl)
noncomputable def M79:C79:=F79 M80
theorem sm79:Sp79 M79:=sf79 sm80
def X138:Aux:=⟨[(2,([2,3,4,5,6]++rg 9 10))],[]⟩
inductive S138 where
 | l0 (v1 v2:Int) (v3:L94) (v4:L98) (v5:L103)
def T138 {R:Type} (B:Ops) (c79:C79) (p0:L68) (p1:L94) (p2:L98) (p3:L103) (again:S138→Option R) (k:(Int×L94×L98×L103)→Option R):Option S138→Option R | none=>again (.l0 (↑p0.length) 0 p1 p2 p3) | some (.l0 v1 v2 v3 v4 v5)=>cond (B.lt v2 v1) (cond (B.inb v2 p0.length) (ob (c79 ((p0.getD v2.toNat ty68.dflt).1).1 ((p0.getD v2.toNat ty68.dflt).1).2 (p0.getD v2.toNat ty68.dflt).2 v3 v4 v5) fun y0=>cond y0.1 (k (v2,y0.2.1,y0.2.2.1,y0.2.2.2)) (again (.l0 v1 (IntKind.wrap .i64 (v2+1)) y0.2.1 y0.2.2.1 y0.2.2.2))) none) (k (-1,v3,v4,v5))
def E138 (p0:L68) (p1:L94) (p2:L98) (p3:L103):S138→List AV×Objs
 | .l0 v1 v2 v3 v4 v5=>(mk 19 [(0,.c (.list 68 ty68 p0)),(1,.fn 79 [.ptr 2500 0]),(7,.c (.int .i64 v1)),(8,.c (.int .i64 v2))],[(2500,.box 31 [.list 94 ty94 v3,.list 98 ty98 v4,.list 103 ty103 v5])])
def I138:S138→Nat
 | .l0 _ _ _ _ _=>0
noncomputable abbrev A138 {R:Type} (B:Ops) (c79:C79) (p0:L68) (p1:L94) (p2:L98) (p3:L103) (k:AV→Objs→Option R) (s:S138) (n:Nat):Option R:=aloop tau B gl0 X138 (ent 79 (e79 c79) gnil) ow [2500] Tryz.f138 k (I138 s) (E138 p0 p1 p2 p3 s) n
theorem eq138 {R:Type} (B:Ops) (c79:C79) (p0:L68) (p1:L94) (p2:L98) (p3:L103) (k:AV→Objs→Option R) (n:Nat):afun tau B gl0 X138 (ent 79 (e79 c79) gnil) ow Tryz.f138 [.c (.list 68 ty68 p0),.fn 79 [.ptr 2500 0]] [(2500,.box 31 [.list 94 ty94 p1,.list 98 ty98 p2,.list 103 ty103 p3])] k n=T138 B c79 p0 p1 p2 p3 (fun s=>A138 B c79 p0 p1 p2 p3 k s n) (K11 k) none:=by kernel_rfl
theorem el138 {R:Type} (B:Ops) (c79:C79) (p0:L68) (p1:L94) (p2:L98) (p3:L103) (k:AV→Objs→Option R) (n:Nat):∀ s,A138 B c79 p0 p1 p2 p3 k s (n+1)=T138 B c79 p0 p1 p2 p3 (fun s=>A138 B c79 p0 p1 p2 p3 k s n) (K11 k) (some s):=by
 intro s
 cases s<;>kernel_rfl
theorem nt138 {R R':Type} (B:Ops) (c79:C79) (p0:L68) (p1:L94) (p2:L98) (p3:L103) (again:S138→Option R) (again':S138→Option R') (k0:(Int×L94×L98×L103)→Option R') (k:R'→Option R) (h:∀ s,again s=ob (again' s) k):∀ s,T138 B c79 p0 p1 p2 p3 again (fun y=>ob (k0 y) k) s=ob (T138 B c79 p0 p1 p2 p3 again' k0 s) k:=by
 rintro (_ | x)
 all_goals try cases x
 all_goals (unfold T138;repeat' first | exact rfl | exact h _ | apply qad | (apply qaj;intro))
def R138 (c79:C79) (p0:L68) (p1:L94) (p2:L98) (p3:L103):Nat→S138→Option (Int×L94×L98×L103)
 | 0,_=>none
 | n+1,s=>T138 Ops.std c79 p0 p1 p2 p3 (R138 c79 p0 p1 p2 p3 n) some (some s)
theorem rr138 {R:Type} (c79:C79) (p0:L68) (p1:L94) (p2:L98) (p3:L103) (k:AV→Objs→Option R):∀ (n:Nat) (s:S138),A138 Ops.std c79 p0 p1 p2 p3 k s n=ob (R138 c79 p0 p1 p2 p3 n s) (K11 k)
 | 0,s=>by cases s<;>rfl
 | n+1,s=>by rw [el138];exact nt138 Ops.std c79 p0 p1 p2 p3 _ _ some (K11 k) (rr138 c79 p0 p1 p2 p3 k n) (some s)
def F138 (c79:C79) (p0:L68) (p1:L94) (p2:L98) (p3:L103):Option (Int×L94×L98×L103):=T138 Ops.std c79 p0 p1 p2 p3 (R138 c79 p0 p1 p2 p3 1000000) some none
abbrev C138:Type:=L68→L94→L98→L103→Option (Int×L94×L98×L103)
def e138 {R:Type} (c:C138):Ent R:=eG [.aC (.cL 68 ty68),.aF 79 [.cP 2500]] [.oB 2500 31 [.cL 94 ty94,.cL 98 ty98,.cL 103 ty103]] fun v k=>ob (c v.1 v.2.1 v.2.2.1 v.2.2.2.1) (K11 k)
abbrev Sp138 (c:C138):Prop:=∀ (p0:L68) (p1:L94) (p2:L98) (p3:L103) (y:Int×L94×L98×L103),c p0 p1 p2 p3=some y→Spec Tryz.prog gl0 138 [.c (.list 68 ty68 p0),.fn 79 [.ptr 2500 0]] [(2500,.box 31 [.list 94 ty94 p1,.list 98 ty98 p2,.list 103 ty103 p3])] (.c (.int .i64 y.1)) [(2500,.box 31 [.list 94 ty94 y.2.1,.list 98 ty98 y.2.2.1,.list 103 ty103 y.2.2.2])]
theorem ek138 {R:Type} {c:C138} (hs:Sp138 c):EOk 138 (e138 (R:=R) c):=qal fun v=>hs v.1 v.2.1 v.2.2.1 v.2.2.2.1
theorem sf138 {c79:C79} (h79:Sp79 c79):Sp138 (F138 c79):=fun p0 p1 p2 p3 y hy=>by
 refine qai (qac (ek79 h79) qah) 1000000 (fn:=Tryz.f138) (by kernel_rfl) (by kernel_rfl) (X:=X138) (by kernel_rfl) ?_
 rw [eq138]
 exact (nt138 Ops.std c79 p0 p1 p2 p3 _ _ some (K11 k0) (rr138 c79 p0 p1 p2 p3 k0 1000000) none).trans (by show ob (F138 c79 p0 p1 p2 p3) _=_;rw [hy];rfl)
noncomputable def M138:C138:=F138 M79
theorem sm138:Sp138 M138:=sf138 sm79
def X78:Aux:=⟨[],[]⟩
def T78 {R:Type} (B:Ops) (c138:C138) (c79:C79) (p0:L68) (p1:L94) (p2:L98) (p3:L103) (k:(Bool×L94×L98×L103)→Option R):Option R:=ob (c138 p0 p1 p2 p3) fun y0=>k (B.le 0 y0.1,y0.2.1,y0.2.2.1,y0.2.2.2)
theorem eq78 {R:Type} (B:Ops) (c138:C138) (c79:C79) (p0:L68) (p1:L94) (p2:L98) (p3:L103) (k:AV→Objs→Option R) (n:Nat):afun tau B gl0 X78 (ent 138 (e138 c138) (ent 79 (e79 c79) gnil)) ow Tryz.f78 [.c (.list 68 ty68 p0),.fn 79 [.ptr 2500 0]] [(2500,.box 31 [.list 94 ty94 p1,.list 98 ty98 p2,.list 103 ty103 p3])] k n=T78 B c138 c79 p0 p1 p2 p3 (K12 k):=by kernel_rfl
theorem nt78 {R R':Type} (B:Ops) (c138:C138) (c79:C79) (p0:L68) (p1:L94) (p2:L98) (p3:L103) (k0:(Bool×L94×L98×L103)→Option R') (k:R'→Option R):T78 B c138 c79 p0 p1 p2 p3 (fun y=>ob (k0 y) k)=ob (T78 B c138 c79 p0 p1 p2 p3 k0) k:=by
 unfold T78
 repeat' first | exact rfl | apply qad | (apply qaj;intro)
def F78 (c138:C138) (c79:C79) (p0:L68) (p1:L94) (p2:L98) (p3:L103):Option (Bool×L94×L98×L103):=T78 Ops.std c138 c79 p0 p1 p2 p3 some
abbrev C78:Type:=L68→L94→L98→L103→Option (Bool×L94×L98×L103)
def e78 {R:Type} (c:C78):Ent R:=eG [.aC (.cL 68 ty68),.aF 79 [.cP 2500]] [.oB 2500 31 [.cL 94 ty94,.cL 98 ty98,.cL 103 ty103]] fun v k=>ob (c v.1 v.2.1 v.2.2.1 v.2.2.2.1) (K12 k)
abbrev Sp78 (c:C78):Prop:=∀ (p0:L68) (p1:L94) (p2:L98) (p3:L103) (y:Bool×L94×L98×L103),c p0 p1 p2 p3=some y→Spec Tryz.prog gl0 78 [.c (.list 68 ty68 p0),.fn 79 [.ptr 2500 0]] [(2500,.box 31 [.list 94 ty94 p1,.list 98 ty98 p2,.list 103 ty103 p3])] (.c (.bool y.1)) [(2500,.box 31 [.list 94 ty94 y.2.1,.list 98 ty98 y.2.2.1,.list 103 ty103 y.2.2.2])]
theorem ek78 {R:Type} {c:C78} (hs:Sp78 c):EOk 78 (e78 (R:=R) c):=qal fun v=>hs v.1 v.2.1 v.2.2.1 v.2.2.2.1
theorem sf78 {c138:C138} {c79:C79} (h138:Sp138 c138) (h79:Sp79 c79):Sp78 (F78 c138 c79):=fun p0 p1 p2 p3 y hy=>by
 refine qai (qac (ek138 h138) (qac (ek79 h79) qah)) 1000000 (fn:=Tryz.f78) (by kernel_rfl) (by kernel_rfl) (X:=X78) (by kernel_rfl) ?_
 rw [eq78]
 exact (nt78 Ops.std c138 c79 p0 p1 p2 p3 some (K12 k0)).trans (by show ob (F78 c138 c79 p0 p1 p2 p3) _=_;rw [hy];rfl)
noncomputable def M78:C78:=F78 M138 M79
theorem sm78:Sp78 M78:=sf78 sm138 sm79
def X41:Aux:=⟨[],[]⟩
def T41 {R:Type} (B:Ops) (c77:C77) (c75:C75) (c79:C79) (c78:C78) (p0:L94) (p1:L98) (p2:L103) (p3 p4:L68) (k:(Bool)→Option R):Option R:=ob (c77 p0 p1 p2) fun y0=>cond (!y0) (k false) (cond (B.lt (↑p4.length) 1) (k false) (cond (B.lt 2000 (IntKind.wrap .i64 (Nat.cast p3.length+Nat.cast p4.length))) (k false) (ob (c75 (p3::p4::mt (Ty.den ty39))) fun y1=>ob (c78 y1 p0 p1 p2) fun y2=>k (!y2.1))))
theorem eq41 {R:Type} (B:Ops) (c77:C77) (c75:C75) (c79:C79) (c78:C78) (p0:L94) (p1:L98) (p2:L103) (p3 p4:L68) (k:AV→Objs→Option R) (n:Nat):afun tau B gl0 X41 (ent 77 (e77 c77) (ent 75 (e75 c75) (ent 79 (e79 c79) (ent 78 (e78 c78) gnil)))) ow Tryz.f41 [.agg [.list 94 ty94 p0,.list 98 ty98 p1,.list 103 ty103 p2],.agg [.list 68 ty68 p3,.list 68 ty68 p4]] [] k n=T41 B c77 c75 c79 c78 p0 p1 p2 p3 p4 (K2 k):=by kernel_rfl
theorem nt41 {R R':Type} (B:Ops) (c77:C77) (c75:C75) (c79:C79) (c78:C78) (p0:L94) (p1:L98) (p2:L103) (p3 p4:L68) (k0:(Bool)→Option R') (k:R'→Option R):T41 B c77 c75 c79 c78 p0 p1 p2 p3 p4 (fun y=>ob (k0 y) k)=ob (T41 B c77 c75 c79 c78 p0 p1 p2 p3 p4 k0) k:=by
 unfold T41
 repeat' first | exact rfl | apply qad | (apply qaj;intro)
def F41 (c77:C77) (c75:C75) (c79:C79) (c78:C78) (p0:L94) (p1:L98) (p2:L103) (p3 p4:L68):Option (Bool):=T41 Ops.std c77 c75 c79 c78 p0 p1 p2 p3 p4 some
abbrev C41:Type:=L94→L98→L103→L68→L68→Option (Bool)
def e41 {R:Type} (c:C41):Ent R:=eG [.aG [.cL 94 ty94,.cL 98 ty98,.cL 103 ty103],.aG [.cL 68 ty68,.cL 68 ty68]] [] fun v k=>ob (c v.1 v.2.1 v.2.2.1 v.2.2.2.1 v.2.2.2.2.1) (K2 k)
abbrev Sp41 (c:C41):Prop:=∀ (p0:L94) (p1:L98) (p2:L103) (p3 p4:L68) (y:Bool),c p0 p1 p2 p3 p4=some y→Spec Tryz.prog gl0 41 [.agg [.list 94 ty94 p0,.list 98 ty98 p1,.list 103 ty103 p2],.agg [.list 68 ty68 p3,.list 68 ty68 p4]] [] (.c (.bool y)) []
theorem ek41 {R:Type} {c:C41} (hs:Sp41 c):EOk 41 (e41 (R:=R) c):=qal fun v=>hs v.1 v.2.1 v.2.2.1 v.2.2.2.1 v.2.2.2.2.1
theorem sf41 {c77:C77} {c75:C75} {c79:C79} {c78:C78} (h77:Sp77 c77) (h75:Sp75 c75) (h79:Sp79 c79) (h78:Sp78 c78):Sp41 (F41 c77 c75 c79 c78):=fun p0 p1 p2 p3 p4 y hy=>by
 refine qai (qac (ek77 h77) (qac (ek75 h75) (qac (ek79 h79) (qac (ek78 h78) qah)))) 1000000 (fn:=Tryz.f41) (by kernel_rfl) (by kernel_rfl) (X:=X41) (by kernel_rfl) ?_
 rw [eq41]
 exact (nt41 Ops.std c77 c75 c79 c78 p0 p1 p2 p3 p4 some (K2 k0)).trans (by show ob (F41 c77 c75 c79 c78 p0 p1 p2 p3 p4) _=_;rw [hy];rfl)
noncomputable def M41:C41:=F41 M77 M75 M79 M78
theorem sm41:Sp41 M41:=sf41 sm77 sm75 sm79 sm78
def X40:Aux:=⟨[(6,([0,2,3,4,5,6]++rg 9 27++rg 39 30)),(10,([0,2,3,4,5,6,10]++rg 12 24++[39,40,41,42]++rg 46 23))],[(3,.seq [0,1,2,3,4,7,8,9] (.alt (.seq [5] (.alt (.lin [6,10,11,12]) (.lin [11,6,10,12]))) (.lin [11,5,6,10,12]))),(14,.lin (rg 0 11))]⟩
inductive S40 where
 | l0 (v1 v2 v6:Int) (v7:L47) (v8:L22) (v9:L68)
 | l1 (v1 v2 v3:Int) (v4:L3) (v5 v6 v10:Int) (v11 v12:L47) (v13:L22) (v14:L68)
def T40 {R:Type} (B:Ops) (c67:C67) (c41:C41) (c75:C75) (c52:C52) (c76:C76) (p0:L94) (p1:L98) (p2:L103) (p3:L66) (p4 p5:L68) (again:S40→Option R) (k:(L47)→Option R):Option S40→Option R | none=>ob (c67 p0 p1 p2 p3) fun y0=>cond (!y0) (k (mt (Ty.den ty47))) (ob (c41 p0 p1 p2 p4 p5) fun y1=>cond (!y1) (k (mt (Ty.den ty47))) (ob (c75 (p4::p5::mt (Ty.den ty39))) fun y2=>ob (c52 p3) fun y3=>again (.l0 (↑y3.length) 0 (↑p4.length) (mt (Ty.den ty47)) y3 y2))) | some (.l0 v1 v2 v6 v7 v8 v9)=>cond (B.lt v2 v1) (cond (B.inb v2 v8.length) (again (.l1 v2 v1 v2 (v8.getD v2.toNat ty22.dflt) (Nat.cast (List.length (v8.getD v2.toNat ty22.dflt))) 0 v6 v7 (mt (Ty.den ty47)) v8 v9)) none) (k v7) | some (.l1 v1 v2 v3 v4 v5 v6 v10 v11 v12 v13 v14)=>cond (B.lt v6 v5) (cond (B.inb v6 v4.length) (cond (B.inb (v4.getD v6.toNat ty3.dflt) v11.length) (cond (B.lim (List.length v12+List.length (v11.getD (Int.toNat (v4.getD v6.toNat ty3.dflt)) ty47.dflt::mt (Ty.den ty47))) 24) (again (.l1 v1 v2 v3 v4 v5 (IntKind.wrap .i64 (v6+1)) v10 v11 (v12++v11.getD (Int.toNat (v4.getD v6.toNat ty3.dflt)) ty47.dflt::mt (Ty.den ty47)) v13 v14)) none) none) none) (cond (B.inb v1 p3.length) (ob (c76 p0 p1 p2 v14 v10 (p3.getD v1.toNat ty66.dflt).1 (p3.getD v1.toNat ty66.dflt).2 v12) fun y0=>cond (B.lim (List.length v11+List.length (y0::mt (Ty.den ty47))) 24) (again (.l0 v2 (IntKind.wrap .i64 (v3+1)) v10 (v11++y0::mt (Ty.den ty47)) v13 v14)) none) none)
def E40 (p0:L94) (p1:L98) (p2:L103) (p3:L66) (p4 p5:L68):S40→List AV×Objs
 | .l0 v1 v2 v6 v7 v8 v9=>(mk 69 [(1,.c (.list 66 ty66 p3)),(7,.c (.ptr 7 0)),(8,.c (.own 8)),(36,.c (.own 36)),(37,.c (.int .i64 v1)),(38,.c (.int .i64 v2))],[(7,.box 117 [.list 94 ty94 p0,.list 98 ty98 p1,.list 103 ty103 p2,.own 8003,.int .i64 v6]),(8,.row 47 ty47 v7),(36,.row 22 ty22 v8),(8003,.row 68 ty68 v9)])
 | .l1 v1 v2 v3 v4 v5 v6 v10 v11 v12 v13 v14=>(mk 69 [(1,.c (.list 66 ty66 p3)),(7,.c (.ptr 7 0)),(8,.c (.own 8)),(9,.c (.int .i64 v1)),(11,.c (.own 11)),(36,.c (.own 36)),(37,.c (.int .i64 v2)),(38,.c (.int .i64 v3)),(43,.c (.list 3 ty3 v4)),(44,.c (.int .i64 v5)),(45,.c (.int .i64 v6))],[(7,.box 117 [.list 94 ty94 p0,.list 98 ty98 p1,.list 103 ty103 p2,.own 8003,.int .i64 v10]),(8,.row 47 ty47 v11),(11,.row 47 ty47 v12),(36,.row 22 ty22 v13),(8003,.row 68 ty68 v14)])
def I40:S40→Nat
 | .l0 _ _ _ _ _ _=>0
 | .l1 _ _ _ _ _ _ _ _ _ _ _=>1
noncomputable def Ta40 {R:Type} (B:Ops) (c67:C67) (c41:C41) (c75:C75) (c52:C52) (c76:C76) (p0:L94) (p1:L98) (p2:L103) (p3:L66) (p4 p5:L68) (again:S40→Option R) (k:(L47)→Option R):Option S40→Option R | none=>ob (c67 p0 p1 p2 p3) fun y0=>cond (!y0) (k (mt (Ty.den ty47))) (ob (c41 p0 p1 p2 p4 p5) fun y1=>cond (!y1) (k (mt (Ty.den ty47))) (agree (agree (ob (c75 (p4::p5::mt (Ty.den ty39))) fun y2=>ob (c52 p3) fun y3=>again (.l0 (Nat.cast (List.length y3)) 0 (Nat.cast (List.length p4)) (mt (Ty.den ty47)) y3 y2)) (ob (c75 (p4::p5::mt (Ty.den ty39))) fun y2=>ob (c52 p3) fun y3=>again (.l0 (Nat.cast (List.length y3)) 0 (Nat.cast (List.length p4)) (mt (Ty.den ty47)) y3 y2))) (ob (c75 (p4::p5::mt (Ty.den ty39))) fun y2=>ob (c52 p3) fun y3=>again (.l0 (Nat.cast (List.length y3)) 0 (Nat.cast (List.length p4)) (mt (Ty.den ty47)) y3 y2)))) | some (.l0 v1 v2 v6 v7 v8 v9)=>cond (Ops.lt B v2 v1) (cond (Ops.inb B v2 (List.length v8)) (again (.l1 v2 v1 v2 (List.getD v8 (Int.toNat v2) (Ty.dflt ty22)) (Nat.cast (List.length (List.getD v8 (Int.toNat v2) (Ty.dflt ty22)))) 0 v6 v7 (mt (Ty.den ty47)) v8 v9)) none) (k v7) | some (.l1 v1 v2 v3 v4 v5 v6 v10 v11 v12 v13 v14)=>cond (Ops.lt B v6 v5) (cond (Ops.inb B v6 (List.length v4)) (cond (Ops.inb B (List.getD v4 (Int.toNat v6) (Ty.dflt ty3)) (List.length v11)) (cond (Ops.lim B (List.length v12+List.length (List.getD v11 (Int.toNat (List.getD v4 (Int.toNat v6) (Ty.dflt ty3))) (Ty.dflt ty47)::mt (Ty.den ty47))) 24) (again (.l1 v1 v2 v3 v4 v5 (IntKind.wrap .i64 (v6+1)) v10 v11 (v12++List.getD v11 (Int.toNat (List.getD v4 (Int.toNat v6) (Ty.dflt ty3))) (Ty.dflt ty47)::mt (Ty.den ty47)) v13 v14)) none) none) none) (cond (Ops.inb B v1 (List.length p3)) (ob (c76 p0 p1 p2 v14 v10 (List.getD p3 (Int.toNat v1) (Ty.dflt ty66)).1 (List.getD p3 (Int.toNat v1) (Ty.dflt ty66)).2 v12) fun y0=>cond (Ops.lim B (List.length v11+List.length (y0::mt (Ty.den ty47))) 24) (again (.l0 v2 (IntKind.wrap .i64 (v3+1)) v10 (v11++y0::mt (Ty.den ty47)) v13 v14)) none) none)
theorem ta40 {R:Type} (B:Ops) (c67:C67) (c41:C41) (c75:C75) (c52:C52) (c76:C76) (p0:L94) (p1:L98) (p2:L103) (p3:L66) (p4 p5:L68) (again:S40→Option R) (k:(L47)→Option R):∀ s,Ta40 B c67 c41 c75 c52 c76 p0 p1 p2 p3 p4 p5 again k s=T40 B c67 c41 c75 c52 c76 p0 p1 p2 p3 p4 p5 again k s
 | none=>by unfold Ta40 T40;simp only [qdg]
 | some (.l0 v1 v2 v6 v7 v8 v9)=>by unfold Ta40 T40;simp only [qdg]
 | some (.l1 v1 v2 v3 v4 v5 v6 v10 v11 v12 v13 v14)=>by unfold Ta40 T40;simp only [qdg]
noncomputable abbrev A40 {R:Type} (B:Ops) (c67:C67) (c41:C41) (c75:C75) (c52:C52) (c76:C76) (p0:L94) (p1:L98) (p2:L103) (p3:L66) (p4 p5:L68) (k:AV→Objs→Option R) (s:S40) (n:Nat):Option R:=aloop tau B gl0 X40 (ent 67 (e67 c67) (ent 41 (e41 c41) (ent 75 (e75 c75) (ent 52 (e52 c52) (ent 76 (e76 c76) gnil))))) ow [] Tryz.f40 k (I40 s) (E40 p0 p1 p2 p3 p4 p5 s) n
theorem eq40 {R:Type} (B:Ops) (c67:C67) (c41:C41) (c75:C75) (c52:C52) (c76:C76) (p0:L94) (p1:L98) (p2:L103) (p3:L66) (p4 p5:L68) (k:AV→Objs→Option R) (n:Nat):afun tau B gl0 X40 (ent 67 (e67 c67) (ent 41 (e41 c41) (ent 75 (e75 c75) (ent 52 (e52 c52) (ent 76 (e76 c76) gnil))))) ow Tryz.f40 [.agg [.list 94 ty94 p0,.list 98 ty98 p1,.list 103 ty103 p2],.c (.list 66 ty66 p3),.agg [.list 68 ty68 p4,.list 68 ty68 p5]] [] k n=T40 B c67 c41 c75 c52 c76 p0 p1 p2 p3 p4 p5 (fun s=>A40 B c67 c41 c75 c52 c76 p0 p1 p2 p3 p4 p5 k s n) (K36 k) none:=by rw [←ta40];kernel_rfl
theorem el40 {R:Type} (B:Ops) (c67:C67) (c41:C41) (c75:C75) (c52:C52) (c76:C76) (p0:L94) (p1:L98) (p2:L103) (p3:L66) (p4 p5:L68) (k:AV→Objs→Option R) (n:Nat):∀ s,A40 B c67 c41 c75 c52 c76 p0 p1 p2 p3 p4 p5 k s (n+1)=T40 B c67 c41 c75 c52 c76 p0 p1 p2 p3 p4 p5 (fun s=>A40 B c67 c41 c75 c52 c76 p0 p1 p2 p3 p4 p5 k s n) (K36 k) (some s)
 | .l0 v1 v2 v6 v7 v8 v9=>by rw [←ta40];kernel_rfl
 | .l1 v1 v2 v3 v4 v5 v6 v10 v11 v12 v13 v14=>by rw [←ta40];kernel_rfl
theorem nt40 {R R':Type} (B:Ops) (c67:C67) (c41:C41) (c75:C75) (c52:C52) (c76:C76) (p0:L94) (p1:L98) (p2:L103) (p3:L66) (p4 p5:L68) (again:S40→Option R) (again':S40→Option R') (k0:(L47)→Option R') (k:R'→Option R) (h:∀ s,again s=ob (again' s) k):∀ s,T40 B c67 c41 c75 c52 c76 p0 p1 p2 p3 p4 p5 again (fun y=>ob (k0 y) k) s=ob (T40 B c67 c41 c75 c52 c76 p0 p1 p2 p3 p4 p5 again' k0 s) k:=by
 rintro (_ | x)
 all_goals try cases x
 all_goals (unfold T40;repeat' first | exact rfl | exact h _ | apply qad | (apply qaj;intro))
def R40 (c67:C67) (c41:C41) (c75:C75) (c52:C52) (c76:C76) (p0:L94) (p1:L98) (p2:L103) (p3:L66) (p4 p5:L68):Nat→S40→Option (L47)
 | 0,_=>none
 | n+1,s=>T40 Ops.std c67 c41 c75 c52 c76 p0 p1 p2 p3 p4 p5 (R40 c67 c41 c75 c52 c76 p0 p1 p2 p3 p4 p5 n) some (some s)
theorem rr40 {R:Type} (c67:C67) (c41:C41) (c75:C75) (c52:C52) (c76:C76) (p0:L94) (p1:L98) (p2:L103) (p3:L66) (p4 p5:L68) (k:AV→Objs→Option R):∀ (n:Nat) (s:S40),A40 Ops.std c67 c41 c75 c52 c76 p0 p1 p2 p3 p4 p5 k s n=ob (R40 c67 c41 c75 c52 c76 p0 p1 p2 p3 p4 p5 n s) (K36 k)
 | 0,s=>by cases s<;>rfl
 | n+1,s=>by rw [el40];exact nt40 Ops.std c67 c41 c75 c52 c76 p0 p1 p2 p3 p4 p5 _ _ some (K36 k) (rr40 c67 c41 c75 c52 c76 p0 p1 p2 p3 p4 p5 k n) (some s)
def F40 (c67:C67) (c41:C41) (c75:C75) (c52:C52) (c76:C76) (p0:L94) (p1:L98) (p2:L103) (p3:L66) (p4 p5:L68):Option (L47):=T40 Ops.std c67 c41 c75 c52 c76 p0 p1 p2 p3 p4 p5 (R40 c67 c41 c75 c52 c76 p0 p1 p2 p3 p4 p5 1000000) some none
abbrev C40:Type:=L94→L98→L103→L66→L68→L68→Option (L47)
def e40 {R:Type} (c:C40):Ent R:=eG [.aG [.cL 94 ty94,.cL 98 ty98,.cL 103 ty103],.aC (.cL 66 ty66),.aG [.cL 68 ty68,.cL 68 ty68]] [] fun v k=>ob (c v.1 v.2.1 v.2.2.1 v.2.2.2.1 v.2.2.2.2.1 v.2.2.2.2.2.1) (K36 k)
abbrev Sp40 (c:C40):Prop:=∀ (p0:L94) (p1:L98) (p2:L103) (p3:L66) (p4 p5:L68) (y:L47),c p0 p1 p2 p3 p4 p5=some y→Spec Tryz.prog gl0 40 [.agg [.list 94 ty94 p0,.list 98 ty98 p1,.list 103 ty103 p2],.c (.list 66 ty66 p3),.agg [.list 68 ty68 p4,.list 68 ty68 p5]] [] (.c (.own 500)) [(500,.row 47 ty47 y)]
theorem ek40 {R:Type} {c:C40} (hs:Sp40 c):EOk 40 (e40 (R:=R) c):=qal fun v=>hs v.1 v.2.1 v.2.2.1 v.2.2.2.1 v.2.2.2.2.1 v.2.2.2.2.2.1
theorem sf40 {c67:C67} {c41:C41} {c75:C75} {c52:C52} {c76:C76} (h67:Sp67 c67) (h41:Sp41 c41) (h75:Sp75 c75) (h52:Sp52 c52) (h76:Sp76 c76):Sp40 (F40 c67 c41 c75 c52 c76):=fun p0 p1 p2 p3 p4 p5 y hy=>by
 refine qai (qac (ek67 h67) (qac (ek41 h41) (qac (ek75 h75) (qac (ek52 h52) (qac (ek76 h76) qah))))) 1000000 (fn:=Tryz.f40) (by kernel_rfl) (by kernel_rfl) (X:=X40) (by kernel_rfl) ?_
 rw [eq40]
 exact (nt40 Ops.std c67 c41 c75 c52 c76 p0 p1 p2 p3 p4 p5 _ _ some (K36 k0) (rr40 c67 c41 c75 c52 c76 p0 p1 p2 p3 p4 p5 k0 1000000) none).trans (by show ob (F40 c67 c41 c75 c52 c76 p0 p1 p2 p3 p4 p5) _=_;rw [hy];rfl)
noncomputable def M40:C40:=F40 M67 M41 M75 M52 M76
theorem sm40:Sp40 M40:=sf40 sm67 sm41 sm75 sm52 sm76
def X43:Aux:=⟨[],[]⟩
def T43 {R:Type} (B:Ops) (c40:C40) (p0:L94) (p1:L98) (p2:L103) (p3:L66) (p4 p5:L68) (k:(Bool)→Option R):Option R:=ob (c40 p0 p1 p2 p3 p4 p5) fun y0=>cond (B.lt 0 (↑y0.length)) (cond (B.inb (IntKind.wrap .i64 (Nat.cast y0.length-1)) y0.length) (cond (B.inb 0 (List.length (y0.getD (Int.toNat (IntKind.wrap .i64 (Nat.cast y0.length-1))) ty47.dflt))) (k (List.getD (y0.getD (Int.toNat (IntKind.wrap .i64 (Nat.cast y0.length-1))) ty47.dflt) (Int.toNat 0) (Ty.dflt Ty.bool))) none) none) (k false)
theorem eq43 {R:Type} (B:Ops) (c40:C40) (p0:L94) (p1:L98) (p2:L103) (p3:L66) (p4 p5:L68) (k:AV→Objs→Option R) (n:Nat):afun tau B gl0 X43 (ent 40 (e40 c40) gnil) ow Tryz.f43 [.agg [.list 94 ty94 p0,.list 98 ty98 p1,.list 103 ty103 p2],.c (.list 66 ty66 p3),.agg [.list 68 ty68 p4,.list 68 ty68 p5]] [] k n=T43 B c40 p0 p1 p2 p3 p4 p5 (K2 k):=by kernel_rfl
theorem nt43 {R R':Type} (B:Ops) (c40:C40) (p0:L94) (p1:L98) (p2:L103) (p3:L66) (p4 p5:L68) (k0:(Bool)→Option R') (k:R'→Option R):T43 B c40 p0 p1 p2 p3 p4 p5 (fun y=>ob (k0 y) k)=ob (T43 B c40 p0 p1 p2 p3 p4 p5 k0) k:=by
 unfold T43
 repeat' first | exact rfl | apply qad | (apply qaj;intro)
def F43 (c40:C40) (p0:L94) (p1:L98) (p2:L103) (p3:L66) (p4 p5:L68):Option (Bool):=T43 Ops.std c40 p0 p1 p2 p3 p4 p5 some
abbrev C43:Type:=L94→L98→L103→L66→L68→L68→Option (Bool)
def e43 {R:Type} (c:C43):Ent R:=eG [.aG [.cL 94 ty94,.cL 98 ty98,.cL 103 ty103],.aC (.cL 66 ty66),.aG [.cL 68 ty68,.cL 68 ty68]] [] fun v k=>ob (c v.1 v.2.1 v.2.2.1 v.2.2.2.1 v.2.2.2.2.1 v.2.2.2.2.2.1) (K2 k)
abbrev Sp43 (c:C43):Prop:=∀ (p0:L94) (p1:L98) (p2:L103) (p3:L66) (p4 p5:L68) (y:Bool),c p0 p1 p2 p3 p4 p5=some y→Spec Tryz.prog gl0 43 [.agg [.list 94 ty94 p0,.list 98 ty98 p1,.list 103 ty103 p2],.c (.list 66 ty66 p3),.agg [.list 68 ty68 p4,.list 68 ty68 p5]] [] (.c (.bool y)) []
theorem ek43 {R:Type} {c:C43} (hs:Sp43 c):EOk 43 (e43 (R:=R) c):=qal fun v=>hs v.1 v.2.1 v.2.2.1 v.2.2.2.1 v.2.2.2.2.1 v.2.2.2.2.2.1
theorem sf43 {c40:C40} (h40:Sp40 c40):Sp43 (F43 c40):=fun p0 p1 p2 p3 p4 p5 y hy=>by
 refine qai (qac (ek40 h40) qah) 1000000 (fn:=Tryz.f43) (by kernel_rfl) (by kernel_rfl) (X:=X43) (by kernel_rfl) ?_
 rw [eq43]
 exact (nt43 Ops.std c40 p0 p1 p2 p3 p4 p5 some (K2 k0)).trans (by show ob (F43 c40 p0 p1 p2 p3 p4 p5) _=_;rw [hy];rfl)
noncomputable def M43:C43:=F43 M40
theorem sm43:Sp43 M43:=sf43 sm40
def X74:Aux:=⟨[],[(2,.lin [0,1,3,2,4,5])]⟩
def T74 {R:Type} (B:Ops) (c123:C123) (c39:C39) (c43:C43) (p0:LB) (p1 p2:L3) (k:(Bool)→Option R):Option R:=ob (c123 p1 p2) fun y0=>ob (c39 p0) fun y1=>ob (c43 y0.1 y0.2.1 y0.2.2.1 y1 y0.2.2.2.1 y0.2.2.2.2) fun y2=>k y2
theorem eq74 {R:Type} (B:Ops) (c123:C123) (c39:C39) (c43:C43) (p0:LB) (p1 p2:L3) (k:AV→Objs→Option R) (n:Nat):afun tau B gl0 X74 (ent 123 (e123 c123) (ent 39 (e39 c39) (ent 43 (e43 c43) gnil))) ow Tryz.f74 [.c (.str p0),.c (.list 3 ty3 p1),.c (.list 3 ty3 p2)] [] k n=T74 B c123 c39 c43 p0 p1 p2 (K2 k):=by kernel_rfl
theorem nt74 {R R':Type} (B:Ops) (c123:C123) (c39:C39) (c43:C43) (p0:LB) (p1 p2:L3) (k0:(Bool)→Option R') (k:R'→Option R):T74 B c123 c39 c43 p0 p1 p2 (fun y=>ob (k0 y) k)=ob (T74 B c123 c39 c43 p0 p1 p2 k0) k:=by
 unfold T74
 repeat' first | exact rfl | apply qad | (apply qaj;intro)
def F74 (c123:C123) (c39:C39) (c43:C43) (p0:LB) (p1 p2:L3):Option (Bool):=T74 Ops.std c123 c39 c43 p0 p1 p2 some
abbrev C74:Type:=LB→L3→L3→Option (Bool)
def e74 {R:Type} (c:C74):Ent R:=eG [.aC .cS,.aC (.cL 3 ty3),.aC (.cL 3 ty3)] [] fun v k=>ob (c v.1 v.2.1 v.2.2.1) (K2 k)
abbrev Sp74 (c:C74):Prop:=∀ (p0:LB) (p1 p2:L3) (y:Bool),c p0 p1 p2=some y→Spec Tryz.prog gl0 74 [.c (.str p0),.c (.list 3 ty3 p1),.c (.list 3 ty3 p2)] [] (.c (.bool y)) []
theorem ek74 {R:Type} {c:C74} (hs:Sp74 c):EOk 74 (e74 (R:=R) c):=qal fun v=>hs v.1 v.2.1 v.2.2.1
theorem sf74 {c123:C123} {c39:C39} {c43:C43} (h123:Sp123 c123) (h39:Sp39 c39) (h43:Sp43 c43):Sp74 (F74 c123 c39 c43):=fun p0 p1 p2 y hy=>by
 refine qai (qac (ek123 h123) (qac (ek39 h39) (qac (ek43 h43) qah))) 1000000 (fn:=Tryz.f74) (by kernel_rfl) (by kernel_rfl) (X:=X74) (by kernel_rfl) ?_
 rw [eq74]
 exact (nt74 Ops.std c123 c39 c43 p0 p1 p2 some (K2 k0)).trans (by show ob (F74 c123 c39 c43 p0 p1 p2) _=_;rw [hy];rfl)
noncomputable def M74:C74:=F74 M123 M39 M43
theorem sm74:Sp74 M74:=sf74 sm123 sm39 sm43
def X38:Aux:=⟨[],[]⟩
def T38 {R:Type} (B:Ops) (c74:C74) (k:(Bool)→Option R):Option R:=ob (c74 ([71,32,70,32,91,120,61,61,49,93]:LB) (0::mt (Ty.den (Ty.int .i64))) (0::1::mt (Ty.den (Ty.int .i64)))) fun y0=>cond (y0) (ob (c74 ([70,32,71,32,91,120,61,61,49,93]:LB) (0::mt (Ty.den (Ty.int .i64))) (0::1::mt (Ty.den (Ty.int .i64)))) fun y1=>k (!y1)) (k false)
theorem eq38 {R:Type} (B:Ops) (c74:C74) (k:AV→Objs→Option R) (n:Nat):afun tau B gl0 X38 (ent 74 (e74 c74) gnil) ow Tryz.f38 [] [] k n=T38 B c74 (K2 k):=by kernel_rfl
theorem nt38 {R R':Type} (B:Ops) (c74:C74) (k0:(Bool)→Option R') (k:R'→Option R):T38 B c74 (fun y=>ob (k0 y) k)=ob (T38 B c74 k0) k:=by
 unfold T38
 repeat' first | exact rfl | apply qad | (apply qaj;intro)
def F38 (c74:C74):Option (Bool):=T38 Ops.std c74 some
abbrev C38:Type:=Option (Bool)
def e38 {R:Type} (c:C38):Ent R:=eG [] [] fun _ k=>ob c (K2 k)
abbrev Sp38 (c:C38):Prop:=∀ (y:Bool),c=some y→Spec Tryz.prog gl0 38 [] [] (.c (.bool y)) []
theorem ek38 {R:Type} {c:C38} (hs:Sp38 c):EOk 38 (e38 (R:=R) c):=qal fun _=>hs
theorem sf38 {c74:C74} (h74:Sp74 c74):Sp38 (F38 c74):=fun y hy=>by
 refine qai (qac (ek74 h74) qah) 1000000 (fn:=Tryz.f38) (by kernel_rfl) (by kernel_rfl) (X:=X38) (by kernel_rfl) ?_
 rw [eq38]
 exact (nt38 Ops.std c74 some (K2 k0)).trans (by show ob (F38 c74) _=_;rw [hy];rfl)
noncomputable def M38:C38:=F38 M74
theorem sm38:Sp38 M38:=sf38 sm74
def X7:Aux:=⟨[(15,(rg 0 14++rg 16 67++rg 85 39)),(20,(rg 0 14++rg 17 66++rg 85 17++rg 104 20)),(1000010,(rg 0 11++rg 14 110)),(1000014,(rg 0 14++rg 16 108))],[(12,.lin ([0,1,2,3,4,5,6,7,9,10,8,11,12,13,14,15,16,17,19,20,21,18,22,23,24])),(17,.lin (rg 0 11)),(22,.lin (rg 0 15))]⟩
inductive S7 where
 | l0 (v0 v1:Int) (v2 v3:L47)
 | l1 (v0 v1 v2 v3 v4:Int) (v5 v6:L47)
 | l1010 (v0:L94) (v1:L98) (v2:L103) (v3:L66) (v4 v5:L68)
 | l1014 (v0 v1:L47)
def T7 {R:Type} (B:Ops) (c38:C38) (c12:C12) (c15:C15) (c39:C39) (c20:C20) (c40:C40) (c21:C21) (c41:C41) (c42:C42) (c43:C43) (c44:C44) (p0:L3) (p1 p2:Int) (p3:L22) (p4 p5:L3) (p6:Int) (again:S7→Option R) (k:(Bool)→Option R):Option S7→Option R | none=>ob (c38) fun y0=>cond (!y0) (k false) (ob (c12 p1 p2 p3) fun y1=>ob (c15 p0) fun y2=>ob (c39 y2) fun y3=>ob (c20 y1.1 y1.2.1 y1.2.2 p4 p5) fun y4=>cond (B.eq 9 0) none (cond (B.eq (Int.tmod p6 9) 8) (cond (B.eq 11 0) none (cond (B.eq (Int.tmod p6 11) 10) (cond (B.lt 0 (Nat.cast (List.length y4.1))) (cond (B.inb 0 (List.length y4.1)) (again (.l1010 y1.1 y1.2.1 y1.2.2 y3 (List.set y4.1 (Int.toNat 0) ((((List.getD y4.1 (Int.toNat 0) ty68.dflt).1).1,p6::mt (Ty.den (Ty.int .i64))),(List.getD y4.1 (Int.toNat 0) ty68.dflt).2)) (mt (Ty.den ty68)))) none) (again (.l1010 y1.1 y1.2.1 y1.2.2 y3 y4.1 (mt (Ty.den ty68))))) (again (.l1010 y1.1 y1.2.1 y1.2.2 y3 y4.1 (mt (Ty.den ty68)))))) (cond (B.eq 11 0) none (cond (B.eq (Int.tmod p6 11) 10) (cond (B.lt 0 (Nat.cast (List.length y4.1))) (cond (B.inb 0 (List.length y4.1)) (again (.l1010 y1.1 y1.2.1 y1.2.2 y3 (List.set y4.1 (Int.toNat 0) ((((List.getD y4.1 (Int.toNat 0) ty68.dflt).1).1,p6::mt (Ty.den (Ty.int .i64))),(List.getD y4.1 (Int.toNat 0) ty68.dflt).2)) y4.2)) none) (again (.l1010 y1.1 y1.2.1 y1.2.2 y3 y4.1 y4.2))) (again (.l1010 y1.1 y1.2.1 y1.2.2 y3 y4.1 y4.2)))))) | some (.l0 v0 v1 v2 v3)=>cond (B.lt v1 v0) (cond (B.inb v1 v2.length) (cond (B.inb v1 v3.length) (cond (!B.eq (Nat.cast (List.length (v2.getD v1.toNat ty47.dflt))) (Nat.cast (List.length (v3.getD v1.toNat ty47.dflt)))) (k false) (cond (B.inb v1 v2.length) (again (.l1 v1 v0 v1 (Nat.cast (List.length (v2.getD v1.toNat ty47.dflt))) 0 v2 v3)) none)) none) none) (ob (c38) fun y0=>k y0) | some (.l1 v0 v1 v2 v3 v4 v5 v6)=>cond (B.lt v4 v3) (cond (B.inb v0 v5.length) (cond (B.inb v4 (List.length (v5.getD v0.toNat ty47.dflt))) (cond (B.inb v0 v6.length) (cond (B.inb v4 (List.length (v6.getD v0.toNat ty47.dflt))) (cond (!List.getD (v5.getD v0.toNat ty47.dflt) v4.toNat (Ty.dflt Ty.bool) == List.getD (v6.getD v0.toNat ty47.dflt) v4.toNat (Ty.dflt Ty.bool)) (k false) (again (.l1 v0 v1 v2 v3 (IntKind.wrap .i64 (v4+1)) v5 v6))) none) none) none) none) (again (.l0 v1 (IntKind.wrap .i64 (v2+1)) v5 v6)) | some (.l1010 v0 v1 v2 v3 v4 v5)=>ob (c40 v0 v1 v2 v3 v4 v5) fun y0=>ob (c21 v0 v1 v2 v3 v4 v5) fun y1=>cond (!B.eq (↑y0.length) (↑y1.length)) (k false) (ob (c41 v0 v1 v2 v4 v5) fun y2=>ob (c42 v0 v1 v2 v4 v5) fun y3=>cond (!y2 == y3) (k false) (ob (c43 v0 v1 v2 v3 v4 v5) fun y4=>ob (c44 v0 v1 v2 v3 v4 v5) fun y5=>cond (!y4 == y5) (k false) (again (.l1014 y0 y1)))) | some (.l1014 v0 v1)=>again (.l0 (↑v0.length) 0 v0 v1)
def E7 (p0:L3) (p1 p2:Int) (p3:L22) (p4 p5:L3) (p6:Int):S7→List AV×Objs
 | .l0 v0 v1 v2 v3=>(mk 124 [(14,.c (.own 14)),(15,.c (.own 15)),(83,.c (.int .i64 v0)),(84,.c (.int .i64 v1))],[(14,.row 47 ty47 v2),(15,.row 47 ty47 v3)])
 | .l1 v0 v1 v2 v3 v4 v5 v6=>(mk 124 [(14,.c (.own 14)),(15,.c (.own 15)),(16,.c (.int .i64 v0)),(83,.c (.int .i64 v1)),(84,.c (.int .i64 v2)),(102,.c (.int .i64 v3)),(103,.c (.int .i64 v4))],[(14,.row 47 ty47 v5),(15,.row 47 ty47 v6)])
 | .l1010 v0 v1 v2 v3 v4 v5=>(mk 124 [(11,.c (.ptr 11 0)),(12,.c (.own 12)),(13,.c (.ptr 13 0))],[(11,.box 31 [.list 94 ty94 v0,.list 98 ty98 v1,.list 103 ty103 v2]),(12,.row 66 ty66 v3),(13,.box 41 [.own 14000,.own 14001]),(14000,.row 68 ty68 v4),(14001,.row 68 ty68 v5)])
 | .l1014 v0 v1=>(mk 124 [(14,.c (.own 14)),(15,.c (.own 15))],[(14,.row 47 ty47 v0),(15,.row 47 ty47 v1)])
def I7:S7→Nat
 | .l0 _ _ _ _=>0
 | .l1 _ _ _ _ _ _ _=>1
 | .l1010 _ _ _ _ _ _=>1010
 | .l1014 _ _=>1014
noncomputable abbrev A7 {R:Type} (B:Ops) (c38:C38) (c12:C12) (c15:C15) (c39:C39) (c20:C20) (c40:C40) (c21:C21) (c41:C41) (c42:C42) (c43:C43) (c44:C44) (p0:L3) (p1 p2:Int) (p3:L22) (p4 p5:L3) (p6:Int) (k:AV→Objs→Option R) (s:S7) (n:Nat):Option R:=aloop tau B gl0 X7 (ent 38 (e38 c38) (ent 12 (e12 c12) (ent 15 (e15 c15) (ent 39 (e39 c39) (ent 20 (e20 c20) (ent 40 (e40 c40) (ent 21 (e21 c21) (ent 41 (e41 c41) (ent 42 (e42 c42) (ent 43 (e43 c43) (ent 44 (e44 c44) gnil))))))))))) ow [] Tryz.f7 k (I7 s) (E7 p0 p1 p2 p3 p4 p5 p6 s) n
theorem eq7 {R:Type} (B:Ops) (c38:C38) (c12:C12) (c15:C15) (c39:C39) (c20:C20) (c40:C40) (c21:C21) (c41:C41) (c42:C42) (c43:C43) (c44:C44) (p0:L3) (p1 p2:Int) (p3:L22) (p4 p5:L3) (p6:Int) (k:AV→Objs→Option R) (n:Nat):afun tau B gl0 X7 (ent 38 (e38 c38) (ent 12 (e12 c12) (ent 15 (e15 c15) (ent 39 (e39 c39) (ent 20 (e20 c20) (ent 40 (e40 c40) (ent 21 (e21 c21) (ent 41 (e41 c41) (ent 42 (e42 c42) (ent 43 (e43 c43) (ent 44 (e44 c44) gnil))))))))))) ow Tryz.f7 [.c (.list 3 ty3 p0),.agg [.int .i64 p1,.int .i64 p2,.list 22 ty22 p3],.c (.list 3 ty3 p4),.c (.list 3 ty3 p5),.c (.int .i64 p6)] [] k n=T7 B c38 c12 c15 c39 c20 c40 c21 c41 c42 c43 c44 p0 p1 p2 p3 p4 p5 p6 (fun s=>A7 B c38 c12 c15 c39 c20 c40 c21 c41 c42 c43 c44 p0 p1 p2 p3 p4 p5 p6 k s n) (K2 k) none:=by kernel_rfl
theorem el7 {R:Type} (B:Ops) (c38:C38) (c12:C12) (c15:C15) (c39:C39) (c20:C20) (c40:C40) (c21:C21) (c41:C41) (c42:C42) (c43:C43) (c44:C44) (p0:L3) (p1 p2:Int) (p3:L22) (p4 p5:L3) (p6:Int) (k:AV→Objs→Option R) (n:Nat):∀ s,A7 B c38 c12 c15 c39 c20 c40 c21 c41 c42 c43 c44 p0 p1 p2 p3 p4 p5 p6 k s (n+1)=T7 B c38 c12 c15 c39 c20 c40 c21 c41 c42 c43 c44 p0 p1 p2 p3 p4 p5 p6 (fun s=>A7 B c38 c12 c15 c39 c20 c40 c21 c41 c42 c43 c44 p0 p1 p2 p3 p4 p5 p6 k s n) (K2 k) (some s):=by
 intro s
 cases s<;>kernel_rfl
theorem nt7 {R R':Type} (B:Ops) (c38:C38) (c12:C12) (c15:C15) (c39:C39) (c20:C20) (c40:C40) (c21:C21) (c41:C41) (c42:C42) (c43:C43) (c44:C44) (p0:L3) (p1 p2:Int) (p3:L22) (p4 p5:L3) (p6:Int) (again:S7→Option R) (again':S7→Option R') (k0:(Bool)→Option R') (k:R'→Option R) (h:∀ s,again s=ob (again' s) k):∀ s,T7 B c38 c12 c15 c39 c20 c40 c21 c41 c42 c43 c44 p0 p1 p2 p3 p4 p5 p6 again (fun y=>ob (k0 y) k) s=ob (T7 B c38 c12 c15 c39 c20 c40 c21 c41 c42 c43 c44 p0 p1 p2 p3 p4 p5 p6 again' k0 s) k:=by
 rintro (_ | x)
 all_goals try cases x
 all_goals (unfold T7;repeat' first | exact rfl | exact h _ | apply qad | (apply qaj;intro))
def R7 (c38:C38) (c12:C12) (c15:C15) (c39:C39) (c20:C20) (c40:C40) (c21:C21) (c41:C41) (c42:C42) (c43:C43) (c44:C44) (p0:L3) (p1 p2:Int) (p3:L22) (p4 p5:L3) (p6:Int):Nat→S7→Option (Bool)
 | 0,_=>none
 | n+1,s=>T7 Ops.std c38 c12 c15 c39 c20 c40 c21 c41 c42 c43 c44 p0 p1 p2 p3 p4 p5 p6 (R7 c38 c12 c15 c39 c20 c40 c21 c41 c42 c43 c44 p0 p1 p2 p3 p4 p5 p6 n) some (some s)
theorem rr7 {R:Type} (c38:C38) (c12:C12) (c15:C15) (c39:C39) (c20:C20) (c40:C40) (c21:C21) (c41:C41) (c42:C42) (c43:C43) (c44:C44) (p0:L3) (p1 p2:Int) (p3:L22) (p4 p5:L3) (p6:Int) (k:AV→Objs→Option R):∀ (n:Nat) (s:S7),A7 Ops.std c38 c12 c15 c39 c20 c40 c21 c41 c42 c43 c44 p0 p1 p2 p3 p4 p5 p6 k s n=ob (R7 c38 c12 c15 c39 c20 c40 c21 c41 c42 c43 c44 p0 p1 p2 p3 p4 p5 p6 n s) (K2 k)
 | 0,s=>by cases s<;>rfl
 | n+1,s=>by rw [el7];exact nt7 Ops.std c38 c12 c15 c39 c20 c40 c21 c41 c42 c43 c44 p0 p1 p2 p3 p4 p5 p6 _ _ some (K2 k) (rr7 c38 c12 c15 c39 c20 c40 c21 c41 c42 c43 c44 p0 p1 p2 p3 p4 p5 p6 k n) (some s)
def F7 (c38:C38) (c12:C12) (c15:C15) (c39:C39) (c20:C20) (c40:C40) (c21:C21) (c41:C41) (c42:C42) (c43:C43) (c44:C44) (p0:L3) (p1 p2:Int) (p3:L22) (p4 p5:L3) (p6:Int):Option (Bool):=T7 Ops.std c38 c12 c15 c39 c20 c40 c21 c41 c42 c43 c44 p0 p1 p2 p3 p4 p5 p6 (R7 c38 c12 c15 c39 c20 c40 c21 c41 c42 c43 c44 p0 p1 p2 p3 p4 p5 p6 1000000) some none
abbrev C7:Type:=L3→Int→Int→L22→L3→L3→Int→Option (Bool)
def e7 {R:Type} (c:C7):Ent R:=eG [.aC (.cL 3 ty3),.aG [.cI .i64,.cI .i64,.cL 22 ty22],.aC (.cL 3 ty3),.aC (.cL 3 ty3),.aC (.cI .i64)] [] fun v k=>ob (c v.1 v.2.1 v.2.2.1 v.2.2.2.1 v.2.2.2.2.1 v.2.2.2.2.2.1 v.2.2.2.2.2.2.1) (K2 k)
abbrev Sp7 (c:C7):Prop:=∀ (p0:L3) (p1 p2:Int) (p3:L22) (p4 p5:L3) (p6:Int) (y:Bool),c p0 p1 p2 p3 p4 p5 p6=some y→Spec Tryz.prog gl0 7 [.c (.list 3 ty3 p0),.agg [.int .i64 p1,.int .i64 p2,.list 22 ty22 p3],.c (.list 3 ty3 p4),.c (.list 3 ty3 p5),.c (.int .i64 p6)] [] (.c (.bool y)) []
theorem sf7 {c38:C38} {c12:C12} {c15:C15} {c39:C39} {c20:C20} {c40:C40} {c21:C21} {c41:C41} {c42:C42} {c43:C43} {c44:C44} (h38:Sp38 c38) (h12:Sp12 c12) (h15:Sp15 c15) (h39:Sp39 c39) (h20:Sp20 c20) (h40:Sp40 c40) (h21:Sp21 c21) (h41:Sp41 c41) (h42:Sp42 c42) (h43:Sp43 c43) (h44:Sp44 c44):Sp7 (F7 c38 c12 c15 c39 c20 c40 c21 c41 c42 c43 c44):=fun p0 p1 p2 p3 p4 p5 p6 y hy=>by
 refine qai (qac (ek38 h38) (qac (ek12 h12) (qac (ek15 h15) (qac (ek39 h39) (qac (ek20 h20) (qac (ek40 h40) (qac (ek21 h21) (qac (ek41 h41) (qac (ek42 h42) (qac (ek43 h43) (qac (ek44 h44) qah))))))))))) 1000000 (fn:=Tryz.f7) (by kernel_rfl) (by kernel_rfl) (X:=X7) (by kernel_rfl) ?_
 rw [eq7]
 exact (nt7 Ops.std c38 c12 c15 c39 c20 c40 c21 c41 c42 c43 c44 p0 p1 p2 p3 p4 p5 p6 _ _ some (K2 k0) (rr7 c38 c12 c15 c39 c20 c40 c21 c41 c42 c43 c44 p0 p1 p2 p3 p4 p5 p6 k0 1000000) none).trans (by show ob (F7 c38 c12 c15 c39 c20 c40 c21 c41 c42 c43 c44 p0 p1 p2 p3 p4 p5 p6) _=_;rw [hy];rfl)
noncomputable def M7:C7:=F7 M38 M12 M15 M39 M20 M40 M21 M41 M42 M43 M44
theorem sm7:Sp7 M7:=sf7 sm38 sm12 sm15 sm39 sm20 sm40 sm21 sm41 sm42 sm43 sm44
end Go.Proofs.YtccnmhdgghjgoaaGreatDoor.Av
