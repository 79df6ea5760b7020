/- Twins of functions,printed by gen.py. Conditions: none. -/
import Derived.Test.YtccnmhdgghjgoaaGreatDoorWl4
import Derived.KernelRfl
set_option linter.unusedSimpArgs false
set_option linter.unusedVariables false
set_option maxRecDepth 100000
set_option maxHeartbeats 8000000
namespace Go.Proofs.YtccnmhdgghjgoaaGreatDoor.Av
open Go
def X47:Aux:=⟨[(7,([0,1,3,4]++rg 9 101)),(2000000,[])],[(24,.lin (rg 0 12))]⟩
inductive S47 where
 | l0 (v0 v1:Int) (v2:L9) (v6:L94) (v7:L98) (v8:L103)
def T47 {R:Type} (B:Ops) (c86:C86) (c87:C87) (c88:C88) (c90:C90) (c89:C89) (c18:C18) (p0:LB) (again:S47→Option R) (k:(L94×L98×L103×Int×Int)→Option R):Option S47→Option R | none=>cond (B.lt 60000 (↑p0.length)) (k ((mt (Ty.den ty94),mt (Ty.den ty98),mt (Ty.den ty103),14,0))) (ob (c86 p0 10) fun y0=>again (.l0 0 0 y0 (mt (Ty.den ty94)) (mt (Ty.den ty98)) (mt (Ty.den ty103)))) | some (.l0 v0 v1 v2 v6 v7 v8)=>cond (B.lt v1 (↑v2.length)) (cond (B.inb v1 v2.length) (cond (v2.getD v1.toNat ty9.dflt == mt UInt8) (again (.l0 v0 (IntKind.wrap .i64 (v1+1)) v2 v6 v7 v8)) (cond (B.inb v1 v2.length) (ob (c87 (v2.getD v1.toNat ty9.dflt)) fun y0=>cond (B.lt 0 (↑y0.length)) (cond (B.inb 0 y0.length) (cond (y0.getD (Int.toNat 0) ty9.dflt == ([118,97,114]:LB)) (cond (B.inb 1 (List.length y0+1)) (ob (c88 (List.drop (Int.toNat 1) (List.take y0.length y0))) fun y1=>cond (B.lim (List.length v6+List.length ((y1.1,y1.2.1,y1.2.2.1,y1.2.2.2.1)::mt (Ty.den ty94))) 40) (cond (!y1.2.2.2.2) (k ((mt (Ty.den ty94),mt (Ty.den ty98),mt (Ty.den ty103),2,IntKind.wrap .i64 (v1+1)))) (cond (B.lt 1 v0) (k ((mt (Ty.den ty94),mt (Ty.den ty98),mt (Ty.den ty103),2,IntKind.wrap .i64 (v1+1)))) (again (.l0 1 (IntKind.wrap .i64 (v1+1)) v2 (v6++(y1.1,y1.2.1,y1.2.2.1,y1.2.2.2.1)::mt (Ty.den ty94)) v7 v8)))) none) none) (cond (y0.getD (Int.toNat 0) ty9.dflt == ([112,114,111,99]:LB)) (cond (B.lt 1 (↑y0.length)) (cond (B.inb 1 y0.length) (cond (B.inb 2 (List.length y0+1)) (cond (B.lim (List.length v7+List.length ((y0.getD (Int.toNat 1) ty9.dflt,List.drop (Int.toNat 2) (List.take y0.length y0))::mt (Ty.den ty98))) 40) (cond (!B.lt 1 (↑y0.length)) (k ((mt (Ty.den ty94),mt (Ty.den ty98),mt (Ty.den ty103),2,IntKind.wrap .i64 (v1+1)))) (cond (B.lt 2 v0) (k ((mt (Ty.den ty94),mt (Ty.den ty98),mt (Ty.den ty103),2,IntKind.wrap .i64 (v1+1)))) (again (.l0 2 (IntKind.wrap .i64 (v1+1)) v2 v6 (v7++(y0.getD (Int.toNat 1) ty9.dflt,List.drop (Int.toNat 2) (List.take y0.length y0))::mt (Ty.den ty98)) v8)))) none) none) none) (cond (!B.lt 1 (↑y0.length)) (k ((mt (Ty.den ty94),mt (Ty.den ty98),mt (Ty.den ty103),2,IntKind.wrap .i64 (v1+1)))) (cond (B.lt 2 v0) (k ((mt (Ty.den ty94),mt (Ty.den ty98),mt (Ty.den ty103),2,IntKind.wrap .i64 (v1+1)))) (again (.l0 2 (IntKind.wrap .i64 (v1+1)) v2 v6 v7 v8))))) (cond (y0.getD (Int.toNat 0) ty9.dflt == ([116,114,97,110,115]:LB)) (cond (B.inb v1 v2.length) (ob (c90 (v2.getD v1.toNat ty9.dflt) 1) fun y1=>ob (c89 y1) fun y2=>cond (B.lim (List.length v8+List.length ((y2.1,y2.2.1,y2.2.2.1,y2.2.2.2.1,y2.2.2.2.2.1,y2.2.2.2.2.2.1,y2.2.2.2.2.2.2.1)::mt (Ty.den ty103))) 120) (cond (!y2.2.2.2.2.2.2.2) (k ((mt (Ty.den ty94),mt (Ty.den ty98),mt (Ty.den ty103),2,IntKind.wrap .i64 (v1+1)))) (cond (B.lt 3 v0) (k ((mt (Ty.den ty94),mt (Ty.den ty98),mt (Ty.den ty103),2,IntKind.wrap .i64 (v1+1)))) (again (.l0 3 (IntKind.wrap .i64 (v1+1)) v2 v6 v7 (v8++(y2.1,y2.2.1,y2.2.2.1,y2.2.2.2.1,y2.2.2.2.2.1,y2.2.2.2.2.2.1,y2.2.2.2.2.2.2.1)::mt (Ty.den ty103)))))) none) none) (k ((mt (Ty.den ty94),mt (Ty.den ty98),mt (Ty.den ty103),2,IntKind.wrap .i64 (v1+1))))))) none) (k ((mt (Ty.den ty94),mt (Ty.den ty98),mt (Ty.den ty103),2,IntKind.wrap .i64 (v1+1))))) none)) none) (ob (c18 v6 v7 v8) fun y0=>cond (!y0) (k ((mt (Ty.den ty94),mt (Ty.den ty98),mt (Ty.den ty103),2,0))) (k (v6,v7,v8,0,0)))
def E47 (p0:LB):S47→List AV×Objs
 | .l0 v0 v1 v2 v6 v7 v8=>(mk 110 [(2,.c (.ptr 2 0)),(5,.c (.ptr 5 0)),(6,.c (.int .i64 v0)),(7,.c (.own 7)),(8,.c (.int .i64 v1))],[(2,.box 31 [.own 3000,.own 3001,.own 3002]),(5,.box 31 [.own 6000,.own 6001,.own 6002]),(7,.row 9 ty9 v2),(3000,.row 94 ty94 (mt (Ty.den ty94))),(3001,.row 98 ty98 (mt (Ty.den ty98))),(3002,.row 103 ty103 (mt (Ty.den ty103))),(6000,.row 94 ty94 v6),(6001,.row 98 ty98 v7),(6002,.row 103 ty103 v8)])
def I47:S47→Nat
 | .l0 _ _ _ _ _ _=>0
abbrev K34 {R:Type} (k:AV→Objs→Option R) (y:(L94×L98×L103×Int×Int)):Option R:=k (.tup [(true,[.list 94 ty94 y.1,.list 98 ty98 y.2.1,.list 103 ty103 y.2.2.1]),(false,[.int .i64 y.2.2.2.1]),(false,[.int .i64 y.2.2.2.2])]) []
theorem eq47 {R:Type} (B:Ops) (c86:C86) (c87:C87) (c88:C88) (c90:C90) (c89:C89) (c18:C18) (p0:LB) (k:AV→Objs→Option R) (n:Nat):afun tau B gl0 X47 (ent 86 (e86 c86) (ent 87 (e87 c87) (ent 88 (e88 c88) (ent 90 (e90 c90) (ent 89 (e89 c89) (ent 18 (e18 c18) gnil)))))) ow Tryz.f47 [.c (.str p0)] [] k n=T47 B c86 c87 c88 c90 c89 c18 p0 (fun s=>aloop tau B gl0 X47 (ent 86 (e86 c86) (ent 87 (e87 c87) (ent 88 (e88 c88) (ent 90 (e90 c90) (ent 89 (e89 c89) (ent 18 (e18 c18) gnil)))))) ow [] Tryz.f47 k (I47 s) (E47 p0 s) n) (K34 k) none:=by kernel_rfl
theorem el47 {R:Type} (B:Ops) (c86:C86) (c87:C87) (c88:C88) (c90:C90) (c89:C89) (c18:C18) (p0:LB) (k:AV→Objs→Option R) (n:Nat):∀ s,aloop tau B gl0 X47 (ent 86 (e86 c86) (ent 87 (e87 c87) (ent 88 (e88 c88) (ent 90 (e90 c90) (ent 89 (e89 c89) (ent 18 (e18 c18) gnil)))))) ow [] Tryz.f47 k (I47 s) (E47 p0 s) (n+1)=T47 B c86 c87 c88 c90 c89 c18 p0 (fun s=>aloop tau B gl0 X47 (ent 86 (e86 c86) (ent 87 (e87 c87) (ent 88 (e88 c88) (ent 90 (e90 c90) (ent 89 (e89 c89) (ent 18 (e18 c18) gnil)))))) ow [] Tryz.f47 k (I47 s) (E47 p0 s) n) (K34 k) (some s):=by
 intro s
 cases s<;>kernel_rfl
theorem nt47 {R R':Type} (B:Ops) (c86:C86) (c87:C87) (c88:C88) (c90:C90) (c89:C89) (c18:C18) (p0:LB) (again:S47→Option R) (again':S47→Option R') (k0:(L94×L98×L103×Int×Int)→Option R') (k:R'→Option R) (h:∀ s,again s=ob (again' s) k):∀ s,T47 B c86 c87 c88 c90 c89 c18 p0 again (fun y=>ob (k0 y) k) s=ob (T47 B c86 c87 c88 c90 c89 c18 p0 again' k0 s) k:=by
 rintro (_ | x)
 all_goals try cases x
 all_goals (unfold T47;repeat' first | exact rfl | exact h _ | apply qad | (apply qaj;intro))
def R47 (c86:C86) (c87:C87) (c88:C88) (c90:C90) (c89:C89) (c18:C18) (p0:LB):Nat→S47→Option (L94×L98×L103×Int×Int)
 | 0,_=>none
 | n+1,s=>T47 Ops.std c86 c87 c88 c90 c89 c18 p0 (R47 c86 c87 c88 c90 c89 c18 p0 n) some (some s)
theorem rr47 {R:Type} (c86:C86) (c87:C87) (c88:C88) (c90:C90) (c89:C89) (c18:C18) (p0:LB) (k:AV→Objs→Option R):∀ (n:Nat) (s:S47),aloop tau Ops.std gl0 X47 (ent 86 (e86 c86) (ent 87 (e87 c87) (ent 88 (e88 c88) (ent 90 (e90 c90) (ent 89 (e89 c89) (ent 18 (e18 c18) gnil)))))) ow [] Tryz.f47 k (I47 s) (E47 p0 s) n=ob (R47 c86 c87 c88 c90 c89 c18 p0 n s) (K34 k)
 | 0,s=>by cases s<;>rfl
 | n+1,s=>by rw [el47];exact nt47 Ops.std c86 c87 c88 c90 c89 c18 p0 _ _ some (K34 k) (rr47 c86 c87 c88 c90 c89 c18 p0 k n) (some s)
def F47 (c86:C86) (c87:C87) (c88:C88) (c90:C90) (c89:C89) (c18:C18) (p0:LB):Option (L94×L98×L103×Int×Int):=T47 Ops.std c86 c87 c88 c90 c89 c18 p0 (R47 c86 c87 c88 c90 c89 c18 p0 1000000) some none
abbrev C47:Type:=LB→Option (L94×L98×L103×Int×Int)
def e47 {R:Type} (c:C47):Ent R:=eG [.aC .cS] [] fun v k=>ob (c v.1) (K34 k)
abbrev Sp47 (c:C47):Prop:=∀ (p0:LB) (y:L94×L98×L103×Int×Int),c p0=some y→Spec Tryz.prog gl0 47 [.c (.str p0)] [] (.tup [(true,[.list 94 ty94 y.1,.list 98 ty98 y.2.1,.list 103 ty103 y.2.2.1]),(false,[.int .i64 y.2.2.2.1]),(false,[.int .i64 y.2.2.2.2])]) []
theorem ek47 {R:Type} {c:C47} (hs:Sp47 c):EOk 47 (e47 (R:=R) c):=qal fun v=>hs v.1
theorem sf47 {c86:C86} {c87:C87} {c88:C88} {c90:C90} {c89:C89} {c18:C18} (h86:Sp86 c86) (h87:Sp87 c87) (h88:Sp88 c88) (h90:Sp90 c90) (h89:Sp89 c89) (h18:Sp18 c18):Sp47 (F47 c86 c87 c88 c90 c89 c18):=fun p0 y hy=>by
 refine qai (qaf (ek86 h86) (qaf (ek87 h87) (qaf (ek88 h88) (qaf (ek90 h90) (qaf (ek89 h89) (qaf (ek18 h18) qah)))))) 1000000 (fn:=Tryz.f47) (by kernel_rfl) (by kernel_rfl) (X:=X47) (by kernel_rfl) ?_
 rw [eq47]
 exact (nt47 Ops.std c86 c87 c88 c90 c89 c18 p0 _ _ some (K34 k0) (rr47 c86 c87 c88 c90 c89 c18 p0 k0 1000000) none).trans (by show ob (F47 c86 c87 c88 c90 c89 c18 p0) _=_;rw [hy];rfl)
noncomputable def M47:C47:=F47 M86 M87 M88 M90 M89 M18
theorem sm47:Sp47 M47:=sf47 sm86 sm87 sm88 sm90 sm89 sm18
def X12:Aux:=⟨[],[]⟩
def T12 {R:Type} (B:Ops) (c48:C48) (c47:C47) (p0 p1:Int) (p2:L22) (k:(L94×L98×L103)→Option R):Option R:=ob (c48 p0 p1 p2) fun y0=>ob (c47 y0) fun y1=>k (y1.1,y1.2.1,y1.2.2.1)
abbrev K35 {R:Type} (k:AV→Objs→Option R) (y:(L94×L98×L103)):Option R:=k (.agg [.list 94 ty94 y.1,.list 98 ty98 y.2.1,.list 103 ty103 y.2.2]) []
theorem eq12 {R:Type} (B:Ops) (c48:C48) (c47:C47) (p0 p1:Int) (p2:L22) (k:AV→Objs→Option R) (n:Nat):afun tau B gl0 X12 (ent 48 (e48 c48) (ent 47 (e47 c47) gnil)) ow Tryz.f12 [.agg [.int .i64 p0,.int .i64 p1,.list 22 ty22 p2]] [] k n=T12 B c48 c47 p0 p1 p2 (K35 k):=by kernel_rfl
theorem nt12 {R R':Type} (B:Ops) (c48:C48) (c47:C47) (p0 p1:Int) (p2:L22) (k0:(L94×L98×L103)→Option R') (k:R'→Option R):T12 B c48 c47 p0 p1 p2 (fun y=>ob (k0 y) k)=ob (T12 B c48 c47 p0 p1 p2 k0) k:=by
 unfold T12
 repeat' first | exact rfl | apply qad | (apply qaj;intro)
def F12 (c48:C48) (c47:C47) (p0 p1:Int) (p2:L22):Option (L94×L98×L103):=T12 Ops.std c48 c47 p0 p1 p2 some
abbrev C12:Type:=Int→Int→L22→Option (L94×L98×L103)
def e12 {R:Type} (c:C12):Ent R:=eG [.aG [.cI .i64,.cI .i64,.cL 22 ty22]] [] fun v k=>ob (c v.1 v.2.1 v.2.2.1) (K35 k)
abbrev Sp12 (c:C12):Prop:=∀ (p0 p1:Int) (p2:L22) (y:L94×L98×L103),c p0 p1 p2=some y→Spec Tryz.prog gl0 12 [.agg [.int .i64 p0,.int .i64 p1,.list 22 ty22 p2]] [] (.agg [.list 94 ty94 y.1,.list 98 ty98 y.2.1,.list 103 ty103 y.2.2]) []
theorem ek12 {R:Type} {c:C12} (hs:Sp12 c):EOk 12 (e12 (R:=R) c):=qal fun v=>hs v.1 v.2.1 v.2.2.1
theorem sf12 {c48:C48} {c47:C47} (h48:Sp48 c48) (h47:Sp47 c47):Sp12 (F12 c48 c47):=fun p0 p1 p2 y hy=>by
 refine qai (qaf (ek48 h48) (qaf (ek47 h47) qah)) 1000000 (fn:=Tryz.f12) (by kernel_rfl) (by kernel_rfl) (X:=X12) (by kernel_rfl) ?_
 rw [eq12]
 exact (nt12 Ops.std c48 c47 p0 p1 p2 some (K35 k0)).trans (by show ob (F12 c48 c47 p0 p1 p2) _=_;rw [hy];rfl)
noncomputable def M12:C12:=F12 M48 M47
theorem sm12:Sp12 M12:=sf12 sm48 sm47
def X123:Aux:=⟨[(4,([0,2,3]++rg 8 10++rg 21 33)),(9,([0,1,2,3]++rg 8 27++rg 38 16))],[(13,.lin [0,1,2,3])]⟩
inductive S123 where
 | l0 (v2 v3:Int) (v12:L68)
 | l1 (v1 v2:Int) (v11 v12:L68)
def T123 {R:Type} (B:Ops) (p0 p1:L3) (again:S123→Option R) (k:(L94×L98×L103×L68×L68)→Option R):Option S123→Option R | none=>again (.l0 (↑p0.length) 0 (mt (Ty.den ty68))) | some (.l0 v2 v3 v12)=>cond (B.lt v3 v2) (cond (B.inb v3 p0.length) (cond (B.lim (List.length v12+List.length (((0::mt (Ty.den (Ty.int .i64)),p0.getD v3.toNat ty3.dflt::mt (Ty.den (Ty.int .i64))),mt (Ty.den (Ty.int .i64)))::mt (Ty.den ty68))) 72) (again (.l0 v2 (IntKind.wrap .i64 (v3+1)) (v12++((0::mt (Ty.den (Ty.int .i64)),p0.getD v3.toNat ty3.dflt::mt (Ty.den (Ty.int .i64))),mt (Ty.den (Ty.int .i64)))::mt (Ty.den ty68)))) none) none) (again (.l1 (↑p1.length) 0 v12 ((mt (Ty.den ty68))))) | some (.l1 v1 v2 v11 v12)=>cond (B.lt v2 v1) (cond (B.inb v2 p1.length) (cond (B.lim (List.length v12+List.length (((0::mt (Ty.den (Ty.int .i64)),p1.getD v2.toNat ty3.dflt::mt (Ty.den (Ty.int .i64))),mt (Ty.den (Ty.int .i64)))::mt (Ty.den ty68))) 72) (again (.l1 v1 (IntKind.wrap .i64 (v2+1)) v11 (v12++((0::mt (Ty.den (Ty.int .i64)),p1.getD v2.toNat ty3.dflt::mt (Ty.den (Ty.int .i64))),mt (Ty.den (Ty.int .i64)))::mt (Ty.den ty68)))) none) none) (k ((((([120]:LB),0,9,0)::mt (Ty.den ty94)),((([112]:LB),([97]:LB)::mt (Ty.den Ty.str))::mt (Ty.den ty98)),(mt (Ty.den ty103)),v11,v12)))
def E123 (p0 p1:L3):S123→List AV×Objs
 | .l0 v2 v3 v12=>(mk 54 [(1,.c (.list 3 ty3 p1)),(4,.c (.ptr 4 0)),(5,.c (.ptr 5 0)),(6,.c (.ptr 6 0)),(7,.c (.ptr 7 0)),(18,.c (.list 3 ty3 p0)),(19,.c (.int .i64 v2)),(20,.c (.int .i64 v3))],[(4,.box 31 [.own 5000,.own 5001,.own 5002]),(5,.box 41 [.own 6000,.own 6001]),(6,.box 31 [.own 7000,.own 7001,.own 7002]),(7,.box 41 [.own 8000,.own 8001]),(5000,.row 94 ty94 (mt (Ty.den ty94))),(5001,.row 98 ty98 (mt (Ty.den ty98))),(5002,.row 103 ty103 (mt (Ty.den ty103))),(6000,.row 68 ty68 (mt (Ty.den ty68))),(6001,.row 68 ty68 (mt (Ty.den ty68))),(7000,.row 94 ty94 ((([120]:LB),0,9,0)::mt (Ty.den ty94))),(7001,.row 98 ty98 ((([112]:LB),([97]:LB)::mt (Ty.den Ty.str))::mt (Ty.den ty98))),(7002,.row 103 ty103 (mt (Ty.den ty103))),(8000,.row 68 ty68 v12),(8001,.row 68 ty68 (mt (Ty.den ty68)))])
 | .l1 v1 v2 v11 v12=>(mk 54 [(4,.c (.ptr 4 0)),(5,.c (.ptr 5 0)),(6,.c (.ptr 6 0)),(7,.c (.ptr 7 0)),(35,.c (.list 3 ty3 p1)),(36,.c (.int .i64 v1)),(37,.c (.int .i64 v2))],[(4,.box 31 [.own 5000,.own 5001,.own 5002]),(5,.box 41 [.own 6000,.own 6001]),(6,.box 31 [.own 7000,.own 7001,.own 7002]),(7,.box 41 [.own 8000,.own 8001]),(5000,.row 94 ty94 (mt (Ty.den ty94))),(5001,.row 98 ty98 (mt (Ty.den ty98))),(5002,.row 103 ty103 (mt (Ty.den ty103))),(6000,.row 68 ty68 (mt (Ty.den ty68))),(6001,.row 68 ty68 (mt (Ty.den ty68))),(7000,.row 94 ty94 ((([120]:LB),0,9,0)::mt (Ty.den ty94))),(7001,.row 98 ty98 ((([112]:LB),([97]:LB)::mt (Ty.den Ty.str))::mt (Ty.den ty98))),(7002,.row 103 ty103 (mt (Ty.den ty103))),(8000,.row 68 ty68 v11),(8001,.row 68 ty68 v12)])
def I123:S123→Nat
 | .l0 _ _ _=>0
 | .l1 _ _ _ _=>1
abbrev K36 {R:Type} (k:AV→Objs→Option R) (y:(L94×L98×L103×L68×L68)):Option R:=k (.tup [(true,[.own 501000,.own 501001,.own 501002]),(true,[.own 501100,.own 501101])]) [(501000,.row 94 ty94 y.1),(501001,.row 98 ty98 y.2.1),(501002,.row 103 ty103 y.2.2.1),(501100,.row 68 ty68 y.2.2.2.1),(501101,.row 68 ty68 y.2.2.2.2)]
theorem eq123 {R:Type} (B:Ops) (p0 p1:L3) (k:AV→Objs→Option R) (n:Nat):afun tau B gl0 X123 gnil ow Tryz.f123 [.c (.list 3 ty3 p0),.c (.list 3 ty3 p1)] [] k n=T123 B p0 p1 (fun s=>aloop tau B gl0 X123 gnil ow [] Tryz.f123 k (I123 s) (E123 p0 p1 s) n) (K36 k) none:=by kernel_rfl
theorem el123 {R:Type} (B:Ops) (p0 p1:L3) (k:AV→Objs→Option R) (n:Nat):∀ s,aloop tau B gl0 X123 gnil ow [] Tryz.f123 k (I123 s) (E123 p0 p1 s) (n+1)=T123 B p0 p1 (fun s=>aloop tau B gl0 X123 gnil ow [] Tryz.f123 k (I123 s) (E123 p0 p1 s) n) (K36 k) (some s):=by
 intro s
 cases s<;>kernel_rfl
theorem nt123 {R R':Type} (B:Ops) (p0 p1:L3) (again:S123→Option R) (again':S123→Option R') (k0:(L94×L98×L103×L68×L68)→Option R') (k:R'→Option R) (h:∀ s,again s=ob (again' s) k):∀ s,T123 B p0 p1 again (fun y=>ob (k0 y) k) s=ob (T123 B p0 p1 again' k0 s) k:=by
 rintro (_ | x)
 all_goals try cases x
 all_goals (unfold T123;repeat' first | exact rfl | exact h _ | apply qad | (apply qaj;intro))
def R123 (p0 p1:L3):Nat→S123→Option (L94×L98×L103×L68×L68)
 | 0,_=>none
 | n+1,s=>T123 Ops.std p0 p1 (R123 p0 p1 n) some (some s)
theorem rr123 {R:Type} (p0 p1:L3) (k:AV→Objs→Option R):∀ (n:Nat) (s:S123),aloop tau Ops.std gl0 X123 gnil ow [] Tryz.f123 k (I123 s) (E123 p0 p1 s) n=ob (R123 p0 p1 n s) (K36 k)
 | 0,s=>by cases s<;>rfl
 | n+1,s=>by rw [el123];exact nt123 Ops.std p0 p1 _ _ some (K36 k) (rr123 p0 p1 k n) (some s)
def F123 (p0 p1:L3):Option (L94×L98×L103×L68×L68):=T123 Ops.std p0 p1 (R123 p0 p1 1000000) some none
abbrev C123:Type:=L3→L3→Option (L94×L98×L103×L68×L68)
def e123 {R:Type} (c:C123):Ent R:=eG [.aC (.cL 3 ty3),.aC (.cL 3 ty3)] [] fun v k=>ob (c v.1 v.2.1) (K36 k)
abbrev Sp123 (c:C123):Prop:=∀ (p0 p1:L3) (y:L94×L98×L103×L68×L68),c p0 p1=some y→Spec Tryz.prog gl0 123 [.c (.list 3 ty3 p0),.c (.list 3 ty3 p1)] [] (.tup [(true,[.own 501000,.own 501001,.own 501002]),(true,[.own 501100,.own 501101])]) [(501000,.row 94 ty94 y.1),(501001,.row 98 ty98 y.2.1),(501002,.row 103 ty103 y.2.2.1),(501100,.row 68 ty68 y.2.2.2.1),(501101,.row 68 ty68 y.2.2.2.2)]
theorem ek123 {R:Type} {c:C123} (hs:Sp123 c):EOk 123 (e123 (R:=R) c):=qal fun v=>hs v.1 v.2.1
theorem sf123:Sp123 (F123):=fun p0 p1 y hy=>by
 refine qai qah 1000000 (fn:=Tryz.f123) (by kernel_rfl) (by kernel_rfl) (X:=X123) (by kernel_rfl) ?_
 rw [eq123]
 exact (nt123 Ops.std p0 p1 _ _ some (K36 k0) (rr123 p0 p1 k0 1000000) none).trans (by show ob (F123 p0 p1) _=_;rw [hy];rfl)
noncomputable def M123:C123:=F123
theorem sm123:Sp123 M123:=sf123
def X39:Aux:=⟨[],[]⟩
def T39 {R:Type} (B:Ops) (c45:C45) (p0:LB) (k:(L66)→Option R):Option R:=ob (c45 p0) fun y0=>k y0.2.2
abbrev K37 {R:Type} (k:AV→Objs→Option R) (y:(L66)):Option R:=k (.c (.own 500)) [(500,.row 66 ty66 y)]
theorem eq39 {R:Type} (B:Ops) (c45:C45) (p0:LB) (k:AV→Objs→Option R) (n:Nat):afun tau B gl0 X39 (ent 45 (e45 c45) gnil) ow Tryz.f39 [.c (.str p0)] [] k n=T39 B c45 p0 (K37 k):=by kernel_rfl
theorem nt39 {R R':Type} (B:Ops) (c45:C45) (p0:LB) (k0:(L66)→Option R') (k:R'→Option R):T39 B c45 p0 (fun y=>ob (k0 y) k)=ob (T39 B c45 p0 k0) k:=by
 unfold T39
 repeat' first | exact rfl | apply qad | (apply qaj;intro)
def F39 (c45:C45) (p0:LB):Option (L66):=T39 Ops.std c45 p0 some
abbrev C39:Type:=LB→Option (L66)
def e39 {R:Type} (c:C39):Ent R:=eG [.aC .cS] [] fun v k=>ob (c v.1) (K37 k)
abbrev Sp39 (c:C39):Prop:=∀ (p0:LB) (y:L66),c p0=some y→Spec Tryz.prog gl0 39 [.c (.str p0)] [] (.c (.own 500)) [(500,.row 66 ty66 y)]
theorem ek39 {R:Type} {c:C39} (hs:Sp39 c):EOk 39 (e39 (R:=R) c):=qal fun v=>hs v.1
theorem sf39 {c45:C45} (h45:Sp45 c45):Sp39 (F39 c45):=fun p0 y hy=>by
 refine qai (qaf (ek45 h45) qah) 1000000 (fn:=Tryz.f39) (by kernel_rfl) (by kernel_rfl) (X:=X39) (by kernel_rfl) ?_
 rw [eq39]
 exact (nt39 Ops.std c45 p0 some (K37 k0)).trans (by show ob (F39 c45 p0) _=_;rw [hy];rfl)
noncomputable def M39:C39:=F39 M45
theorem sm39:Sp39 M39:=sf39 sm45
abbrev K38 {R:Type} (k:AV→Objs→Option R) (y:(L68)):Option R:=k (.c (.own 500)) [(500,.row 68 ty68 y)]
abbrev C124:Type:=Int→Option (L68)
def e124 {R:Type} (c:C124):Ent R:=eG [.aC .cN,.aC (.cI .i64)] [] fun v k=>ob (c v.1) (K38 k)
abbrev Sp124 (c:C124):Prop:=∀ (p0:Int) (y:L68),c p0=some y→Spec Tryz.prog gl0 124 [.c .nil,.c (.int .i64 p0)] [] (.c (.own 500)) [(500,.row 68 ty68 y)]
theorem ek124 {R:Type} {c:C124} (hs:Sp124 c):EOk 124 (e124 (R:=R) c):=qal fun v=>hs v.1
def M124:Int→Option (L68):=growF124
theorem sm124:Sp124 M124:=fun p0 y hy=>grow_sp124 p0 y hy
def X75:Aux:=⟨[(3,([1,2,4,5,6,7,8]++rg 12 24)),(11,([0,1,2,3,4,5]++rg 7 18++[28,29,30,31,32,33,34,35]))],[]⟩
inductive S75 where
 | l0 (v1 v3 v4:Int)
 | l1 (v1 v2:Int) (v3:L68)
def T75 {R:Type} (B:Ops) (c124:C124) (p0:L39) (again:S75→Option R) (k:(L68)→Option R):Option S75→Option R | none=>again (.l0 0 (↑p0.length) 0) | some (.l0 v1 v3 v4)=>cond (B.lt v4 v3) (cond (B.inb v4 p0.length) (cond (B.lt (IntKind.wrap .i64 (v1+Nat.cast (List.length (p0.getD v4.toNat ty39.dflt)))) 0) none (again (.l0 (IntKind.wrap .i64 (v1+Nat.cast (List.length (p0.getD v4.toNat ty39.dflt)))) v3 (IntKind.wrap .i64 (v4+1))))) none) (ob (c124 v1) fun y0=>again (.l1 (↑p0.length) 0 y0)) | some (.l1 v1 v2 v3)=>cond (B.lt v2 v1) (cond (B.inb v2 p0.length) (cond (B.lim (List.length v3+List.length (p0.getD v2.toNat ty39.dflt)) 72) (again (.l1 v1 (IntKind.wrap .i64 (v2+1)) (v3++p0.getD v2.toNat ty39.dflt))) none) none) (k v3)
def E75 (p0:L39):S75→List AV×Objs
 | .l0 v1 v3 v4=>(mk 36 [(0,.c (.list 39 ty39 p0)),(3,.c (.int .i64 v1)),(9,.c (.list 39 ty39 p0)),(10,.c (.int .i64 v3)),(11,.c (.int .i64 v4))],[])
 | .l1 v1 v2 v3=>(mk 36 [(6,.c (.own 6)),(25,.c (.list 39 ty39 p0)),(26,.c (.int .i64 v1)),(27,.c (.int .i64 v2))],[(6,.row 68 ty68 v3)])
def I75:S75→Nat
 | .l0 _ _ _=>0
 | .l1 _ _ _=>1
theorem eq75 {R:Type} (B:Ops) (c124:C124) (p0:L39) (k:AV→Objs→Option R) (n:Nat):afun tau B gl0 X75 (ent 124 (e124 c124) gnil) ow Tryz.f75 [.c (.list 39 ty39 p0)] [] k n=T75 B c124 p0 (fun s=>aloop tau B gl0 X75 (ent 124 (e124 c124) gnil) ow [] Tryz.f75 k (I75 s) (E75 p0 s) n) (K38 k) none:=by kernel_rfl
theorem el75 {R:Type} (B:Ops) (c124:C124) (p0:L39) (k:AV→Objs→Option R) (n:Nat):∀ s,aloop tau B gl0 X75 (ent 124 (e124 c124) gnil) ow [] Tryz.f75 k (I75 s) (E75 p0 s) (n+1)=T75 B c124 p0 (fun s=>aloop tau B gl0 X75 (ent 124 (e124 c124) gnil) ow [] Tryz.f75 k (I75 s) (E75 p0 s) n) (K38 k) (some s):=by
 intro s
 cases s<;>kernel_rfl
theorem nt75 {R R':Type} (B:Ops) (c124:C124) (p0:L39) (again:S75→Option R) (again':S75→Option R') (k0:(L68)→Option R') (k:R'→Option R) (h:∀ s,again s=ob (again' s) k):∀ s,T75 B c124 p0 again (fun y=>ob (k0 y) k) s=ob (T75 B c124 p0 again' k0 s) k:=by
 rintro (_ | x)
 all_goals try cases x
 all_goals (unfold T75;repeat' first | exact rfl | exact h _ | apply qad | (apply qaj;intro))
def R75 (c124:C124) (p0:L39):Nat→S75→Option (L68)
 | 0,_=>none
 | n+1,s=>T75 Ops.std c124 p0 (R75 c124 p0 n) some (some s)
theorem rr75 {R:Type} (c124:C124) (p0:L39) (k:AV→Objs→Option R):∀ (n:Nat) (s:S75),aloop tau Ops.std gl0 X75 (ent 124 (e124 c124) gnil) ow [] Tryz.f75 k (I75 s) (E75 p0 s) n=ob (R75 c124 p0 n s) (K38 k)
 | 0,s=>by cases s<;>rfl
 | n+1,s=>by rw [el75];exact nt75 Ops.std c124 p0 _ _ some (K38 k) (rr75 c124 p0 k n) (some s)
def F75 (c124:C124) (p0:L39):Option (L68):=T75 Ops.std c124 p0 (R75 c124 p0 1000000) some none
abbrev C75:Type:=L39→Option (L68)
def e75 {R:Type} (c:C75):Ent R:=eG [.aC (.cL 39 ty39)] [] fun v k=>ob (c v.1) (K38 k)
abbrev Sp75 (c:C75):Prop:=∀ (p0:L39) (y:L68),c p0=some y→Spec Tryz.prog gl0 75 [.c (.list 39 ty39 p0)] [] (.c (.own 500)) [(500,.row 68 ty68 y)]
theorem ek75 {R:Type} {c:C75} (hs:Sp75 c):EOk 75 (e75 (R:=R) c):=qal fun v=>hs v.1
theorem sf75 {c124:C124} (h124:Sp124 c124):Sp75 (F75 c124):=fun p0 y hy=>by
 refine qai (qaf (ek124 h124) qah) 1000000 (fn:=Tryz.f75) (by kernel_rfl) (by kernel_rfl) (X:=X75) (by kernel_rfl) ?_
 rw [eq75]
 exact (nt75 Ops.std c124 p0 _ _ some (K38 k0) (rr75 c124 p0 k0 1000000) none).trans (by show ob (F75 c124 p0) _=_;rw [hy];rfl)
noncomputable def M75:C75:=F75 M124
theorem sm75:Sp75 M75:=sf75 sm124
def X126:Aux:=⟨[],[]⟩
def T126 {R:Type} (B:Ops) (p0:Int) (k:(Bool)→Option R):Option R:=k true
theorem eq126 {R:Type} (B:Ops) (p0:Int) (k:AV→Objs→Option R) (n:Nat):afun tau B gl0 X126 gnil ow Tryz.f126 [.c (.int .i64 p0)] [] k n=T126 B p0 (K2 k):=by kernel_rfl
theorem nt126 {R R':Type} (B:Ops) (p0:Int) (k0:(Bool)→Option R') (k:R'→Option R):T126 B p0 (fun y=>ob (k0 y) k)=ob (T126 B p0 k0) k:=by
 unfold T126
 repeat' first | exact rfl | apply qad | (apply qaj;intro)
def F126 (p0:Int):Option (Bool):=T126 Ops.std p0 some
abbrev C126:Type:=Int→Option (Bool)
def e126 {R:Type} (c:C126):Ent R:=eG [.aC (.cI .i64)] [] fun v k=>ob (c v.1) (K2 k)
abbrev Sp126 (c:C126):Prop:=∀ (p0:Int) (y:Bool),c p0=some y→Spec Tryz.prog gl0 126 [.c (.int .i64 p0)] [] (.c (.bool y)) []
theorem ek126 {R:Type} {c:C126} (hs:Sp126 c):EOk 126 (e126 (R:=R) c):=qal fun v=>hs v.1
theorem sf126:Sp126 (F126):=fun p0 y hy=>by
 refine qai qah 1000000 (fn:=Tryz.f126) (by kernel_rfl) (by kernel_rfl) (X:=X126) (by kernel_rfl) ?_
 rw [eq126]
 exact (nt126 Ops.std p0 some (K2 k0)).trans (by show ob (F126 p0) _=_;rw [hy];rfl)
noncomputable def M126:C126:=F126
theorem sm126:Sp126 M126:=sf126
def X125:Aux:=⟨[(3,([0,2,3,4,6,7,8,9,10,11]++rg 14 10))],[]⟩
inductive S125 where
 | l0 (v0 v1:Int) (v2:L4)
def T125 {R:Type} (B:Ops) (c126:C126) (p0:L94) (p1:L98) (p2:L103) (p3:L68) (p4:Int) (again:S125→Option R) (k:(L4)→Option R):Option S125→Option R | none=>cond (bif B.eq (↑p3.length) (↑p3.length) then bif B.le 0 (↑p3.length) then B.lim (Int.toNat (↑p3.length)) 1 else false else false) (again (.l0 (Nat.cast (List.length (List.replicate (Int.toNat (↑p3.length)) (Ty.dflt Ty.bool)))) 0 (List.replicate (Int.toNat (↑p3.length)) (Ty.dflt Ty.bool)))) none | some (.l0 v0 v1 v2)=>cond (B.lt v1 v0) (ob (c126 v1) fun y0=>cond (B.inb v1 v2.length) (again (.l0 v0 (IntKind.wrap .i64 (v1+1)) (List.set v2 v1.toNat y0))) none) (k v2)
def E125 (p0:L94) (p1:L98) (p2:L103) (p3:L68) (p4:Int):S125→List AV×Objs
 | .l0 v0 v1 v2=>(mk 24 [(1,.fn 126 []),(5,.c (.own 5)),(12,.c (.int .i64 v0)),(13,.c (.int .i64 v1))],[(5,.row 4 ty4 v2)])
def I125:S125→Nat
 | .l0 _ _ _=>0
abbrev K39 {R:Type} (k:AV→Objs→Option R) (y:(L4)):Option R:=k (.c (.own 500)) [(500,.row 4 ty4 y)]
theorem eq125 {R:Type} (B:Ops) (c126:C126) (p0:L94) (p1:L98) (p2:L103) (p3:L68) (p4:Int) (k:AV→Objs→Option R) (n:Nat):afun tau B gl0 X125 (ent 126 (e126 c126) gnil) ow Tryz.f125 [.agg [.list 94 ty94 p0,.list 98 ty98 p1,.list 103 ty103 p2,.list 68 ty68 p3,.int .i64 p4],.fn 126 []] [] k n=T125 B c126 p0 p1 p2 p3 p4 (fun s=>aloop tau B gl0 X125 (ent 126 (e126 c126) gnil) ow [] Tryz.f125 k (I125 s) (E125 p0 p1 p2 p3 p4 s) n) (K39 k) none:=by kernel_rfl
theorem el125 {R:Type} (B:Ops) (c126:C126) (p0:L94) (p1:L98) (p2:L103) (p3:L68) (p4:Int) (k:AV→Objs→Option R) (n:Nat):∀ s,aloop tau B gl0 X125 (ent 126 (e126 c126) gnil) ow [] Tryz.f125 k (I125 s) (E125 p0 p1 p2 p3 p4 s) (n+1)=T125 B c126 p0 p1 p2 p3 p4 (fun s=>aloop tau B gl0 X125 (ent 126 (e126 c126) gnil) ow [] Tryz.f125 k (I125 s) (E125 p0 p1 p2 p3 p4 s) n) (K39 k) (some s):=by
 intro s
 cases s<;>kernel_rfl
theorem nt125 {R R':Type} (B:Ops) (c126:C126) (p0:L94) (p1:L98) (p2:L103) (p3:L68) (p4:Int) (again:S125→Option R) (again':S125→Option R') (k0:(L4)→Option R') (k:R'→Option R) (h:∀ s,again s=ob (again' s) k):∀ s,T125 B c126 p0 p1 p2 p3 p4 again (fun y=>ob (k0 y) k) s=ob (T125 B c126 p0 p1 p2 p3 p4 again' k0 s) k:=by
 rintro (_ | x)
 all_goals try cases x
 all_goals (unfold T125;repeat' first | exact rfl | exact h _ | apply qad | (apply qaj;intro))
def R125 (c126:C126) (p0:L94) (p1:L98) (p2:L103) (p3:L68) (p4:Int):Nat→S125→Option (L4)
 | 0,_=>none
 | n+1,s=>T125 Ops.std c126 p0 p1 p2 p3 p4 (R125 c126 p0 p1 p2 p3 p4 n) some (some s)
theorem rr125 {R:Type} (c126:C126) (p0:L94) (p1:L98) (p2:L103) (p3:L68) (p4:Int) (k:AV→Objs→Option R):∀ (n:Nat) (s:S125),aloop tau Ops.std gl0 X125 (ent 126 (e126 c126) gnil) ow [] Tryz.f125 k (I125 s) (E125 p0 p1 p2 p3 p4 s) n=ob (R125 c126 p0 p1 p2 p3 p4 n s) (K39 k)
 | 0,s=>by cases s<;>rfl
 | n+1,s=>by rw [el125];exact nt125 Ops.std c126 p0 p1 p2 p3 p4 _ _ some (K39 k) (rr125 c126 p0 p1 p2 p3 p4 k n) (some s)
def F125 (c126:C126) (p0:L94) (p1:L98) (p2:L103) (p3:L68) (p4:Int):Option (L4):=T125 Ops.std c126 p0 p1 p2 p3 p4 (R125 c126 p0 p1 p2 p3 p4 1000000) some none
abbrev C125:Type:=L94→L98→L103→L68→Int→Option (L4)
def e125 {R:Type} (c:C125):Ent R:=eG [.aG [.cL 94 ty94,.cL 98 ty98,.cL 103 ty103,.cL 68 ty68,.cI .i64],.aF 126 []] [] fun v k=>ob (c v.1 v.2.1 v.2.2.1 v.2.2.2.1 v.2.2.2.2.1) (K39 k)
abbrev Sp125 (c:C125):Prop:=∀ (p0:L94) (p1:L98) (p2:L103) (p3:L68) (p4:Int) (y:L4),c p0 p1 p2 p3 p4=some y→Spec Tryz.prog gl0 125 [.agg [.list 94 ty94 p0,.list 98 ty98 p1,.list 103 ty103 p2,.list 68 ty68 p3,.int .i64 p4],.fn 126 []] [] (.c (.own 500)) [(500,.row 4 ty4 y)]
theorem ek125 {R:Type} {c:C125} (hs:Sp125 c):EOk 125 (e125 (R:=R) c):=qal fun v=>hs v.1 v.2.1 v.2.2.1 v.2.2.2.1 v.2.2.2.2.1
theorem sf125 {c126:C126} (h126:Sp126 c126):Sp125 (F125 c126):=fun p0 p1 p2 p3 p4 y hy=>by
 refine qai (qaf (ek126 h126) qah) 1000000 (fn:=Tryz.f125) (by kernel_rfl) (by kernel_rfl) (X:=X125) (by kernel_rfl) ?_
 rw [eq125]
 exact (nt125 Ops.std c126 p0 p1 p2 p3 p4 _ _ some (K39 k0) (rr125 c126 p0 p1 p2 p3 p4 k0 1000000) none).trans (by show ob (F125 c126 p0 p1 p2 p3 p4) _=_;rw [hy];rfl)
noncomputable def M125:C125:=F125 M126
theorem sm125:Sp125 M125:=sf125 sm126
def X127:Aux:=⟨[],[]⟩
def T127 {R:Type} (B:Ops) (p0:Int) (k:(Bool)→Option R):Option R:=k false
theorem eq127 {R:Type} (B:Ops) (p0:Int) (k:AV→Objs→Option R) (n:Nat):afun tau B gl0 X127 gnil ow Tryz.f127 [.c (.int .i64 p0)] [] k n=T127 B p0 (K2 k):=by kernel_rfl
theorem nt127 {R R':Type} (B:Ops) (p0:Int) (k0:(Bool)→Option R') (k:R'→Option R):T127 B p0 (fun y=>ob (k0 y) k)=ob (T127 B p0 k0) k:=by
 unfold T127
 repeat' first | exact rfl | apply qad | (apply qaj;intro)
def F127 (p0:Int):Option (Bool):=T127 Ops.std p0 some
abbrev C127:Type:=Int→Option (Bool)
def e127 {R:Type} (c:C127):Ent R:=eG [.aC (.cI .i64)] [] fun v k=>ob (c v.1) (K2 k)
abbrev Sp127 (c:C127):Prop:=∀ (p0:Int) (y:Bool),c p0=some y→Spec Tryz.prog gl0 127 [.c (.int .i64 p0)] [] (.c (.bool y)) []
theorem ek127 {R:Type} {c:C127} (hs:Sp127 c):EOk 127 (e127 (R:=R) c):=qal fun v=>hs v.1
theorem sf127:Sp127 (F127):=fun p0 y hy=>by
 refine qai qah 1000000 (fn:=Tryz.f127) (by kernel_rfl) (by kernel_rfl) (X:=X127) (by kernel_rfl) ?_
 rw [eq127]
 exact (nt127 Ops.std p0 some (K2 k0)).trans (by show ob (F127 p0) _=_;rw [hy];rfl)
noncomputable def M127:C127:=F127
theorem sm127:Sp127 M127:=sf127
def X219:Aux:=⟨[(3,([0,2,3,4,6,7,8,9,10,11]++rg 14 10))],[]⟩
inductive S219 where
 | l0 (v0 v1:Int) (v2:L4)
def T219 {R:Type} (B:Ops) (c127:C127) (p0:L94) (p1:L98) (p2:L103) (p3:L68) (p4:Int) (again:S219→Option R) (k:(L4)→Option R):Option S219→Option R | none=>cond (bif B.eq (↑p3.length) (↑p3.length) then bif B.le 0 (↑p3.length) then B.lim (Int.toNat (↑p3.length)) 1 else false else false) (again (.l0 (Nat.cast (List.length (List.replicate (Int.toNat (↑p3.length)) (Ty.dflt Ty.bool)))) 0 (List.replicate (Int.toNat (↑p3.length)) (Ty.dflt Ty.bool)))) none | some (.l0 v0 v1 v2)=>cond (B.lt v1 v0) (ob (c127 v1) fun y0=>cond (B.inb v1 v2.length) (again (.l0 v0 (IntKind.wrap .i64 (v1+1)) (List.set v2 v1.toNat y0))) none) (k v2)
def E219 (p0:L94) (p1:L98) (p2:L103) (p3:L68) (p4:Int):S219→List AV×Objs
 | .l0 v0 v1 v2=>(mk 24 [(1,.fn 127 []),(5,.c (.own 5)),(12,.c (.int .i64 v0)),(13,.c (.int .i64 v1))],[(5,.row 4 ty4 v2)])
def I219:S219→Nat
 | .l0 _ _ _=>0
theorem eq219 {R:Type} (B:Ops) (c127:C127) (p0:L94) (p1:L98) (p2:L103) (p3:L68) (p4:Int) (k:AV→Objs→Option R) (n:Nat):afun tau B gl0 X219 (ent 127 (e127 c127) gnil) ow Tryz.f125 [.agg [.list 94 ty94 p0,.list 98 ty98 p1,.list 103 ty103 p2,.list 68 ty68 p3,.int .i64 p4],.fn 127 []] [] k n=T219 B c127 p0 p1 p2 p3 p4 (fun s=>aloop tau B gl0 X219 (ent 127 (e127 c127) gnil) ow [] Tryz.f125 k (I219 s) (E219 p0 p1 p2 p3 p4 s) n) (K39 k) none:=by kernel_rfl
theorem el219 {R:Type} (B:Ops) (c127:C127) (p0:L94) (p1:L98) (p2:L103) (p3:L68) (p4:Int) (k:AV→Objs→Option R) (n:Nat):∀ s,aloop tau B gl0 X219 (ent 127 (e127 c127) gnil) ow [] Tryz.f125 k (I219 s) (E219 p0 p1 p2 p3 p4 s) (n+1)=T219 B c127 p0 p1 p2 p3 p4 (fun s=>aloop tau B gl0 X219 (ent 127 (e127 c127) gnil) ow [] Tryz.f125 k (I219 s) (E219 p0 p1 p2 p3 p4 s) n) (K39 k) (some s):=by
 intro s
 cases s<;>kernel_rfl
theorem nt219 {R R':Type} (B:Ops) (c127:C127) (p0:L94) (p1:L98) (p2:L103) (p3:L68) (p4:Int) (again:S219→Option R) (again':S219→Option R') (k0:(L4)→Option R') (k:R'→Option R) (h:∀ s,again s=ob (again' s) k):∀ s,T219 B c127 p0 p1 p2 p3 p4 again (fun y=>ob (k0 y) k) s=ob (T219 B c127 p0 p1 p2 p3 p4 again' k0 s) k:=by
 rintro (_ | x)
 all_goals try cases x
 all_goals (unfold T219;repeat' first | exact rfl | exact h _ | apply qad | (apply qaj;intro))
def R219 (c127:C127) (p0:L94) (p1:L98) (p2:L103) (p3:L68) (p4:Int):Nat→S219→Option (L4)
 | 0,_=>none
 | n+1,s=>T219 Ops.std c127 p0 p1 p2 p3 p4 (R219 c127 p0 p1 p2 p3 p4 n) some (some s)
theorem rr219 {R:Type} (c127:C127) (p0:L94) (p1:L98) (p2:L103) (p3:L68) (p4:Int) (k:AV→Objs→Option R):∀ (n:Nat) (s:S219),aloop tau Ops.std gl0 X219 (ent 127 (e127 c127) gnil) ow [] Tryz.f125 k (I219 s) (E219 p0 p1 p2 p3 p4 s) n=ob (R219 c127 p0 p1 p2 p3 p4 n s) (K39 k)
 | 0,s=>by cases s<;>rfl
 | n+1,s=>by rw [el219];exact nt219 Ops.std c127 p0 p1 p2 p3 p4 _ _ some (K39 k) (rr219 c127 p0 p1 p2 p3 p4 k n) (some s)
def F219 (c127:C127) (p0:L94) (p1:L98) (p2:L103) (p3:L68) (p4:Int):Option (L4):=T219 Ops.std c127 p0 p1 p2 p3 p4 (R219 c127 p0 p1 p2 p3 p4 1000000) some none
abbrev C219:Type:=L94→L98→L103→L68→Int→Option (L4)
def e219 {R:Type} (c:C219):Ent R:=eG [.aG [.cL 94 ty94,.cL 98 ty98,.cL 103 ty103,.cL 68 ty68,.cI .i64],.aF 127 []] [] fun v k=>ob (c v.1 v.2.1 v.2.2.1 v.2.2.2.1 v.2.2.2.2.1) (K39 k)
abbrev Sp219 (c:C219):Prop:=∀ (p0:L94) (p1:L98) (p2:L103) (p3:L68) (p4:Int) (y:L4),c p0 p1 p2 p3 p4=some y→Spec Tryz.prog gl0 125 [.agg [.list 94 ty94 p0,.list 98 ty98 p1,.list 103 ty103 p2,.list 68 ty68 p3,.int .i64 p4],.fn 127 []] [] (.c (.own 500)) [(500,.row 4 ty4 y)]
theorem ek219 {R:Type} {c:C219} (hs:Sp219 c):EOk 125 (e219 (R:=R) c):=qal fun v=>hs v.1 v.2.1 v.2.2.1 v.2.2.2.1 v.2.2.2.2.1
theorem sf219 {c127:C127} (h127:Sp127 c127):Sp219 (F219 c127):=fun p0 p1 p2 p3 p4 y hy=>by
 refine qai (qaf (ek127 h127) qah) 1000000 (fn:=Tryz.f125) (by kernel_rfl) (by kernel_rfl) (X:=X219) (by kernel_rfl) ?_
 rw [eq219]
 exact (nt219 Ops.std c127 p0 p1 p2 p3 p4 _ _ some (K39 k0) (rr219 c127 p0 p1 p2 p3 p4 k0 1000000) none).trans (by show ob (F219 c127 p0 p1 p2 p3 p4) _=_;rw [hy];rfl)
noncomputable def M219:C219:=F219 M127
theorem sm219:Sp219 M219:=sf219 sm127
def X129:Aux:=⟨[],[]⟩
def T129 {R:Type} (B:Ops) (p0:Int) (p1:L47) (k:(Bool×L47)→Option R):Option R:=cond (B.inb 0 p1.length) (cond (B.inb p0 (List.length (p1.getD (Int.toNat 0) ty47.dflt))) (k ((!List.getD (p1.getD (Int.toNat 0) ty47.dflt) p0.toNat (Ty.dflt Ty.bool),p1))) none) none
abbrev K40 {R:Type} (k:AV→Objs→Option R) (y:(Bool×L47)):Option R:=k (.c (.bool y.1)) [(1,.box 43 [.list 47 ty47 y.2])]
theorem eq129 {R:Type} (B:Ops) (p0:Int) (p1:L47) (k:AV→Objs→Option R) (n:Nat):afun tau B gl0 X129 gnil ow Tryz.f129 [.c (.int .i64 p0),.c (.ptr 1 0)] [(1,.box 43 [.list 47 ty47 p1])] k n=T129 B p0 p1 (K40 k):=by kernel_rfl
theorem nt129 {R R':Type} (B:Ops) (p0:Int) (p1:L47) (k0:(Bool×L47)→Option R') (k:R'→Option R):T129 B p0 p1 (fun y=>ob (k0 y) k)=ob (T129 B p0 p1 k0) k:=by
 unfold T129
 repeat' first | exact rfl | apply qad | (apply qaj;intro)
def F129 (p0:Int) (p1:L47):Option (Bool×L47):=T129 Ops.std p0 p1 some
abbrev C129:Type:=Int→L47→Option (Bool×L47)
def e129 {R:Type} (c:C129):Ent R:=eG [.aC (.cI .i64),.aC (.cP 1)] [.oB 1 43 [.cL 47 ty47]] fun v k=>ob (c v.1 v.2.1) (K40 k)
abbrev Sp129 (c:C129):Prop:=∀ (p0:Int) (p1:L47) (y:Bool×L47),c p0 p1=some y→Spec Tryz.prog gl0 129 [.c (.int .i64 p0),.c (.ptr 1 0)] [(1,.box 43 [.list 47 ty47 p1])] (.c (.bool y.1)) [(1,.box 43 [.list 47 ty47 y.2])]
theorem ek129 {R:Type} {c:C129} (hs:Sp129 c):EOk 129 (e129 (R:=R) c):=qal fun v=>hs v.1 v.2.1
theorem sf129:Sp129 (F129):=fun p0 p1 y hy=>by
 refine qai qah 1000000 (fn:=Tryz.f129) (by kernel_rfl) (by kernel_rfl) (X:=X129) (by kernel_rfl) ?_
 rw [eq129]
 exact (nt129 Ops.std p0 p1 some (K40 k0)).trans (by show ob (F129 p0 p1) _=_;rw [hy];rfl)
noncomputable def M129:C129:=F129
theorem sm129:Sp129 M129:=sf129
def X220:Aux:=⟨[(3,([0,2,3,4,6,7,8,9,10,11]++rg 14 10))],[]⟩
inductive S220 where
 | l0 (v0 v1:Int) (v2:L4) (v3:L47)
def T220 {R:Type} (B:Ops) (c129:C129) (p0:L94) (p1:L98) (p2:L103) (p3:L68) (p4:Int) (p5:L47) (again:S220→Option R) (k:(L4×L47)→Option R):Option S220→Option R | none=>cond (bif B.eq (↑p3.length) (↑p3.length) then bif B.le 0 (↑p3.length) then B.lim (Int.toNat (↑p3.length)) 1 else false else false) (again (.l0 (Nat.cast (List.length (List.replicate (Int.toNat (↑p3.length)) (Ty.dflt Ty.bool)))) 0 (List.replicate (Int.toNat (↑p3.length)) (Ty.dflt Ty.bool)) p5)) none | some (.l0 v0 v1 v2 v3)=>cond (B.lt v1 v0) (ob (c129 v1 v3) fun y0=>cond (B.inb v1 v2.length) (again (.l0 v0 (IntKind.wrap .i64 (v1+1)) (List.set v2 v1.toNat y0.1) y0.2)) none) (k (v2,v3))
def E220 (p0:L94) (p1:L98) (p2:L103) (p3:L68) (p4:Int) (p5:L47):S220→List AV×Objs
 | .l0 v0 v1 v2 v3=>(mk 24 [(1,.fn 129 [.ptr 2500 0]),(5,.c (.own 5)),(12,.c (.int .i64 v0)),(13,.c (.int .i64 v1))],[(5,.row 4 ty4 v2),(2500,.box 43 [.list 47 ty47 v3])])
def I220:S220→Nat
 | .l0 _ _ _ _=>0
abbrev K41 {R:Type} (k:AV→Objs→Option R) (y:(L4×L47)):Option R:=k (.c (.own 500)) [(500,.row 4 ty4 y.1),(2500,.box 43 [.list 47 ty47 y.2])]
theorem eq220 {R:Type} (B:Ops) (c129:C129) (p0:L94) (p1:L98) (p2:L103) (p3:L68) (p4:Int) (p5:L47) (k:AV→Objs→Option R) (n:Nat):afun tau B gl0 X220 (ent 129 (e129 c129) gnil) ow Tryz.f125 [.agg [.list 94 ty94 p0,.list 98 ty98 p1,.list 103 ty103 p2,.list 68 ty68 p3,.int .i64 p4],.fn 129 [.ptr 2500 0]] [(2500,.box 43 [.list 47 ty47 p5])] k n=T220 B c129 p0 p1 p2 p3 p4 p5 (fun s=>aloop tau B gl0 X220 (ent 129 (e129 c129) gnil) ow [2500] Tryz.f125 k (I220 s) (E220 p0 p1 p2 p3 p4 p5 s) n) (K41 k) none:=by kernel_rfl
theorem el220 {R:Type} (B:Ops) (c129:C129) (p0:L94) (p1:L98) (p2:L103) (p3:L68) (p4:Int) (p5:L47) (k:AV→Objs→Option R) (n:Nat):∀ s,aloop tau B gl0 X220 (ent 129 (e129 c129) gnil) ow [2500] Tryz.f125 k (I220 s) (E220 p0 p1 p2 p3 p4 p5 s) (n+1)=T220 B c129 p0 p1 p2 p3 p4 p5 (fun s=>aloop tau B gl0 X220 (ent 129 (e129 c129) gnil) ow [2500] Tryz.f125 k (I220 s) (E220 p0 p1 p2 p3 p4 p5 s) n) (K41 k) (some s):=by
 intro s
 cases s<;>kernel_rfl
theorem nt220 {R R':Type} (B:Ops) (c129:C129) (p0:L94) (p1:L98) (p2:L103) (p3:L68) (p4:Int) (p5:L47) (again:S220→Option R) (again':S220→Option R') (k0:(L4×L47)→Option R') (k:R'→Option R) (h:∀ s,again s=ob (again' s) k):∀ s,T220 B c129 p0 p1 p2 p3 p4 p5 again (fun y=>ob (k0 y) k) s=ob (T220 B c129 p0 p1 p2 p3 p4 p5 again' k0 s) k:=by
 rintro (_ | x)
 all_goals try cases x
 all_goals (unfold T220;repeat' first | exact rfl | exact h _ | apply qad | (apply qaj;intro))
def R220 (c129:C129) (p0:L94) (p1:L98) (p2:L103) (p3:L68) (p4:Int) (p5:L47):Nat→S220→Option (L4×L47)
 | 0,_=>none
 | n+1,s=>T220 Ops.std c129 p0 p1 p2 p3 p4 p5 (R220 c129 p0 p1 p2 p3 p4 p5 n) some (some s)
theorem rr220 {R:Type} (c129:C129) (p0:L94) (p1:L98) (p2:L103) (p3:L68) (p4:Int) (p5:L47) (k:AV→Objs→Option R):∀ (n:Nat) (s:S220),aloop tau Ops.std gl0 X220 (ent 129 (e129 c129) gnil) ow [2500] Tryz.f125 k (I220 s) (E220 p0 p1 p2 p3 p4 p5 s) n=ob (R220 c129 p0 p1 p2 p3 p4 p5 n s) (K41 k)
 | 0,s=>by cases s<;>rfl
 | n+1,s=>by rw [el220];exact nt220 Ops.std c129 p0 p1 p2 p3 p4 p5 _ _ some (K41 k) (rr220 c129 p0 p1 p2 p3 p4 p5 k n) (some s)
def F220 (c129:C129) (p0:L94) (p1:L98) (p2:L103) (p3:L68) (p4:Int) (p5:L47):Option (L4×L47):=T220 Ops.std c129 p0 p1 p2 p3 p4 p5 (R220 c129 p0 p1 p2 p3 p4 p5 1000000) some none
abbrev C220:Type:=L94→L98→L103→L68→Int→L47→Option (L4×L47)
def e220 {R:Type} (c:C220):Ent R:=eG [.aG [.cL 94 ty94,.cL 98 ty98,.cL 103 ty103,.cL 68 ty68,.cI .i64],.aF 129 [.cP 2500]] [.oB 2500 43 [.cL 47 ty47]] fun v k=>ob (c v.1 v.2.1 v.2.2.1 v.2.2.2.1 v.2.2.2.2.1 v.2.2.2.2.2.1) (K41 k)
abbrev Sp220 (c:C220):Prop:=∀ (p0:L94) (p1:L98) (p2:L103) (p3:L68) (p4:Int) (p5:L47) (y:L4×L47),c p0 p1 p2 p3 p4 p5=some y→Spec Tryz.prog gl0 125 [.agg [.list 94 ty94 p0,.list 98 ty98 p1,.list 103 ty103 p2,.list 68 ty68 p3,.int .i64 p4],.fn 129 [.ptr 2500 0]] [(2500,.box 43 [.list 47 ty47 p5])] (.c (.own 500)) [(500,.row 4 ty4 y.1),(2500,.box 43 [.list 47 ty47 y.2])]
theorem ek220 {R:Type} {c:C220} (hs:Sp220 c):EOk 125 (e220 (R:=R) c):=qal fun v=>hs v.1 v.2.1 v.2.2.1 v.2.2.2.1 v.2.2.2.2.1 v.2.2.2.2.2.1
theorem sf220 {c129:C129} (h129:Sp129 c129):Sp220 (F220 c129):=fun p0 p1 p2 p3 p4 p5 y hy=>by
 refine qai (qaf (ek129 h129) qah) 1000000 (fn:=Tryz.f125) (by kernel_rfl) (by kernel_rfl) (X:=X220) (by kernel_rfl) ?_
 rw [eq220]
 exact (nt220 Ops.std c129 p0 p1 p2 p3 p4 p5 _ _ some (K41 k0) (rr220 c129 p0 p1 p2 p3 p4 p5 k0 1000000) none).trans (by show ob (F220 c129 p0 p1 p2 p3 p4 p5) _=_;rw [hy];rfl)
noncomputable def M220:C220:=F220 M129
theorem sm220:Sp220 M220:=sf220 sm129
def X130:Aux:=⟨[],[]⟩
def T130 {R:Type} (B:Ops) (p0:Int) (p1:L47) (k:(Bool×L47)→Option R):Option R:=cond (B.inb 0 p1.length) (cond (B.inb p0 (List.length (p1.getD (Int.toNat 0) ty47.dflt))) (cond (List.getD (p1.getD (Int.toNat 0) ty47.dflt) p0.toNat (Ty.dflt Ty.bool)) (cond (B.inb 1 p1.length) (cond (B.inb p0 (List.length (p1.getD (Int.toNat 1) ty47.dflt))) (k ((List.getD (p1.getD (Int.toNat 1) ty47.dflt) p0.toNat (Ty.dflt Ty.bool),p1))) none) none) (k (false,p1))) none) none
theorem eq130 {R:Type} (B:Ops) (p0:Int) (p1:L47) (k:AV→Objs→Option R) (n:Nat):afun tau B gl0 X130 gnil ow Tryz.f130 [.c (.int .i64 p0),.c (.ptr 1 0)] [(1,.box 43 [.list 47 ty47 p1])] k n=T130 B p0 p1 (K40 k):=by kernel_rfl
theorem nt130 {R R':Type} (B:Ops) (p0:Int) (p1:L47) (k0:(Bool×L47)→Option R') (k:R'→Option R):T130 B p0 p1 (fun y=>ob (k0 y) k)=ob (T130 B p0 p1 k0) k:=by
 unfold T130
 repeat' first | exact rfl | apply qad | (apply qaj;intro)
def F130 (p0:Int) (p1:L47):Option (Bool×L47):=T130 Ops.std p0 p1 some
abbrev C130:Type:=Int→L47→Option (Bool×L47)
def e130 {R:Type} (c:C130):Ent R:=eG [.aC (.cI .i64),.aC (.cP 1)] [.oB 1 43 [.cL 47 ty47]] fun v k=>ob (c v.1 v.2.1) (K40 k)
abbrev Sp130 (c:C130):Prop:=∀ (p0:Int) (p1:L47) (y:Bool×L47),c p0 p1=some y→Spec Tryz.prog gl0 130 [.c (.int .i64 p0),.c (.ptr 1 0)] [(1,.box 43 [.list 47 ty47 p1])] (.c (.bool y.1)) [(1,.box 43 [.list 47 ty47 y.2])]
theorem ek130 {R:Type} {c:C130} (hs:Sp130 c):EOk 130 (e130 (R:=R) c):=qal fun v=>hs v.1 v.2.1
theorem sf130:Sp130 (F130):=fun p0 p1 y hy=>by
 refine qai qah 1000000 (fn:=Tryz.f130) (by kernel_rfl) (by kernel_rfl) (X:=X130) (by kernel_rfl) ?_
 rw [eq130]
 exact (nt130 Ops.std p0 p1 some (K40 k0)).trans (by show ob (F130 p0 p1) _=_;rw [hy];rfl)
noncomputable def M130:C130:=F130
theorem sm130:Sp130 M130:=sf130
def X221:Aux:=⟨[(3,([0,2,3,4,6,7,8,9,10,11]++rg 14 10))],[]⟩
inductive S221 where
 | l0 (v0 v1:Int) (v2:L4) (v3:L47)
def T221 {R:Type} (B:Ops) (c130:C130) (p0:L94) (p1:L98) (p2:L103) (p3:L68) (p4:Int) (p5:L47) (again:S221→Option R) (k:(L4×L47)→Option R):Option S221→Option R | none=>cond (bif B.eq (↑p3.length) (↑p3.length) then bif B.le 0 (↑p3.length) then B.lim (Int.toNat (↑p3.length)) 1 else false else false) (again (.l0 (Nat.cast (List.length (List.replicate (Int.toNat (↑p3.length)) (Ty.dflt Ty.bool)))) 0 (List.replicate (Int.toNat (↑p3.length)) (Ty.dflt Ty.bool)) p5)) none | some (.l0 v0 v1 v2 v3)=>cond (B.lt v1 v0) (ob (c130 v1 v3) fun y0=>cond (B.inb v1 v2.length) (again (.l0 v0 (IntKind.wrap .i64 (v1+1)) (List.set v2 v1.toNat y0.1) y0.2)) none) (k (v2,v3))
def E221 (p0:L94) (p1:L98) (p2:L103) (p3:L68) (p4:Int) (p5:L47):S221→List AV×Objs
 | .l0 v0 v1 v2 v3=>(mk 24 [(1,.fn 130 [.ptr 2500 0]),(5,.c (.own 5)),(12,.c (.int .i64 v0)),(13,.c (.int .i64 v1))],[(5,.row 4 ty4 v2),(2500,.box 43 [.list 47 ty47 v3])])
def I221:S221→Nat
 | .l0 _ _ _ _=>0
theorem eq221 {R:Type} (B:Ops) (c130:C130) (p0:L94) (p1:L98) (p2:L103) (p3:L68) (p4:Int) (p5:L47) (k:AV→Objs→Option R) (n:Nat):afun tau B gl0 X221 (ent 130 (e130 c130) gnil) ow Tryz.f125 [.agg [.list 94 ty94 p0,.list 98 ty98 p1,.list 103 ty103 p2,.list 68 ty68 p3,.int .i64 p4],.fn 130 [.ptr 2500 0]] [(2500,.box 43 [.list 47 ty47 p5])] k n=T221 B c130 p0 p1 p2 p3 p4 p5 (fun s=>aloop tau B gl0 X221 (ent 130 (e130 c130) gnil) ow [2500] Tryz.f125 k (I221 s) (E221 p0 p1 p2 p3 p4 p5 s) n) (K41 k) none:=by kernel_rfl
theorem el221 {R:Type} (B:Ops) (c130:C130) (p0:L94) (p1:L98) (p2:L103) (p3:L68) (p4:Int) (p5:L47) (k:AV→Objs→Option R) (n:Nat):∀ s,aloop tau B gl0 X221 (ent 130 (e130 c130) gnil) ow [2500] Tryz.f125 k (I221 s) (E221 p0 p1 p2 p3 p4 p5 s) (n+1)=T221 B c130 p0 p1 p2 p3 p4 p5 (fun s=>aloop tau B gl0 X221 (ent 130 (e130 c130) gnil) ow [2500] Tryz.f125 k (I221 s) (E221 p0 p1 p2 p3 p4 p5 s) n) (K41 k) (some s):=by
 intro s
 cases s<;>kernel_rfl
theorem nt221 {R R':Type} (B:Ops) (c130:C130) (p0:L94) (p1:L98) (p2:L103) (p3:L68) (p4:Int) (p5:L47) (again:S221→Option R) (again':S221→Option R') (k0:(L4×L47)→Option R') (k:R'→Option R) (h:∀ s,again s=ob (again' s) k):∀ s,T221 B c130 p0 p1 p2 p3 p4 p5 again (fun y=>ob (k0 y) k) s=ob (T221 B c130 p0 p1 p2 p3 p4 p5 again' k0 s) k:=by
 rintro (_ | x)
 all_goals try cases x
 all_goals (unfold T221;repeat' first | exact rfl | exact h _ | apply qad | (apply qaj;intro))
def R221 (c130:C130) (p0:L94) (p1:L98) (p2:L103) (p3:L68) (p4:Int) (p5:L47):Nat→S221→Option (L4×L47)
 | 0,_=>none
 | n+1,s=>T221 Ops.std c130 p0 p1 p2 p3 p4 p5 (R221 c130 p0 p1 p2 p3 p4 p5 n) some (some s)
theorem rr221 {R:Type} (c130:C130) (p0:L94) (p1:L98) (p2:L103) (p3:L68) (p4:Int) (p5:L47) (k:AV→Objs→Option R):∀ (n:Nat) (s:S221),aloop tau Ops.std gl0 X221 (ent 130 (e130 c130) gnil) ow [2500] Tryz.f125 k (I221 s) (E221 p0 p1 p2 p3 p4 p5 s) n=ob (R221 c130 p0 p1 p2 p3 p4 p5 n s) (K41 k)
 | 0,s=>by cases s<;>rfl
 | n+1,s=>by rw [el221];exact nt221 Ops.std c130 p0 p1 p2 p3 p4 p5 _ _ some (K41 k) (rr221 c130 p0 p1 p2 p3 p4 p5 k n) (some s)
def F221 (c130:C130) (p0:L94) (p1:L98) (p2:L103) (p3:L68) (p4:Int) (p5:L47):Option (L4×L47):=T221 Ops.std c130 p0 p1 p2 p3 p4 p5 (R221 c130 p0 p1 p2 p3 p4 p5 1000000) some none
abbrev C221:Type:=L94→L98→L103→L68→Int→L47→Option (L4×L47)
def e221 {R:Type} (c:C221):Ent R:=eG [.aG [.cL 94 ty94,.cL 98 ty98,.cL 103 ty103,.cL 68 ty68,.cI .i64],.aF 130 [.cP 2500]] [.oB 2500 43 [.cL 47 ty47]] fun v k=>ob (c v.1 v.2.1 v.2.2.1 v.2.2.2.1 v.2.2.2.2.1 v.2.2.2.2.2.1) (K41 k)
abbrev Sp221 (c:C221):Prop:=∀ (p0:L94) (p1:L98) (p2:L103) (p3:L68) (p4:Int) (p5:L47) (y:L4×L47),c p0 p1 p2 p3 p4 p5=some y→Spec Tryz.prog gl0 125 [.agg [.list 94 ty94 p0,.list 98 ty98 p1,.list 103 ty103 p2,.list 68 ty68 p3,.int .i64 p4],.fn 130 [.ptr 2500 0]] [(2500,.box 43 [.list 47 ty47 p5])] (.c (.own 500)) [(500,.row 4 ty4 y.1),(2500,.box 43 [.list 47 ty47 y.2])]
theorem ek221 {R:Type} {c:C221} (hs:Sp221 c):EOk 125 (e221 (R:=R) c):=qal fun v=>hs v.1 v.2.1 v.2.2.1 v.2.2.2.1 v.2.2.2.2.1 v.2.2.2.2.2.1
theorem sf221 {c130:C130} (h130:Sp130 c130):Sp221 (F221 c130):=fun p0 p1 p2 p3 p4 p5 y hy=>by
 refine qai (qaf (ek130 h130) qah) 1000000 (fn:=Tryz.f125) (by kernel_rfl) (by kernel_rfl) (X:=X221) (by kernel_rfl) ?_
 rw [eq221]
 exact (nt221 Ops.std c130 p0 p1 p2 p3 p4 p5 _ _ some (K41 k0) (rr221 c130 p0 p1 p2 p3 p4 p5 k0 1000000) none).trans (by show ob (F221 c130 p0 p1 p2 p3 p4 p5) _=_;rw [hy];rfl)
noncomputable def M221:C221:=F221 M130
theorem sm221:Sp221 M221:=sf221 sm130
def X131:Aux:=⟨[],[]⟩
def T131 {R:Type} (B:Ops) (p0:Int) (p1:L47) (k:(Bool×L47)→Option R):Option R:=cond (B.inb 0 p1.length) (cond (B.inb p0 (List.length (p1.getD (Int.toNat 0) ty47.dflt))) (cond (List.getD (p1.getD (Int.toNat 0) ty47.dflt) p0.toNat (Ty.dflt Ty.bool)) (k (true,p1)) (cond (B.inb 1 p1.length) (cond (B.inb p0 (List.length (p1.getD (Int.toNat 1) ty47.dflt))) (k ((List.getD (p1.getD (Int.toNat 1) ty47.dflt) p0.toNat (Ty.dflt Ty.bool),p1))) none) none)) none) none
theorem eq131 {R:Type} (B:Ops) (p0:Int) (p1:L47) (k:AV→Objs→Option R) (n:Nat):afun tau B gl0 X131 gnil ow Tryz.f131 [.c (.int .i64 p0),.c (.ptr 1 0)] [(1,.box 43 [.list 47 ty47 p1])] k n=T131 B p0 p1 (K40 k):=by kernel_rfl
theorem nt131 {R R':Type} (B:Ops) (p0:Int) (p1:L47) (k0:(Bool×L47)→Option R') (k:R'→Option R):T131 B p0 p1 (fun y=>ob (k0 y) k)=ob (T131 B p0 p1 k0) k:=by
 unfold T131
 repeat' first | exact rfl | apply qad | (apply qaj;intro)
def F131 (p0:Int) (p1:L47):Option (Bool×L47):=T131 Ops.std p0 p1 some
abbrev C131:Type:=Int→L47→Option (Bool×L47)
def e131 {R:Type} (c:C131):Ent R:=eG [.aC (.cI .i64),.aC (.cP 1)] [.oB 1 43 [.cL 47 ty47]] fun v k=>ob (c v.1 v.2.1) (K40 k)
abbrev Sp131 (c:C131):Prop:=∀ (p0:Int) (p1:L47) (y:Bool×L47),c p0 p1=some y→Spec Tryz.prog gl0 131 [.c (.int .i64 p0),.c (.ptr 1 0)] [(1,.box 43 [.list 47 ty47 p1])] (.c (.bool y.1)) [(1,.box 43 [.list 47 ty47 y.2])]
theorem ek131 {R:Type} {c:C131} (hs:Sp131 c):EOk 131 (e131 (R:=R) c):=qal fun v=>hs v.1 v.2.1
theorem sf131:Sp131 (F131):=fun p0 p1 y hy=>by
 refine qai qah 1000000 (fn:=Tryz.f131) (by kernel_rfl) (by kernel_rfl) (X:=X131) (by kernel_rfl) ?_
 rw [eq131]
 exact (nt131 Ops.std p0 p1 some (K40 k0)).trans (by show ob (F131 p0 p1) _=_;rw [hy];rfl)
noncomputable def M131:C131:=F131
theorem sm131:Sp131 M131:=sf131
def X222:Aux:=⟨[(3,([0,2,3,4,6,7,8,9,10,11]++rg 14 10))],[]⟩
inductive S222 where
 | l0 (v0 v1:Int) (v2:L4) (v3:L47)
def T222 {R:Type} (B:Ops) (c131:C131) (p0:L94) (p1:L98) (p2:L103) (p3:L68) (p4:Int) (p5:L47) (again:S222→Option R) (k:(L4×L47)→Option R):Option S222→Option R | none=>cond (bif B.eq (↑p3.length) (↑p3.length) then bif B.le 0 (↑p3.length) then B.lim (Int.toNat (↑p3.length)) 1 else false else false) (again (.l0 (Nat.cast (List.length (List.replicate (Int.toNat (↑p3.length)) (Ty.dflt Ty.bool)))) 0 (List.replicate (Int.toNat (↑p3.length)) (Ty.dflt Ty.bool)) p5)) none | some (.l0 v0 v1 v2 v3)=>cond (B.lt v1 v0) (ob (c131 v1 v3) fun y0=>cond (B.inb v1 v2.length) (again (.l0 v0 (IntKind.wrap .i64 (v1+1)) (List.set v2 v1.toNat y0.1) y0.2)) none) (k (v2,v3))
def E222 (p0:L94) (p1:L98) (p2:L103) (p3:L68) (p4:Int) (p5:L47):S222→List AV×Objs
 | .l0 v0 v1 v2 v3=>(mk 24 [(1,.fn 131 [.ptr 2500 0]),(5,.c (.own 5)),(12,.c (.int .i64 v0)),(13,.c (.int .i64 v1))],[(5,.row 4 ty4 v2),(2500,.box 43 [.list 47 ty47 v3])])
def I222:S222→Nat
 | .l0 _ _ _ _=>0
theorem eq222 {R:Type} (B:Ops) (c131:C131) (p0:L94) (p1:L98) (p2:L103) (p3:L68) (p4:Int) (p5:L47) (k:AV→Objs→Option R) (n:Nat):afun tau B gl0 X222 (ent 131 (e131 c131) gnil) ow Tryz.f125 [.agg [.list 94 ty94 p0,.list 98 ty98 p1,.list 103 ty103 p2,.list 68 ty68 p3,.int .i64 p4],.fn 131 [.ptr 2500 0]] [(2500,.box 43 [.list 47 ty47 p5])] k n=T222 B c131 p0 p1 p2 p3 p4 p5 (fun s=>aloop tau B gl0 X222 (ent 131 (e131 c131) gnil) ow [2500] Tryz.f125 k (I222 s) (E222 p0 p1 p2 p3 p4 p5 s) n) (K41 k) none:=by kernel_rfl
theorem el222 {R:Type} (B:Ops) (c131:C131) (p0:L94) (p1:L98) (p2:L103) (p3:L68) (p4:Int) (p5:L47) (k:AV→Objs→Option R) (n:Nat):∀ s,aloop tau B gl0 X222 (ent 131 (e131 c131) gnil) ow [2500] Tryz.f125 k (I222 s) (E222 p0 p1 p2 p3 p4 p5 s) (n+1)=T222 B c131 p0 p1 p2 p3 p4 p5 (fun s=>aloop tau B gl0 X222 (ent 131 (e131 c131) gnil) ow [2500] Tryz.f125 k (I222 s) (E222 p0 p1 p2 p3 p4 p5 s) n) (K41 k) (some s):=by
 intro s
 cases s<;>kernel_rfl
theorem nt222 {R R':Type} (B:Ops) (c131:C131) (p0:L94) (p1:L98) (p2:L103) (p3:L68) (p4:Int) (p5:L47) (again:S222→Option R) (again':S222→Option R') (k0:(L4×L47)→Option R') (k:R'→Option R) (h:∀ s,again s=ob (again' s) k):∀ s,T222 B c131 p0 p1 p2 p3 p4 p5 again (fun y=>ob (k0 y) k) s=ob (T222 B c131 p0 p1 p2 p3 p4 p5 again' k0 s) k:=by
 rintro (_ | x)
 all_goals try cases x
 all_goals (unfold T222;repeat' first | exact rfl | exact h _ | apply qad | (apply qaj;intro))
def R222 (c131:C131) (p0:L94) (p1:L98) (p2:L103) (p3:L68) (p4:Int) (p5:L47):Nat→S222→Option (L4×L47)
 | 0,_=>none
 | n+1,s=>T222 Ops.std c131 p0 p1 p2 p3 p4 p5 (R222 c131 p0 p1 p2 p3 p4 p5 n) some (some s)
theorem rr222 {R:Type} (c131:C131) (p0:L94) (p1:L98) (p2:L103) (p3:L68) (p4:Int) (p5:L47) (k:AV→Objs→Option R):∀ (n:Nat) (s:S222),aloop tau Ops.std gl0 X222 (ent 131 (e131 c131) gnil) ow [2500] Tryz.f125 k (I222 s) (E222 p0 p1 p2 p3 p4 p5 s) n=ob (R222 c131 p0 p1 p2 p3 p4 p5 n s) (K41 k)
 | 0,s=>by cases s<;>rfl
 | n+1,s=>by rw [el222];exact nt222 Ops.std c131 p0 p1 p2 p3 p4 p5 _ _ some (K41 k) (rr222 c131 p0 p1 p2 p3 p4 p5 k n) (some s)
def F222 (c131:C131) (p0:L94) (p1:L98) (p2:L103) (p3:L68) (p4:Int) (p5:L47):Option (L4×L47):=T222 Ops.std c131 p0 p1 p2 p3 p4 p5 (R222 c131 p0 p1 p2 p3 p4 p5 1000000) some none
abbrev C222:Type:=L94→L98→L103→L68→Int→L47→Option (L4×L47)
def e222 {R:Type} (c:C222):Ent R:=eG [.aG [.cL 94 ty94,.cL 98 ty98,.cL 103 ty103,.cL 68 ty68,.cI .i64],.aF 131 [.cP 2500]] [.oB 2500 43 [.cL 47 ty47]] fun v k=>ob (c v.1 v.2.1 v.2.2.1 v.2.2.2.1 v.2.2.2.2.1 v.2.2.2.2.2.1) (K41 k)
abbrev Sp222 (c:C222):Prop:=∀ (p0:L94) (p1:L98) (p2:L103) (p3:L68) (p4:Int) (p5:L47) (y:L4×L47),c p0 p1 p2 p3 p4 p5=some y→Spec Tryz.prog gl0 125 [.agg [.list 94 ty94 p0,.list 98 ty98 p1,.list 103 ty103 p2,.list 68 ty68 p3,.int .i64 p4],.fn 131 [.ptr 2500 0]] [(2500,.box 43 [.list 47 ty47 p5])] (.c (.own 500)) [(500,.row 4 ty4 y.1),(2500,.box 43 [.list 47 ty47 y.2])]
theorem ek222 {R:Type} {c:C222} (hs:Sp222 c):EOk 125 (e222 (R:=R) c):=qal fun v=>hs v.1 v.2.1 v.2.2.1 v.2.2.2.1 v.2.2.2.2.1 v.2.2.2.2.2.1
theorem sf222 {c131:C131} (h131:Sp131 c131):Sp222 (F222 c131):=fun p0 p1 p2 p3 p4 p5 y hy=>by
 refine qai (qaf (ek131 h131) qah) 1000000 (fn:=Tryz.f125) (by kernel_rfl) (by kernel_rfl) (X:=X222) (by kernel_rfl) ?_
 rw [eq222]
 exact (nt222 Ops.std c131 p0 p1 p2 p3 p4 p5 _ _ some (K41 k0) (rr222 c131 p0 p1 p2 p3 p4 p5 k0 1000000) none).trans (by show ob (F222 c131 p0 p1 p2 p3 p4 p5) _=_;rw [hy];rfl)
noncomputable def M222:C222:=F222 M131
theorem sm222:Sp222 M222:=sf222 sm131
def X132:Aux:=⟨[],[]⟩
def T132 {R:Type} (B:Ops) (p0:Int) (p1:L47) (k:(Bool×L47)→Option R):Option R:=cond (B.inb 0 p1.length) (cond (B.inb p0 (List.length (p1.getD (Int.toNat 0) ty47.dflt))) (cond (!List.getD (p1.getD (Int.toNat 0) ty47.dflt) p0.toNat (Ty.dflt Ty.bool)) (k (true,p1)) (cond (B.inb 1 p1.length) (cond (B.inb p0 (List.length (p1.getD (Int.toNat 1) ty47.dflt))) (k ((List.getD (p1.getD (Int.toNat 1) ty47.dflt) p0.toNat (Ty.dflt Ty.bool),p1))) none) none)) none) none
theorem eq132 {R:Type} (B:Ops) (p0:Int) (p1:L47) (k:AV→Objs→Option R) (n:Nat):afun tau B gl0 X132 gnil ow Tryz.f132 [.c (.int .i64 p0),.c (.ptr 1 0)] [(1,.box 43 [.list 47 ty47 p1])] k n=T132 B p0 p1 (K40 k):=by kernel_rfl
theorem nt132 {R R':Type} (B:Ops) (p0:Int) (p1:L47) (k0:(Bool×L47)→Option R') (k:R'→Option R):T132 B p0 p1 (fun y=>ob (k0 y) k)=ob (T132 B p0 p1 k0) k:=by
 unfold T132
 repeat' first | exact rfl | apply qad | (apply qaj;intro)
def F132 (p0:Int) (p1:L47):Option (Bool×L47):=T132 Ops.std p0 p1 some
abbrev C132:Type:=Int→L47→Option (Bool×L47)
def e132 {R:Type} (c:C132):Ent R:=eG [.aC (.cI .i64),.aC (.cP 1)] [.oB 1 43 [.cL 47 ty47]] fun v k=>ob (c v.1 v.2.1) (K40 k)
abbrev Sp132 (c:C132):Prop:=∀ (p0:Int) (p1:L47) (y:Bool×L47),c p0 p1=some y→Spec Tryz.prog gl0 132 [.c (.int .i64 p0),.c (.ptr 1 0)] [(1,.box 43 [.list 47 ty47 p1])] (.c (.bool y.1)) [(1,.box 43 [.list 47 ty47 y.2])]
theorem ek132 {R:Type} {c:C132} (hs:Sp132 c):EOk 132 (e132 (R:=R) c):=qal fun v=>hs v.1 v.2.1
theorem sf132:Sp132 (F132):=fun p0 p1 y hy=>by
 refine qai qah 1000000 (fn:=Tryz.f132) (by kernel_rfl) (by kernel_rfl) (X:=X132) (by kernel_rfl) ?_
 rw [eq132]
 exact (nt132 Ops.std p0 p1 some (K40 k0)).trans (by show ob (F132 p0 p1) _=_;rw [hy];rfl)
noncomputable def M132:C132:=F132
theorem sm132:Sp132 M132:=sf132
def X223:Aux:=⟨[(3,([0,2,3,4,6,7,8,9,10,11]++rg 14 10))],[]⟩
inductive S223 where
 | l0 (v0 v1:Int) (v2:L4) (v3:L47)
def T223 {R:Type} (B:Ops) (c132:C132) (p0:L94) (p1:L98) (p2:L103) (p3:L68) (p4:Int) (p5:L47) (again:S223→Option R) (k:(L4×L47)→Option R):Option S223→Option R | none=>cond (bif B.eq (↑p3.length) (↑p3.length) then bif B.le 0 (↑p3.length) then B.lim (Int.toNat (↑p3.length)) 1 else false else false) (again (.l0 (Nat.cast (List.length (List.replicate (Int.toNat (↑p3.length)) (Ty.dflt Ty.bool)))) 0 (List.replicate (Int.toNat (↑p3.length)) (Ty.dflt Ty.bool)) p5)) none | some (.l0 v0 v1 v2 v3)=>cond (B.lt v1 v0) (ob (c132 v1 v3) fun y0=>cond (B.inb v1 v2.length) (again (.l0 v0 (IntKind.wrap .i64 (v1+1)) (List.set v2 v1.toNat y0.1) y0.2)) none) (k (v2,v3))
def E223 (p0:L94) (p1:L98) (p2:L103) (p3:L68) (p4:Int) (p5:L47):S223→List AV×Objs
 | .l0 v0 v1 v2 v3=>(mk 24 [(1,.fn 132 [.ptr 2500 0]),(5,.c (.own 5)),(12,.c (.int .i64 v0)),(13,.c (.int .i64 v1))],[(5,.row 4 ty4 v2),(2500,.box 43 [.list 47 ty47 v3])])
def I223:S223→Nat
 | .l0 _ _ _ _=>0
theorem eq223 {R:Type} (B:Ops) (c132:C132) (p0:L94) (p1:L98) (p2:L103) (p3:L68) (p4:Int) (p5:L47) (k:AV→Objs→Option R) (n:Nat):afun tau B gl0 X223 (ent 132 (e132 c132) gnil) ow Tryz.f125 [.agg [.list 94 ty94 p0,.list 98 ty98 p1,.list 103 ty103 p2,.list 68 ty68 p3,.int .i64 p4],.fn 132 [.ptr 2500 0]] [(2500,.box 43 [.list 47 ty47 p5])] k n=T223 B c132 p0 p1 p2 p3 p4 p5 (fun s=>aloop tau B gl0 X223 (ent 132 (e132 c132) gnil) ow [2500] Tryz.f125 k (I223 s) (E223 p0 p1 p2 p3 p4 p5 s) n) (K41 k) none:=by kernel_rfl
theorem el223 {R:Type} (B:Ops) (c132:C132) (p0:L94) (p1:L98) (p2:L103) (p3:L68) (p4:Int) (p5:L47) (k:AV→Objs→Option R) (n:Nat):∀ s,aloop tau B gl0 X223 (ent 132 (e132 c132) gnil) ow [2500] Tryz.f125 k (I223 s) (E223 p0 p1 p2 p3 p4 p5 s) (n+1)=T223 B c132 p0 p1 p2 p3 p4 p5 (fun s=>aloop tau B gl0 X223 (ent 132 (e132 c132) gnil) ow [2500] Tryz.f125 k (I223 s) (E223 p0 p1 p2 p3 p4 p5 s) n) (K41 k) (some s):=by
 intro s
 cases s<;>kernel_rfl
theorem nt223 {R R':Type} (B:Ops) (c132:C132) (p0:L94) (p1:L98) (p2:L103) (p3:L68) (p4:Int) (p5:L47) (again:S223→Option R) (again':S223→Option R') (k0:(L4×L47)→Option R') (k:R'→Option R) (h:∀ s,again s=ob (again' s) k):∀ s,T223 B c132 p0 p1 p2 p3 p4 p5 again (fun y=>ob (k0 y) k) s=ob (T223 B c132 p0 p1 p2 p3 p4 p5 again' k0 s) k:=by
 rintro (_ | x)
 all_goals try cases x
 all_goals (unfold T223;repeat' first | exact rfl | exact h _ | apply qad | (apply qaj;intro))
def R223 (c132:C132) (p0:L94) (p1:L98) (p2:L103) (p3:L68) (p4:Int) (p5:L47):Nat→S223→Option (L4×L47)
 | 0,_=>none
 | n+1,s=>T223 Ops.std c132 p0 p1 p2 p3 p4 p5 (R223 c132 p0 p1 p2 p3 p4 p5 n) some (some s)
theorem rr223 {R:Type} (c132:C132) (p0:L94) (p1:L98) (p2:L103) (p3:L68) (p4:Int) (p5:L47) (k:AV→Objs→Option R):∀ (n:Nat) (s:S223),aloop tau Ops.std gl0 X223 (ent 132 (e132 c132) gnil) ow [2500] Tryz.f125 k (I223 s) (E223 p0 p1 p2 p3 p4 p5 s) n=ob (R223 c132 p0 p1 p2 p3 p4 p5 n s) (K41 k)
 | 0,s=>by cases s<;>rfl
 | n+1,s=>by rw [el223];exact nt223 Ops.std c132 p0 p1 p2 p3 p4 p5 _ _ some (K41 k) (rr223 c132 p0 p1 p2 p3 p4 p5 k n) (some s)
def F223 (c132:C132) (p0:L94) (p1:L98) (p2:L103) (p3:L68) (p4:Int) (p5:L47):Option (L4×L47):=T223 Ops.std c132 p0 p1 p2 p3 p4 p5 (R223 c132 p0 p1 p2 p3 p4 p5 1000000) some none
abbrev C223:Type:=L94→L98→L103→L68→Int→L47→Option (L4×L47)
def e223 {R:Type} (c:C223):Ent R:=eG [.aG [.cL 94 ty94,.cL 98 ty98,.cL 103 ty103,.cL 68 ty68,.cI .i64],.aF 132 [.cP 2500]] [.oB 2500 43 [.cL 47 ty47]] fun v k=>ob (c v.1 v.2.1 v.2.2.1 v.2.2.2.1 v.2.2.2.2.1 v.2.2.2.2.2.1) (K41 k)
abbrev Sp223 (c:C223):Prop:=∀ (p0:L94) (p1:L98) (p2:L103) (p3:L68) (p4:Int) (p5:L47) (y:L4×L47),c p0 p1 p2 p3 p4 p5=some y→Spec Tryz.prog gl0 125 [.agg [.list 94 ty94 p0,.list 98 ty98 p1,.list 103 ty103 p2,.list 68 ty68 p3,.int .i64 p4],.fn 132 [.ptr 2500 0]] [(2500,.box 43 [.list 47 ty47 p5])] (.c (.own 500)) [(500,.row 4 ty4 y.1),(2500,.box 43 [.list 47 ty47 y.2])]
theorem ek223 {R:Type} {c:C223} (hs:Sp223 c):EOk 125 (e223 (R:=R) c):=qal fun v=>hs v.1 v.2.1 v.2.2.1 v.2.2.2.1 v.2.2.2.2.1 v.2.2.2.2.2.1
theorem sf223 {c132:C132} (h132:Sp132 c132):Sp223 (F223 c132):=fun p0 p1 p2 p3 p4 p5 y hy=>by
 refine qai (qaf (ek132 h132) qah) 1000000 (fn:=Tryz.f125) (by kernel_rfl) (by kernel_rfl) (X:=X223) (by kernel_rfl) ?_
 rw [eq223]
 exact (nt223 Ops.std c132 p0 p1 p2 p3 p4 p5 _ _ some (K41 k0) (rr223 c132 p0 p1 p2 p3 p4 p5 k0 1000000) none).trans (by show ob (F223 c132 p0 p1 p2 p3 p4 p5) _=_;rw [hy];rfl)
noncomputable def M223:C223:=F223 M132
theorem sm223:Sp223 M223:=sf223 sm132
def X134:Aux:=⟨[],[]⟩
def T134 {R:Type} (B:Ops) (p0:L94) (p1:L98) (p2:L103) (p3:L68) (p4 p5:Int) (k:(Int)→Option R):Option R:=cond (B.lt (IntKind.wrap .i64 (p5+1)) (↑p3.length)) (k (IntKind.wrap .i64 (p5+1))) (k p4)
theorem eq134 {R:Type} (B:Ops) (p0:L94) (p1:L98) (p2:L103) (p3:L68) (p4 p5:Int) (k:AV→Objs→Option R) (n:Nat):afun tau B gl0 X134 gnil ow Tryz.f134 [.agg [.list 94 ty94 p0,.list 98 ty98 p1,.list 103 ty103 p2,.list 68 ty68 p3,.int .i64 p4],.c (.int .i64 p5)] [] k n=T134 B p0 p1 p2 p3 p4 p5 (K1 k):=by kernel_rfl
theorem nt134 {R R':Type} (B:Ops) (p0:L94) (p1:L98) (p2:L103) (p3:L68) (p4 p5:Int) (k0:(Int)→Option R') (k:R'→Option R):T134 B p0 p1 p2 p3 p4 p5 (fun y=>ob (k0 y) k)=ob (T134 B p0 p1 p2 p3 p4 p5 k0) k:=by
 unfold T134
 repeat' first | exact rfl | apply qad | (apply qaj;intro)
def F134 (p0:L94) (p1:L98) (p2:L103) (p3:L68) (p4 p5:Int):Option (Int):=T134 Ops.std p0 p1 p2 p3 p4 p5 some
abbrev C134:Type:=L94→L98→L103→L68→Int→Int→Option (Int)
def e134 {R:Type} (c:C134):Ent R:=eG [.aG [.cL 94 ty94,.cL 98 ty98,.cL 103 ty103,.cL 68 ty68,.cI .i64],.aC (.cI .i64)] [] fun v k=>ob (c v.1 v.2.1 v.2.2.1 v.2.2.2.1 v.2.2.2.2.1 v.2.2.2.2.2.1) (K1 k)
abbrev Sp134 (c:C134):Prop:=∀ (p0:L94) (p1:L98) (p2:L103) (p3:L68) (p4 p5 y:Int),c p0 p1 p2 p3 p4 p5=some y→Spec Tryz.prog gl0 134 [.agg [.list 94 ty94 p0,.list 98 ty98 p1,.list 103 ty103 p2,.list 68 ty68 p3,.int .i64 p4],.c (.int .i64 p5)] [] (.c (.int .i64 y)) []
theorem ek134 {R:Type} {c:C134} (hs:Sp134 c):EOk 134 (e134 (R:=R) c):=qal fun v=>hs v.1 v.2.1 v.2.2.1 v.2.2.2.1 v.2.2.2.2.1 v.2.2.2.2.2.1
theorem sf134:Sp134 (F134):=fun p0 p1 p2 p3 p4 p5 y hy=>by
 refine qai qah 1000000 (fn:=Tryz.f134) (by kernel_rfl) (by kernel_rfl) (X:=X134) (by kernel_rfl) ?_
 rw [eq134]
 exact (nt134 Ops.std p0 p1 p2 p3 p4 p5 some (K1 k0)).trans (by show ob (F134 p0 p1 p2 p3 p4 p5) _=_;rw [hy];rfl)
noncomputable def M134:C134:=F134
theorem sm134:Sp134 M134:=sf134
def X133:Aux:=⟨[],[(1,.lin [0,1,2,3,4,5,6,7,8])]⟩
def T133 {R:Type} (B:Ops) (c134:C134) (p0:Int) (p1:L47) (p2:L94) (p3:L98) (p4:L103) (p5:L68) (p6:Int) (k:(Bool×L47×L94×L98×L103×L68×Int)→Option R):Option R:=cond (B.inb 0 p1.length) (ob (c134 p2 p3 p4 p5 p6 p0) fun y0=>cond (B.inb y0 (List.length (p1.getD (Int.toNat 0) ty47.dflt))) (k ((List.getD (p1.getD (Int.toNat 0) ty47.dflt) y0.toNat (Ty.dflt Ty.bool),p1,p2,p3,p4,p5,p6))) none) none
abbrev K42 {R:Type} (k:AV→Objs→Option R) (y:(Bool×L47×L94×L98×L103×L68×Int)):Option R:=k (.c (.bool y.1)) [(1,.box 43 [.list 47 ty47 y.2.1]),(2,.box 117 [.list 94 ty94 y.2.2.1,.list 98 ty98 y.2.2.2.1,.list 103 ty103 y.2.2.2.2.1,.list 68 ty68 y.2.2.2.2.2.1,.int .i64 y.2.2.2.2.2.2])]
theorem eq133 {R:Type} (B:Ops) (c134:C134) (p0:Int) (p1:L47) (p2:L94) (p3:L98) (p4:L103) (p5:L68) (p6:Int) (k:AV→Objs→Option R) (n:Nat):afun tau B gl0 X133 (ent 134 (e134 c134) gnil) ow Tryz.f133 [.c (.int .i64 p0),.c (.ptr 1 0),.c (.ptr 2 0)] [(1,.box 43 [.list 47 ty47 p1]),(2,.box 117 [.list 94 ty94 p2,.list 98 ty98 p3,.list 103 ty103 p4,.list 68 ty68 p5,.int .i64 p6])] k n=T133 B c134 p0 p1 p2 p3 p4 p5 p6 (K42 k):=by kernel_rfl
theorem nt133 {R R':Type} (B:Ops) (c134:C134) (p0:Int) (p1:L47) (p2:L94) (p3:L98) (p4:L103) (p5:L68) (p6:Int) (k0:(Bool×L47×L94×L98×L103×L68×Int)→Option R') (k:R'→Option R):T133 B c134 p0 p1 p2 p3 p4 p5 p6 (fun y=>ob (k0 y) k)=ob (T133 B c134 p0 p1 p2 p3 p4 p5 p6 k0) k:=by
 unfold T133
 repeat' first | exact rfl | apply qad | (apply qaj;intro)
def F133 (c134:C134) (p0:Int) (p1:L47) (p2:L94) (p3:L98) (p4:L103) (p5:L68) (p6:Int):Option (Bool×L47×L94×L98×L103×L68×Int):=T133 Ops.std c134 p0 p1 p2 p3 p4 p5 p6 some
abbrev C133:Type:=Int→L47→L94→L98→L103→L68→Int→Option (Bool×L47×L94×L98×L103×L68×Int)
def e133 {R:Type} (c:C133):Ent R:=eG [.aC (.cI .i64),.aC (.cP 1),.aC (.cP 2)] [.oB 1 43 [.cL 47 ty47],.oB 2 117 [.cL 94 ty94,.cL 98 ty98,.cL 103 ty103,.cL 68 ty68,.cI .i64]] fun v k=>ob (c v.1 v.2.1 v.2.2.1 v.2.2.2.1 v.2.2.2.2.1 v.2.2.2.2.2.1 v.2.2.2.2.2.2.1) (K42 k)
abbrev Sp133 (c:C133):Prop:=∀ (p0:Int) (p1:L47) (p2:L94) (p3:L98) (p4:L103) (p5:L68) (p6:Int) (y:Bool×L47×L94×L98×L103×L68×Int),c p0 p1 p2 p3 p4 p5 p6=some y→Spec Tryz.prog gl0 133 [.c (.int .i64 p0),.c (.ptr 1 0),.c (.ptr 2 0)] [(1,.box 43 [.list 47 ty47 p1]),(2,.box 117 [.list 94 ty94 p2,.list 98 ty98 p3,.list 103 ty103 p4,.list 68 ty68 p5,.int .i64 p6])] (.c (.bool y.1)) [(1,.box 43 [.list 47 ty47 y.2.1]),(2,.box 117 [.list 94 ty94 y.2.2.1,.list 98 ty98 y.2.2.2.1,.list 103 ty103 y.2.2.2.2.1,.list 68 ty68 y.2.2.2.2.2.1,.int .i64 y.2.2.2.2.2.2])]
theorem ek133 {R:Type} {c:C133} (hs:Sp133 c):EOk 133 (e133 (R:=R) c):=qal fun v=>hs v.1 v.2.1 v.2.2.1 v.2.2.2.1 v.2.2.2.2.1 v.2.2.2.2.2.1 v.2.2.2.2.2.2.1
theorem sf133 {c134:C134} (h134:Sp134 c134):Sp133 (F133 c134):=fun p0 p1 p2 p3 p4 p5 p6 y hy=>by
 refine qai (qaf (ek134 h134) qah) 1000000 (fn:=Tryz.f133) (by kernel_rfl) (by kernel_rfl) (X:=X133) (by kernel_rfl) ?_
 rw [eq133]
 exact (nt133 Ops.std c134 p0 p1 p2 p3 p4 p5 p6 some (K42 k0)).trans (by show ob (F133 c134 p0 p1 p2 p3 p4 p5 p6) _=_;rw [hy];rfl)
noncomputable def M133:C133:=F133 M134
theorem sm133:Sp133 M133:=sf133 sm134
def X224:Aux:=⟨[(3,([0,2,3,4,6,7,8,9,10,11]++rg 14 10))],[]⟩
inductive S224 where
 | l0 (v0 v1:Int) (v2:L4) (v3:L47) (v4:L94) (v5:L98) (v6:L103) (v7:L68) (v8:Int)
def T224 {R:Type} (B:Ops) (c133:C133) (p0:L94) (p1:L98) (p2:L103) (p3:L68) (p4:Int) (p5:L47) (p6:L94) (p7:L98) (p8:L103) (p9:L68) (p10:Int) (again:S224→Option R) (k:(L4×L47×L94×L98×L103×L68×Int)→Option R):Option S224→Option R | none=>cond (bif B.eq (↑p3.length) (↑p3.length) then bif B.le 0 (↑p3.length) then B.lim (Int.toNat (↑p3.length)) 1 else false else false) (again (.l0 (Nat.cast (List.length (List.replicate (Int.toNat (↑p3.length)) (Ty.dflt Ty.bool)))) 0 (List.replicate (Int.toNat (↑p3.length)) (Ty.dflt Ty.bool)) p5 p6 p7 p8 p9 p10)) none | some (.l0 v0 v1 v2 v3 v4 v5 v6 v7 v8)=>cond (B.lt v1 v0) (ob (c133 v1 v3 v4 v5 v6 v7 v8) fun y0=>cond (B.inb v1 v2.length) (again (.l0 v0 (IntKind.wrap .i64 (v1+1)) (List.set v2 v1.toNat y0.1) y0.2.1 y0.2.2.1 y0.2.2.2.1 y0.2.2.2.2.1 y0.2.2.2.2.2.1 y0.2.2.2.2.2.2)) none) (k (v2,v3,v4,v5,v6,v7,v8))
def E224 (p0:L94) (p1:L98) (p2:L103) (p3:L68) (p4:Int) (p5:L47) (p6:L94) (p7:L98) (p8:L103) (p9:L68) (p10:Int):S224→List AV×Objs
 | .l0 v0 v1 v2 v3 v4 v5 v6 v7 v8=>(mk 24 [(1,.fn 133 [.ptr 2500 0,.ptr 2501 0]),(5,.c (.own 5)),(12,.c (.int .i64 v0)),(13,.c (.int .i64 v1))],[(5,.row 4 ty4 v2),(2500,.box 43 [.list 47 ty47 v3]),(2501,.box 117 [.list 94 ty94 v4,.list 98 ty98 v5,.list 103 ty103 v6,.list 68 ty68 v7,.int .i64 v8])])
def I224:S224→Nat
 | .l0 _ _ _ _ _ _ _ _ _=>0
abbrev K43 {R:Type} (k:AV→Objs→Option R) (y:(L4×L47×L94×L98×L103×L68×Int)):Option R:=k (.c (.own 500)) [(500,.row 4 ty4 y.1),(2500,.box 43 [.list 47 ty47 y.2.1]),(2501,.box 117 [.list 94 ty94 y.2.2.1,.list 98 ty98 y.2.2.2.1,.list 103 ty103 y.2.2.2.2.1,.list 68 ty68 y.2.2.2.2.2.1,.int .i64 y.2.2.2.2.2.2])]
theorem eq224 {R:Type} (B:Ops) (c133:C133) (p0:L94) (p1:L98) (p2:L103) (p3:L68) (p4:Int) (p5:L47) (p6:L94) (p7:L98) (p8:L103) (p9:L68) (p10:Int) (k:AV→Objs→Option R) (n:Nat):afun tau B gl0 X224 (ent 133 (e133 c133) gnil) ow Tryz.f125 [.agg [.list 94 ty94 p0,.list 98 ty98 p1,.list 103 ty103 p2,.list 68 ty68 p3,.int .i64 p4],.fn 133 [.ptr 2500 0,.ptr 2501 0]] [(2500,.box 43 [.list 47 ty47 p5]),(2501,.box 117 [.list 94 ty94 p6,.list 98 ty98 p7,.list 103 ty103 p8,.list 68 ty68 p9,.int .i64 p10])] k n=T224 B c133 p0 p1 p2 p3 p4 p5 p6 p7 p8 p9 p10 (fun s=>aloop tau B gl0 X224 (ent 133 (e133 c133) gnil) ow [2500,2501] Tryz.f125 k (I224 s) (E224 p0 p1 p2 p3 p4 p5 p6 p7 p8 p9 p10 s) n) (K43 k) none:=by kernel_rfl
theorem el224 {R:Type} (B:Ops) (c133:C133) (p0:L94) (p1:L98) (p2:L103) (p3:L68) (p4:Int) (p5:L47) (p6:L94) (p7:L98) (p8:L103) (p9:L68) (p10:Int) (k:AV→Objs→Option R) (n:Nat):∀ s,aloop tau B gl0 X224 (ent 133 (e133 c133) gnil) ow [2500,2501] Tryz.f125 k (I224 s) (E224 p0 p1 p2 p3 p4 p5 p6 p7 p8 p9 p10 s) (n+1)=T224 B c133 p0 p1 p2 p3 p4 p5 p6 p7 p8 p9 p10 (fun s=>aloop tau B gl0 X224 (ent 133 (e133 c133) gnil) ow [2500,2501] Tryz.f125 k (I224 s) (E224 p0 p1 p2 p3 p4 p5 p6 p7 p8 p9 p10 s) n) (K43 k) (some s):=by
 intro s
 cases s<;>kernel_rfl
theorem nt224 {R R':Type} (B:Ops) (c133:C133) (p0:L94) (p1:L98) (p2:L103) (p3:L68) (p4:Int) (p5:L47) (p6:L94) (p7:L98) (p8:L103) (p9:L68) (p10:Int) (again:S224→Option R) (again':S224→Option R') (k0:(L4×L47×L94×L98×L103×L68×Int)→Option R') (k:R'→Option R) (h:∀ s,again s=ob (again' s) k):∀ s,T224 B c133 p0 p1 p2 p3 p4 p5 p6 p7 p8 p9 p10 again (fun y=>ob (k0 y) k) s=ob (T224 B c133 p0 p1 p2 p3 p4 p5 p6 p7 p8 p9 p10 again' k0 s) k:=by
 rintro (_ | x)
 all_goals try cases x
 all_goals (unfold T224;repeat' first | exact rfl | exact h _ | apply qad | (apply qaj;intro))
def R224 (c133:C133) (p0:L94) (p1:L98) (p2:L103) (p3:L68) (p4:Int) (p5:L47) (p6:L94) (p7:L98) (p8:L103) (p9:L68) (p10:Int):Nat→S224→Option (L4×L47×L94×L98×L103×L68×Int)
 | 0,_=>none
 | n+1,s=>T224 Ops.std c133 p0 p1 p2 p3 p4 p5 p6 p7 p8 p9 p10 (R224 c133 p0 p1 p2 p3 p4 p5 p6 p7 p8 p9 p10 n) some (some s)
theorem rr224 {R:Type} (c133:C133) (p0:L94) (p1:L98) (p2:L103) (p3:L68) (p4:Int) (p5:L47) (p6:L94) (p7:L98) (p8:L103) (p9:L68) (p10:Int) (k:AV→Objs→Option R):∀ (n:Nat) (s:S224),aloop tau Ops.std gl0 X224 (ent 133 (e133 c133) gnil) ow [2500,2501] Tryz.f125 k (I224 s) (E224 p0 p1 p2 p3 p4 p5 p6 p7 p8 p9 p10 s) n=ob (R224 c133 p0 p1 p2 p3 p4 p5 p6 p7 p8 p9 p10 n s) (K43 k)
 | 0,s=>by cases s<;>rfl
 | n+1,s=>by rw [el224];exact nt224 Ops.std c133 p0 p1 p2 p3 p4 p5 p6 p7 p8 p9 p10 _ _ some (K43 k) (rr224 c133 p0 p1 p2 p3 p4 p5 p6 p7 p8 p9 p10 k n) (some s)
def F224 (c133:C133) (p0:L94) (p1:L98) (p2:L103) (p3:L68) (p4:Int) (p5:L47) (p6:L94) (p7:L98) (p8:L103) (p9:L68) (p10:Int):Option (L4×L47×L94×L98×L103×L68×Int):=T224 Ops.std c133 p0 p1 p2 p3 p4 p5 p6 p7 p8 p9 p10 (R224 c133 p0 p1 p2 p3 p4 p5 p6 p7 p8 p9 p10 1000000) some none
abbrev C224:Type:=L94→L98→L103→L68→Int→L47→L94→L98→L103→L68→Int→Option (L4×L47×L94×L98×L103×L68×Int)
def e224 {R:Type} (c:C224):Ent R:=eG [.aG [.cL 94 ty94,.cL 98 ty98,.cL 103 ty103,.cL 68 ty68,.cI .i64],.aF 133 [.cP 2500,.cP 2501]] [.oB 2500 43 [.cL 47 ty47],.oB 2501 117 [.cL 94 ty94,.cL 98 ty98,.cL 103 ty103,.cL 68 ty68,.cI .i64]] fun v k=>ob (c v.1 v.2.1 v.2.2.1 v.2.2.2.1 v.2.2.2.2.1 v.2.2.2.2.2.1 v.2.2.2.2.2.2.1 v.2.2.2.2.2.2.2.1 v.2.2.2.2.2.2.2.2.1 v.2.2.2.2.2.2.2.2.2.1 v.2.2.2.2.2.2.2.2.2.2.1) (K43 k)
abbrev Sp224 (c:C224):Prop:=∀ (p0:L94) (p1:L98) (p2:L103) (p3:L68) (p4:Int) (p5:L47) (p6:L94) (p7:L98) (p8:L103) (p9:L68) (p10:Int) (y:L4×L47×L94×L98×L103×L68×Int),c p0 p1 p2 p3 p4 p5 p6 p7 p8 p9 p10=some y→Spec Tryz.prog gl0 125 [.agg [.list 94 ty94 p0,.list 98 ty98 p1,.list 103 ty103 p2,.list 68 ty68 p3,.int .i64 p4],.fn 133 [.ptr 2500 0,.ptr 2501 0]] [(2500,.box 43 [.list 47 ty47 p5]),(2501,.box 117 [.list 94 ty94 p6,.list 98 ty98 p7,.list 103 ty103 p8,.list 68 ty68 p9,.int .i64 p10])] (.c (.own 500)) [(500,.row 4 ty4 y.1),(2500,.box 43 [.list 47 ty47 y.2.1]),(2501,.box 117 [.list 94 ty94 y.2.2.1,.list 98 ty98 y.2.2.2.1,.list 103 ty103 y.2.2.2.2.1,.list 68 ty68 y.2.2.2.2.2.1,.int .i64 y.2.2.2.2.2.2])]
theorem ek224 {R:Type} {c:C224} (hs:Sp224 c):EOk 125 (e224 (R:=R) c):=qal fun v=>hs v.1 v.2.1 v.2.2.1 v.2.2.2.1 v.2.2.2.2.1 v.2.2.2.2.2.1 v.2.2.2.2.2.2.1 v.2.2.2.2.2.2.2.1 v.2.2.2.2.2.2.2.2.1 v.2.2.2.2.2.2.2.2.2.1 v.2.2.2.2.2.2.2.2.2.2.1
theorem sf224 {c133:C133} (h133:Sp133 c133):Sp224 (F224 c133):=fun p0 p1 p2 p3 p4 p5 p6 p7 p8 p9 p10 y hy=>by
 refine qai (qaf (ek133 h133) qah) 1000000 (fn:=Tryz.f125) (by kernel_rfl) (by kernel_rfl) (X:=X224) (by kernel_rfl) ?_
 rw [eq224]
 exact (nt224 Ops.std c133 p0 p1 p2 p3 p4 p5 p6 p7 p8 p9 p10 _ _ some (K43 k0) (rr224 c133 p0 p1 p2 p3 p4 p5 p6 p7 p8 p9 p10 k0 1000000) none).trans (by show ob (F224 c133 p0 p1 p2 p3 p4 p5 p6 p7 p8 p9 p10) _=_;rw [hy];rfl)
noncomputable def M224:C224:=F224 M133
theorem sm224:Sp224 M224:=sf224 sm133
def X128:Aux:=⟨[(3,([0,3,4,6,7,8,9,10,11,12]++rg 16 16))],[]⟩
inductive S128 where
 | l0 (v2 v3:Int) (v9:L4)
def T128 {R:Type} (B:Ops) (c68:C68) (p0:L94) (p1:L98) (p2:L103) (p3:L68) (p4:Int) (p5:L150) (again:S128→Option R) (k:(L4)→Option R):Option S128→Option R | none=>cond (bif B.eq (↑p3.length) (↑p3.length) then bif B.le 0 (↑p3.length) then B.lim (Int.toNat (↑p3.length)) 1 else false else false) (again (.l0 (↑p3.length) 0 (List.replicate (Int.toNat (↑p3.length)) (Ty.dflt Ty.bool)))) none | some (.l0 v2 v3 v9)=>cond (B.lt v3 v2) (cond (B.inb v3 p3.length) (ob (c68 p0 p1 p2 (((p3.getD v3.toNat ty68.dflt).1).1) (((p3.getD v3.toNat ty68.dflt).1).2) p5) fun y0=>cond (B.inb v3 v9.length) (again (.l0 v2 (IntKind.wrap .i64 (v3+1)) (List.set v9 v3.toNat !B.eq y0 0))) none) none) (k v9)
def E128 (p0:L94) (p1:L98) (p2:L103) (p3:L68) (p4:Int) (p5:L150):S128→List AV×Objs
 | .l0 v2 v3 v9=>(mk 32 [(1,.c (.list 150 ty150 p5)),(2,.c (.ptr 2 0)),(5,.c (.own 5)),(13,.c (.list 68 ty68 p3)),(14,.c (.int .i64 v2)),(15,.c (.int .i64 v3))],[(2,.box 117 [.list 94 ty94 p0,.list 98 ty98 p1,.list 103 ty103 p2,.list 68 ty68 p3,.int .i64 p4]),(5,.row 4 ty4 v9)])
def I128:S128→Nat
 | .l0 _ _ _=>0
theorem eq128 {R:Type} (B:Ops) (c68:C68) (p0:L94) (p1:L98) (p2:L103) (p3:L68) (p4:Int) (p5:L150) (k:AV→Objs→Option R) (n:Nat):afun tau B gl0 X128 (ent 68 (e68 c68) gnil) ow Tryz.f128 [.agg [.list 94 ty94 p0,.list 98 ty98 p1,.list 103 ty103 p2,.list 68 ty68 p3,.int .i64 p4],.c (.list 150 ty150 p5)] [] k n=T128 B c68 p0 p1 p2 p3 p4 p5 (fun s=>aloop tau B gl0 X128 (ent 68 (e68 c68) gnil) ow [] Tryz.f128 k (I128 s) (E128 p0 p1 p2 p3 p4 p5 s) n) (K39 k) none:=by kernel_rfl
theorem el128 {R:Type} (B:Ops) (c68:C68) (p0:L94) (p1:L98) (p2:L103) (p3:L68) (p4:Int) (p5:L150) (k:AV→Objs→Option R) (n:Nat):∀ s,aloop tau B gl0 X128 (ent 68 (e68 c68) gnil) ow [] Tryz.f128 k (I128 s) (E128 p0 p1 p2 p3 p4 p5 s) (n+1)=T128 B c68 p0 p1 p2 p3 p4 p5 (fun s=>aloop tau B gl0 X128 (ent 68 (e68 c68) gnil) ow [] Tryz.f128 k (I128 s) (E128 p0 p1 p2 p3 p4 p5 s) n) (K39 k) (some s):=by
 intro s
 cases s<;>kernel_rfl
theorem nt128 {R R':Type} (B:Ops) (c68:C68) (p0:L94) (p1:L98) (p2:L103) (p3:L68) (p4:Int) (p5:L150) (again:S128→Option R) (again':S128→Option R') (k0:(L4)→Option R') (k:R'→Option R) (h:∀ s,again s=ob (again' s) k):∀ s,T128 B c68 p0 p1 p2 p3 p4 p5 again (fun y=>ob (k0 y) k) s=ob (T128 B c68 p0 p1 p2 p3 p4 p5 again' k0 s) k:=by
 rintro (_ | x)
 all_goals try cases x
 all_goals (unfold T128;repeat' first | exact rfl | exact h _ | apply qad | (apply qaj;intro))
def R128 (c68:C68) (p0:L94) (p1:L98) (p2:L103) (p3:L68) (p4:Int) (p5:L150):Nat→S128→Option (L4)
 | 0,_=>none
 | n+1,s=>T128 Ops.std c68 p0 p1 p2 p3 p4 p5 (R128 c68 p0 p1 p2 p3 p4 p5 n) some (some s)
theorem rr128 {R:Type} (c68:C68) (p0:L94) (p1:L98) (p2:L103) (p3:L68) (p4:Int) (p5:L150) (k:AV→Objs→Option R):∀ (n:Nat) (s:S128),aloop tau Ops.std gl0 X128 (ent 68 (e68 c68) gnil) ow [] Tryz.f128 k (I128 s) (E128 p0 p1 p2 p3 p4 p5 s) n=ob (R128 c68 p0 p1 p2 p3 p4 p5 n s) (K39 k)
 | 0,s=>by cases s<;>rfl
 | n+1,s=>by rw [el128];exact nt128 Ops.std c68 p0 p1 p2 p3 p4 p5 _ _ some (K39 k) (rr128 c68 p0 p1 p2 p3 p4 p5 k n) (some s)
def F128 (c68:C68) (p0:L94) (p1:L98) (p2:L103) (p3:L68) (p4:Int) (p5:L150):Option (L4):=T128 Ops.std c68 p0 p1 p2 p3 p4 p5 (R128 c68 p0 p1 p2 p3 p4 p5 1000000) some none
abbrev C128:Type:=L94→L98→L103→L68→Int→L150→Option (L4)
def e128 {R:Type} (c:C128):Ent R:=eG [.aG [.cL 94 ty94,.cL 98 ty98,.cL 103 ty103,.cL 68 ty68,.cI .i64],.aC (.cL 150 ty150)] [] fun v k=>ob (c v.1 v.2.1 v.2.2.1 v.2.2.2.1 v.2.2.2.2.1 v.2.2.2.2.2.1) (K39 k)
abbrev Sp128 (c:C128):Prop:=∀ (p0:L94) (p1:L98) (p2:L103) (p3:L68) (p4:Int) (p5:L150) (y:L4),c p0 p1 p2 p3 p4 p5=some y→Spec Tryz.prog gl0 128 [.agg [.list 94 ty94 p0,.list 98 ty98 p1,.list 103 ty103 p2,.list 68 ty68 p3,.int .i64 p4],.c (.list 150 ty150 p5)] [] (.c (.own 500)) [(500,.row 4 ty4 y)]
theorem ek128 {R:Type} {c:C128} (hs:Sp128 c):EOk 128 (e128 (R:=R) c):=qal fun v=>hs v.1 v.2.1 v.2.2.1 v.2.2.2.1 v.2.2.2.2.1 v.2.2.2.2.2.1
theorem sf128 {c68:C68} (h68:Sp68 c68):Sp128 (F128 c68):=fun p0 p1 p2 p3 p4 p5 y hy=>by
 refine qai (qaf (ek68 h68) qah) 1000000 (fn:=Tryz.f128) (by kernel_rfl) (by kernel_rfl) (X:=X128) (by kernel_rfl) ?_
 rw [eq128]
 exact (nt128 Ops.std c68 p0 p1 p2 p3 p4 p5 _ _ some (K39 k0) (rr128 c68 p0 p1 p2 p3 p4 p5 k0 1000000) none).trans (by show ob (F128 c68 p0 p1 p2 p3 p4 p5) _=_;rw [hy];rfl)
noncomputable def M128:C128:=F128 M68
theorem sm128:Sp128 M128:=sf128 sm68
def X135:Aux:=⟨[(3,([0,5,6,7,8,10,11,12,13,14,15,16,17,18]++rg 21 66)),(8,([0,5,6,7,8,10]++rg 12 75)),(11,([0,5,6,7,8,10]++rg 13 74)),(1000014,([0,5,6,7,8,10]++rg 14 73)),(1000016,([0,5,6,7,8,10]++rg 14 73))],[]⟩
inductive S135 where
 | l0 (v3 v4:Int) (v10:L4)
 | l1 (v3:Bool) (v9:L4)
 | l2 (v3:Bool) (v4:Int) (v10:L4)
 | l1014 (v3:Bool) (v4:Int) (v5:Bool) (v11:L4)
 | l1016 (v3:Bool) (v4:Int) (v5:Bool) (v11:L4)
def T135 {R:Type} (B:Ops) (c134:C134) (p0:L94) (p1:L98) (p2:L103) (p3:L68) (p4:Int) (p5 p6:L4) (p7:Bool) (again:S135→Option R) (k:(L4)→Option R):Option S135→Option R | none=>cond (bif B.eq (↑p3.length) (↑p3.length) then bif B.le 0 (↑p3.length) then B.lim (Int.toNat (↑p3.length)) 1 else false else false) (again (.l0 (Nat.cast (List.length (List.replicate (Int.toNat (↑p3.length)) (Ty.dflt Ty.bool)))) 0 (List.replicate (Int.toNat (↑p3.length)) (Ty.dflt Ty.bool)))) none | some (.l0 v3 v4 v10)=>cond (B.lt v4 v3) (cond (B.inb v4 v10.length) (again (.l0 v3 (IntKind.wrap .i64 (v4+1)) (List.set v10 v4.toNat p7))) none) (again (.l1 true v10)) | some (.l1 v3 v9)=>cond (v3) (again (.l2 false (IntKind.wrap .i64 (Nat.cast v9.length-1)) v9)) (k v9) | some (.l2 v3 v4 v10)=>cond (B.le 0 v4) (cond (B.inb v4 p6.length) (cond (p6.getD v4.toNat ty4.dflt) (again (.l1014 v3 v4 true v10)) (cond (B.inb v4 p5.length) (cond (p5.getD v4.toNat ty4.dflt) (ob (c134 p0 p1 p2 p3 p4 v4) fun y0=>cond (B.inb y0 v10.length) (again (.l1014 v3 v4 (v10.getD y0.toNat ty4.dflt) v10)) none) (again (.l1014 v3 v4 false v10))) none)) none) (again (.l1 v3 v10)) | some (.l1014 v3 v4 v5 v11)=>cond (p7) (cond (B.inb v4 p6.length) (cond (p6.getD v4.toNat ty4.dflt) (cond (B.inb v4 p5.length) (cond (p5.getD v4.toNat ty4.dflt) (again (.l1016 v3 v4 true v11)) (ob (c134 p0 p1 p2 p3 p4 v4) fun y0=>cond (B.inb y0 v11.length) (again (.l1016 v3 v4 (v11.getD y0.toNat ty4.dflt) v11)) none)) none) (again (.l1016 v3 v4 false v11))) none) (again (.l1016 v3 v4 v5 v11)) | some (.l1016 v3 v4 v5 v11)=>cond (v3) (cond (B.inb v4 v11.length) (again (.l2 true (IntKind.wrap .i64 (v4-1)) (List.set v11 v4.toNat v5))) none) (cond (B.inb v4 v11.length) (cond (B.inb v4 v11.length) (again (.l2 (!v5 == v11.getD v4.toNat ty4.dflt) (IntKind.wrap .i64 (v4-1)) (List.set v11 v4.toNat v5))) none) none)
def E135 (p0:L94) (p1:L98) (p2:L103) (p3:L68) (p4:Int) (p5 p6:L4) (p7:Bool):S135→List AV×Objs
 | .l0 v3 v4 v10=>(mk 87 [(1,.c (.list 4 ty4 p5)),(2,.c (.list 4 ty4 p6)),(3,.c (.bool p7)),(4,.c (.ptr 4 0)),(9,.c (.own 9)),(19,.c (.int .i64 v3)),(20,.c (.int .i64 v4))],[(4,.box 117 [.list 94 ty94 p0,.list 98 ty98 p1,.list 103 ty103 p2,.list 68 ty68 p3,.int .i64 p4]),(9,.row 4 ty4 v10)])
 | .l1 v3 v9=>(mk 87 [(1,.c (.list 4 ty4 p5)),(2,.c (.list 4 ty4 p6)),(3,.c (.bool p7)),(4,.c (.ptr 4 0)),(9,.c (.own 9)),(11,.c (.bool v3))],[(4,.box 117 [.list 94 ty94 p0,.list 98 ty98 p1,.list 103 ty103 p2,.list 68 ty68 p3,.int .i64 p4]),(9,.row 4 ty4 v9)])
 | .l2 v3 v4 v10=>(mk 87 [(1,.c (.list 4 ty4 p5)),(2,.c (.list 4 ty4 p6)),(3,.c (.bool p7)),(4,.c (.ptr 4 0)),(9,.c (.own 9)),(11,.c (.bool v3)),(12,.c (.int .i64 v4))],[(4,.box 117 [.list 94 ty94 p0,.list 98 ty98 p1,.list 103 ty103 p2,.list 68 ty68 p3,.int .i64 p4]),(9,.row 4 ty4 v10)])
 | .l1014 v3 v4 v5 v11=>(mk 87 [(1,.c (.list 4 ty4 p5)),(2,.c (.list 4 ty4 p6)),(3,.c (.bool p7)),(4,.c (.ptr 4 0)),(9,.c (.own 9)),(11,.c (.bool v3)),(12,.c (.int .i64 v4)),(13,.c (.bool v5))],[(4,.box 117 [.list 94 ty94 p0,.list 98 ty98 p1,.list 103 ty103 p2,.list 68 ty68 p3,.int .i64 p4]),(9,.row 4 ty4 v11)])
 | .l1016 v3 v4 v5 v11=>(mk 87 [(1,.c (.list 4 ty4 p5)),(2,.c (.list 4 ty4 p6)),(3,.c (.bool p7)),(4,.c (.ptr 4 0)),(9,.c (.own 9)),(11,.c (.bool v3)),(12,.c (.int .i64 v4)),(13,.c (.bool v5))],[(4,.box 117 [.list 94 ty94 p0,.list 98 ty98 p1,.list 103 ty103 p2,.list 68 ty68 p3,.int .i64 p4]),(9,.row 4 ty4 v11)])
def I135:S135→Nat
 | .l0 _ _ _=>0
 | .l1 _ _=>1
 | .l2 _ _ _=>2
 | .l1014 _ _ _ _=>1014
 | .l1016 _ _ _ _=>1016
theorem eq135 {R:Type} (B:Ops) (c134:C134) (p0:L94) (p1:L98) (p2:L103) (p3:L68) (p4:Int) (p5 p6:L4) (p7:Bool) (k:AV→Objs→Option R) (n:Nat):afun tau B gl0 X135 (ent 134 (e134 c134) gnil) ow Tryz.f135 [.agg [.list 94 ty94 p0,.list 98 ty98 p1,.list 103 ty103 p2,.list 68 ty68 p3,.int .i64 p4],.c (.list 4 ty4 p5),.c (.list 4 ty4 p6),.c (.bool p7)] [] k n=T135 B c134 p0 p1 p2 p3 p4 p5 p6 p7 (fun s=>aloop tau B gl0 X135 (ent 134 (e134 c134) gnil) ow [] Tryz.f135 k (I135 s) (E135 p0 p1 p2 p3 p4 p5 p6 p7 s) n) (K39 k) none:=by kernel_rfl
theorem el135 {R:Type} (B:Ops) (c134:C134) (p0:L94) (p1:L98) (p2:L103) (p3:L68) (p4:Int) (p5 p6:L4) (p7:Bool) (k:AV→Objs→Option R) (n:Nat):∀ s,aloop tau B gl0 X135 (ent 134 (e134 c134) gnil) ow [] Tryz.f135 k (I135 s) (E135 p0 p1 p2 p3 p4 p5 p6 p7 s) (n+1)=T135 B c134 p0 p1 p2 p3 p4 p5 p6 p7 (fun s=>aloop tau B gl0 X135 (ent 134 (e134 c134) gnil) ow [] Tryz.f135 k (I135 s) (E135 p0 p1 p2 p3 p4 p5 p6 p7 s) n) (K39 k) (some s):=by
 intro s
 cases s<;>kernel_rfl
theorem nt135 {R R':Type} (B:Ops) (c134:C134) (p0:L94) (p1:L98) (p2:L103) (p3:L68) (p4:Int) (p5 p6:L4) (p7:Bool) (again:S135→Option R) (again':S135→Option R') (k0:(L4)→Option R') (k:R'→Option R) (h:∀ s,again s=ob (again' s) k):∀ s,T135 B c134 p0 p1 p2 p3 p4 p5 p6 p7 again (fun y=>ob (k0 y) k) s=ob (T135 B c134 p0 p1 p2 p3 p4 p5 p6 p7 again' k0 s) k:=by
 rintro (_ | x)
 all_goals try cases x
 all_goals (unfold T135;repeat' first | exact rfl | exact h _ | apply qad | (apply qaj;intro))
def R135 (c134:C134) (p0:L94) (p1:L98) (p2:L103) (p3:L68) (p4:Int) (p5 p6:L4) (p7:Bool):Nat→S135→Option (L4)
 | 0,_=>none
 | n+1,s=>T135 Ops.std c134 p0 p1 p2 p3 p4 p5 p6 p7 (R135 c134 p0 p1 p2 p3 p4 p5 p6 p7 n) some (some s)
theorem rr135 {R:Type} (c134:C134) (p0:L94) (p1:L98) (p2:L103) (p3:L68) (p4:Int) (p5 p6:L4) (p7:Bool) (k:AV→Objs→Option R):∀ (n:Nat) (s:S135),aloop tau Ops.std gl0 X135 (ent 134 (e134 c134) gnil) ow [] Tryz.f135 k (I135 s) (E135 p0 p1 p2 p3 p4 p5 p6 p7 s) n=ob (R135 c134 p0 p1 p2 p3 p4 p5 p6 p7 n s) (K39 k)
 | 0,s=>by cases s<;>rfl
 | n+1,s=>by rw [el135];exact nt135 Ops.std c134 p0 p1 p2 p3 p4 p5 p6 p7 _ _ some (K39 k) (rr135 c134 p0 p1 p2 p3 p4 p5 p6 p7 k n) (some s)
def F135 (c134:C134) (p0:L94) (p1:L98) (p2:L103) (p3:L68) (p4:Int) (p5 p6:L4) (p7:Bool):Option (L4):=T135 Ops.std c134 p0 p1 p2 p3 p4 p5 p6 p7 (R135 c134 p0 p1 p2 p3 p4 p5 p6 p7 1000000) some none
abbrev C135:Type:=L94→L98→L103→L68→Int→L4→L4→Bool→Option (L4)
def e135 {R:Type} (c:C135):Ent R:=eG [.aG [.cL 94 ty94,.cL 98 ty98,.cL 103 ty103,.cL 68 ty68,.cI .i64],.aC (.cL 4 ty4),.aC (.cL 4 ty4),.aC .cB] [] fun v k=>ob (c v.1 v.2.1 v.2.2.1 v.2.2.2.1 v.2.2.2.2.1 v.2.2.2.2.2.1 v.2.2.2.2.2.2.1 v.2.2.2.2.2.2.2.1) (K39 k)
abbrev Sp135 (c:C135):Prop:=∀ (p0:L94) (p1:L98) (p2:L103) (p3:L68) (p4:Int) (p5 p6:L4) (p7:Bool) (y:L4),c p0 p1 p2 p3 p4 p5 p6 p7=some y→Spec Tryz.prog gl0 135 [.agg [.list 94 ty94 p0,.list 98 ty98 p1,.list 103 ty103 p2,.list 68 ty68 p3,.int .i64 p4],.c (.list 4 ty4 p5),.c (.list 4 ty4 p6),.c (.bool p7)] [] (.c (.own 500)) [(500,.row 4 ty4 y)]
theorem ek135 {R:Type} {c:C135} (hs:Sp135 c):EOk 135 (e135 (R:=R) c):=qal fun v=>hs v.1 v.2.1 v.2.2.1 v.2.2.2.1 v.2.2.2.2.1 v.2.2.2.2.2.1 v.2.2.2.2.2.2.1 v.2.2.2.2.2.2.2.1
theorem sf135 {c134:C134} (h134:Sp134 c134):Sp135 (F135 c134):=fun p0 p1 p2 p3 p4 p5 p6 p7 y hy=>by
 refine qai (qaf (ek134 h134) qah) 1000000 (fn:=Tryz.f135) (by kernel_rfl) (by kernel_rfl) (X:=X135) (by kernel_rfl) ?_
 rw [eq135]
 exact (nt135 Ops.std c134 p0 p1 p2 p3 p4 p5 p6 p7 _ _ some (K39 k0) (rr135 c134 p0 p1 p2 p3 p4 p5 p6 p7 k0 1000000) none).trans (by show ob (F135 c134 p0 p1 p2 p3 p4 p5 p6 p7) _=_;rw [hy];rfl)
noncomputable def M135:C135:=F135 M134
theorem sm135:Sp135 M135:=sf135 sm134
def X76:Aux:=⟨[],[(1,.lin [0,2,1,3,4,5]),(20,.lin [0,1,2,3,4,5,6]),(22,.lin [0,1,2,3,4,5,6]),(23,.lin (rg 0 12))]⟩
def T76 {R:Type} (B:Ops) (c125:C125) (c219:C219) (c220:C220) (c221:C221) (c222:C222) (c223:C223) (c224:C224) (c126:C126) (c127:C127) (c128:C128) (c129:C129) (c130:C130) (c131:C131) (c132:C132) (c133:C133) (c135:C135) (p0:L94) (p1:L98) (p2:L103) (p3:L68) (p4 p5:Int) (p6:L150) (p7:L47) (k:(L4)→Option R):Option R:=ob (c125 p0 p1 p2 p3 p4) fun y0=>ob (c219 p0 p1 p2 p3 p4) fun y1=>cond (B.eq p5 1) (k y0) (cond (B.eq p5 2) (k y1) (cond (B.eq p5 3) (ob (c128 p0 p1 p2 p3 p4 p6) fun y2=>k y2) (cond (B.eq p5 4) (ob (c220 p0 p1 p2 p3 p4 p7) fun y2=>k y2.1) (cond (B.eq p5 5) (ob (c221 p0 p1 p2 p3 p4 p7) fun y2=>k y2.1) (cond (B.eq p5 6) (ob (c222 p0 p1 p2 p3 p4 p7) fun y2=>k y2.1) (cond (B.eq p5 7) (ob (c223 p0 p1 p2 p3 p4 p7) fun y2=>k y2.1) (cond (B.eq p5 8) (ob (c224 p0 p1 p2 p3 p4 p7 p0 p1 p2 p3 p4) fun y2=>k y2.1) (cond (B.eq p5 11) (cond (B.inb 0 p7.length) (ob (c135 p0 p1 p2 p3 p4 y0 (p7.getD (Int.toNat 0) ty47.dflt) false) fun y2=>k y2) none) (cond (B.eq p5 12) (cond (B.inb 0 p7.length) (ob (c135 p0 p1 p2 p3 p4 y1 (p7.getD (Int.toNat 0) ty47.dflt) true) fun y2=>k y2) none) (cond (B.inb 0 p7.length) (cond (B.inb 1 p7.length) (ob (c135 p0 p1 p2 p3 p4 (p7.getD (Int.toNat 0) ty47.dflt) (p7.getD (Int.toNat 1) ty47.dflt) (B.eq p5 10)) fun y2=>k y2) none) none))))))))))
theorem eq76 {R:Type} (B:Ops) (c125:C125) (c219:C219) (c220:C220) (c221:C221) (c222:C222) (c223:C223) (c224:C224) (c126:C126) (c127:C127) (c128:C128) (c129:C129) (c130:C130) (c131:C131) (c132:C132) (c133:C133) (c135:C135) (p0:L94) (p1:L98) (p2:L103) (p3:L68) (p4 p5:Int) (p6:L150) (p7:L47) (k:AV→Objs→Option R) (n:Nat):afun tau B gl0 X76 (ent 125 (eAlt 1 126 (e125 c125) (eAlt 1 127 (e219 c219) (eAlt 1 129 (e220 c220) (eAlt 1 130 (e221 c221) (eAlt 1 131 (e222 c222) (eAlt 1 132 (e223 c223) (e224 c224))))))) (ent 126 (e126 c126) (ent 127 (e127 c127) (ent 128 (e128 c128) (ent 129 (e129 c129) (ent 130 (e130 c130) (ent 131 (e131 c131) (ent 132 (e132 c132) (ent 133 (e133 c133) (ent 135 (e135 c135) gnil)))))))))) ow Tryz.f76 [.agg [.list 94 ty94 p0,.list 98 ty98 p1,.list 103 ty103 p2,.list 68 ty68 p3,.int .i64 p4],.agg [.int .i64 p5,.list 150 ty150 p6],.c (.list 47 ty47 p7)] [] k n=T76 B c125 c219 c220 c221 c222 c223 c224 c126 c127 c128 c129 c130 c131 c132 c133 c135 p0 p1 p2 p3 p4 p5 p6 p7 (K39 k):=by kernel_rfl
theorem nt76 {R R':Type} (B:Ops) (c125:C125) (c219:C219) (c220:C220) (c221:C221) (c222:C222) (c223:C223) (c224:C224) (c126:C126) (c127:C127) (c128:C128) (c129:C129) (c130:C130) (c131:C131) (c132:C132) (c133:C133) (c135:C135) (p0:L94) (p1:L98) (p2:L103) (p3:L68) (p4 p5:Int) (p6:L150) (p7:L47) (k0:(L4)→Option R') (k:R'→Option R):T76 B c125 c219 c220 c221 c222 c223 c224 c126 c127 c128 c129 c130 c131 c132 c133 c135 p0 p1 p2 p3 p4 p5 p6 p7 (fun y=>ob (k0 y) k)=ob (T76 B c125 c219 c220 c221 c222 c223 c224 c126 c127 c128 c129 c130 c131 c132 c133 c135 p0 p1 p2 p3 p4 p5 p6 p7 k0) k:=by
 unfold T76
 repeat' first | exact rfl | apply qad | (apply qaj;intro)
def F76 (c125:C125) (c219:C219) (c220:C220) (c221:C221) (c222:C222) (c223:C223) (c224:C224) (c126:C126) (c127:C127) (c128:C128) (c129:C129) (c130:C130) (c131:C131) (c132:C132) (c133:C133) (c135:C135) (p0:L94) (p1:L98) (p2:L103) (p3:L68) (p4 p5:Int) (p6:L150) (p7:L47):Option (L4):=T76 Ops.std c125 c219 c220 c221 c222 c223 c224 c126 c127 c128 c129 c130 c131 c132 c133 c135 p0 p1 p2 p3 p4 p5 p6 p7 some
abbrev C76:Type:=L94→L98→L103→L68→Int→Int→L150→L47→Option (L4)
def e76 {R:Type} (c:C76):Ent R:=eG [.aG [.cL 94 ty94,.cL 98 ty98,.cL 103 ty103,.cL 68 ty68,.cI .i64],.aG [.cI .i64,.cL 150 ty150],.aC (.cL 47 ty47)] [] fun v k=>ob (c v.1 v.2.1 v.2.2.1 v.2.2.2.1 v.2.2.2.2.1 v.2.2.2.2.2.1 v.2.2.2.2.2.2.1 v.2.2.2.2.2.2.2.1) (K39 k)
abbrev Sp76 (c:C76):Prop:=∀ (p0:L94) (p1:L98) (p2:L103) (p3:L68) (p4 p5:Int) (p6:L150) (p7:L47) (y:L4),c p0 p1 p2 p3 p4 p5 p6 p7=some y→Spec Tryz.prog gl0 76 [.agg [.list 94 ty94 p0,.list 98 ty98 p1,.list 103 ty103 p2,.list 68 ty68 p3,.int .i64 p4],.agg [.int .i64 p5,.list 150 ty150 p6],.c (.list 47 ty47 p7)] [] (.c (.own 500)) [(500,.row 4 ty4 y)]
theorem ek76 {R:Type} {c:C76} (hs:Sp76 c):EOk 76 (e76 (R:=R) c):=qal fun v=>hs v.1 v.2.1 v.2.2.1 v.2.2.2.1 v.2.2.2.2.1 v.2.2.2.2.2.1 v.2.2.2.2.2.2.1 v.2.2.2.2.2.2.2.1
theorem sf76 {c125:C125} {c219:C219} {c220:C220} {c221:C221} {c222:C222} {c223:C223} {c224:C224} {c126:C126} {c127:C127} {c128:C128} {c129:C129} {c130:C130} {c131:C131} {c132:C132} {c133:C133} {c135:C135} (h125:Sp125 c125) (h219:Sp219 c219) (h220:Sp220 c220) (h221:Sp221 c221) (h222:Sp222 c222) (h223:Sp223 c223) (h224:Sp224 c224) (h126:Sp126 c126) (h127:Sp127 c127) (h128:Sp128 c128) (h129:Sp129 c129) (h130:Sp130 c130) (h131:Sp131 c131) (h132:Sp132 c132) (h133:Sp133 c133) (h135:Sp135 c135):Sp76 (F76 c125 c219 c220 c221 c222 c223 c224 c126 c127 c128 c129 c130 c131 c132 c133 c135):=fun p0 p1 p2 p3 p4 p5 p6 p7 y hy=>by
 refine qai (G:=ent 125 (eAlt 1 126 (e125 c125) (eAlt 1 127 (e219 c219) (eAlt 1 129 (e220 c220) (eAlt 1 130 (e221 c221) (eAlt 1 131 (e222 c222) (eAlt 1 132 (e223 c223) (e224 c224))))))) (ent 126 (e126 c126) (ent 127 (e127 c127) (ent 128 (e128 c128) (ent 129 (e129 c129) (ent 130 (e130 c130) (ent 131 (e131 c131) (ent 132 (e132 c132) (ent 133 (e133 c133) (ent 135 (e135 c135) gnil)))))))))) (qaf (qcn (ek125 h125) (qcn (ek219 h219) (qcn (ek220 h220) (qcn (ek221 h221) (qcn (ek222 h222) (qcn (ek223 h223) (ek224 h224))))))) (qaf (ek126 h126) (qaf (ek127 h127) (qaf (ek128 h128) (qaf (ek129 h129) (qaf (ek130 h130) (qaf (ek131 h131) (qaf (ek132 h132) (qaf (ek133 h133) (qaf (ek135 h135) qah)))))))))) 1000000 (fn:=Tryz.f76) (by kernel_rfl) (by kernel_rfl) (X:=X76) (by kernel_rfl) ?_
 rw [eq76]
 exact (nt76 Ops.std c125 c219 c220 c221 c222 c223 c224 c126 c127 c128 c129 c130 c131 c132 c133 c135 p0 p1 p2 p3 p4 p5 p6 p7 some (K39 k0)).trans (by show ob (F76 c125 c219 c220 c221 c222 c223 c224 c126 c127 c128 c129 c130 c131 c132 c133 c135 p0 p1 p2 p3 p4 p5 p6 p7) _=_;rw [hy];rfl)
noncomputable def M76:C76:=F76 M125 M219 M220 M221 M222 M223 M224 M126 M127 M128 M129 M130 M131 M132 M133 M135
theorem sm76:Sp76 M76:=sf76 sm125 sm219 sm220 sm221 sm222 sm223 sm224 sm126 sm127 sm128 sm129 sm130 sm131 sm132 sm133 sm135
def X174:Aux:=⟨[(3,([0,1,2,4,5,6]++rg 10 14))],[]⟩
inductive S174 where
 | l0 (v1 v2:Int) (v3:List (LB×Bool))
def T174 {R:Type} (B:Ops) (c185:C185) (p0:L9) (again:S174→Option R) (k:(Bool)→Option R):Option S174→Option R | none=>again (.l0 (↑p0.length) 0 (mt (Ty.den Ty.str×Ty.den Ty.bool))) | some (.l0 v1 v2 v3)=>cond (B.lt v2 v1) (cond (B.inb v2 p0.length) (ob (c185 (p0.getD v2.toNat ty9.dflt)) fun y0=>cond (!y0) (k false) (cond (Option.getD (mget Ty.str v3 (p0.getD v2.toNat ty9.dflt)) (Ty.dflt Ty.bool)) (k false) (again (.l0 v1 (IntKind.wrap .i64 (v2+1)) (mput Ty.str v3 (p0.getD v2.toNat ty9.dflt) true))))) none) (k true)
def E174 (p0:L9):S174→List AV×Objs
 | .l0 v1 v2 v3=>(mk 24 [(3,.c (.own 3)),(7,.c (.list 9 ty9 p0)),(8,.c (.int .i64 v1)),(9,.c (.int .i64 v2))],[(3,.mp 218 .str .bool v3)])
def I174:S174→Nat
 | .l0 _ _ _=>0
theorem eq174 {R:Type} (B:Ops) (c185:C185) (p0:L9) (k:AV→Objs→Option R) (n:Nat):afun tau B gl0 X174 (ent 185 (e185 c185) gnil) ow Tryz.f174 [.c (.list 9 ty9 p0)] [] k n=T174 B c185 p0 (fun s=>aloop tau B gl0 X174 (ent 185 (e185 c185) gnil) ow [] Tryz.f174 k (I174 s) (E174 p0 s) n) (K2 k) none:=by kernel_rfl
theorem el174 {R:Type} (B:Ops) (c185:C185) (p0:L9) (k:AV→Objs→Option R) (n:Nat):∀ s,aloop tau B gl0 X174 (ent 185 (e185 c185) gnil) ow [] Tryz.f174 k (I174 s) (E174 p0 s) (n+1)=T174 B c185 p0 (fun s=>aloop tau B gl0 X174 (ent 185 (e185 c185) gnil) ow [] Tryz.f174 k (I174 s) (E174 p0 s) n) (K2 k) (some s):=by
 intro s
 cases s<;>kernel_rfl
theorem nt174 {R R':Type} (B:Ops) (c185:C185) (p0:L9) (again:S174→Option R) (again':S174→Option R') (k0:(Bool)→Option R') (k:R'→Option R) (h:∀ s,again s=ob (again' s) k):∀ s,T174 B c185 p0 again (fun y=>ob (k0 y) k) s=ob (T174 B c185 p0 again' k0 s) k:=by
 rintro (_ | x)
 all_goals try cases x
 all_goals (unfold T174;repeat' first | exact rfl | exact h _ | apply qad | (apply qaj;intro))
def R174 (c185:C185) (p0:L9):Nat→S174→Option (Bool)
 | 0,_=>none
 | n+1,s=>T174 Ops.std c185 p0 (R174 c185 p0 n) some (some s)
theorem rr174 {R:Type} (c185:C185) (p0:L9) (k:AV→Objs→Option R):∀ (n:Nat) (s:S174),aloop tau Ops.std gl0 X174 (ent 185 (e185 c185) gnil) ow [] Tryz.f174 k (I174 s) (E174 p0 s) n=ob (R174 c185 p0 n s) (K2 k)
 | 0,s=>by cases s<;>rfl
 | n+1,s=>by rw [el174];exact nt174 Ops.std c185 p0 _ _ some (K2 k) (rr174 c185 p0 k n) (some s)
def F174 (c185:C185) (p0:L9):Option (Bool):=T174 Ops.std c185 p0 (R174 c185 p0 1000000) some none
abbrev C174:Type:=L9→Option (Bool)
def e174 {R:Type} (c:C174):Ent R:=eG [.aC (.cL 9 ty9)] [] fun v k=>ob (c v.1) (K2 k)
abbrev Sp174 (c:C174):Prop:=∀ (p0:L9) (y:Bool),c p0=some y→Spec Tryz.prog gl0 174 [.c (.list 9 ty9 p0)] [] (.c (.bool y)) []
theorem ek174 {R:Type} {c:C174} (hs:Sp174 c):EOk 174 (e174 (R:=R) c):=qal fun v=>hs v.1
theorem sf174 {c185:C185} (h185:Sp185 c185):Sp174 (F174 c185):=fun p0 y hy=>by
 refine qai (qaf (ek185 h185) qah) 1000000 (fn:=Tryz.f174) (by kernel_rfl) (by kernel_rfl) (X:=X174) (by kernel_rfl) ?_
 rw [eq174]
 exact (nt174 Ops.std c185 p0 _ _ some (K2 k0) (rr174 c185 p0 k0 1000000) none).trans (by show ob (F174 c185 p0) _=_;rw [hy];rfl)
noncomputable def M174:C174:=F174 M185
theorem sm174:Sp174 M174:=sf174 sm185
def X137:Aux:=⟨[(3,([0,2,5,6,7,8,9]++rg 13 62)),(10,([0,1,2]++rg 5 21++rg 29 46))],[]⟩
inductive S137 where
 | l0 (v1 v2:Int) (v6:L9)
 | l1 (v1 v2:Int) (v3 v4:L9)
def T137 {R:Type} (B:Ops) (c173:C173) (c174:C174) (p0:L94) (p1:L98) (p2:L103) (again:S137→Option R) (k:(Bool)→Option R):Option S137→Option R | none=>again (.l0 (↑p0.length) 0 (mt (Ty.den Ty.str))) | some (.l0 v1 v2 v6)=>cond (B.lt v2 v1) (cond (B.inb v2 p0.length) (ob (c173 ((p0.getD v2.toNat ty94.dflt).1) (((p0.getD v2.toNat ty94.dflt).2).1) ((((p0.getD v2.toNat ty94.dflt).2).2).1) ((((p0.getD v2.toNat ty94.dflt).2).2).2)) fun y0=>cond (!y0) (k false) (cond (B.lim (List.length v6+List.length ((p0.getD v2.toNat ty94.dflt).1::mt (Ty.den Ty.str))) 16) (again (.l0 v1 (IntKind.wrap .i64 (v2+1)) (v6++(p0.getD v2.toNat ty94.dflt).1::mt (Ty.den Ty.str)))) none)) none) (again (.l1 (↑p1.length) 0 v6 ((mt (Ty.den Ty.str))))) | some (.l1 v1 v2 v3 v4)=>cond (B.lt v2 v1) (cond (B.inb v2 p1.length) (cond (B.lt (Nat.cast (List.length ((p1.getD v2.toNat ty98.dflt).2))) 1) (k false) (cond (B.lt 6 (Nat.cast (List.length ((p1.getD v2.toNat ty98.dflt).2)))) (k false) (ob (c174 ((p1.getD v2.toNat ty98.dflt).2)) fun y0=>cond (!y0) (k false) (cond (B.lim (List.length v4+List.length ((p1.getD v2.toNat ty98.dflt).1::mt (Ty.den Ty.str))) 16) (again (.l1 v1 (IntKind.wrap .i64 (v2+1)) v3 (v4++(p1.getD v2.toNat ty98.dflt).1::mt (Ty.den Ty.str)))) none)))) none) (cond (B.le (↑v3.length) 4) (ob (c174 v3) fun y0=>cond (y0) (cond (B.le 1 (↑v4.length)) (cond (B.le (↑v4.length) 3) (ob (c174 v4) fun y1=>k y1) (k false)) (k false)) (k false)) (k false))
def E137 (p0:L94) (p1:L98) (p2:L103):S137→List AV×Objs
 | .l0 v1 v2 v6=>(mk 75 [(1,.c (.ptr 1 0)),(3,.c (.own 3)),(4,.c (.own 4)),(10,.c (.list 94 ty94 p0)),(11,.c (.int .i64 v1)),(12,.c (.int .i64 v2))],[(1,.box 31 [.list 94 ty94 p0,.list 98 ty98 p1,.list 103 ty103 p2]),(3,.row 9 ty9 v6),(4,.row 9 ty9 (mt (Ty.den Ty.str)))])
 | .l1 v1 v2 v3 v4=>(mk 75 [(3,.c (.own 3)),(4,.c (.own 4)),(26,.c (.list 98 ty98 p1)),(27,.c (.int .i64 v1)),(28,.c (.int .i64 v2))],[(3,.row 9 ty9 v3),(4,.row 9 ty9 v4)])
def I137:S137→Nat
 | .l0 _ _ _=>0
 | .l1 _ _ _ _=>1
theorem eq137 {R:Type} (B:Ops) (c173:C173) (c174:C174) (p0:L94) (p1:L98) (p2:L103) (k:AV→Objs→Option R) (n:Nat):afun tau B gl0 X137 (ent 173 (e173 c173) (ent 174 (e174 c174) gnil)) ow Tryz.f137 [.agg [.list 94 ty94 p0,.list 98 ty98 p1,.list 103 ty103 p2]] [] k n=T137 B c173 c174 p0 p1 p2 (fun s=>aloop tau B gl0 X137 (ent 173 (e173 c173) (ent 174 (e174 c174) gnil)) ow [] Tryz.f137 k (I137 s) (E137 p0 p1 p2 s) n) (K2 k) none:=by kernel_rfl
theorem el137 {R:Type} (B:Ops) (c173:C173) (c174:C174) (p0:L94) (p1:L98) (p2:L103) (k:AV→Objs→Option R) (n:Nat):∀ s,aloop tau B gl0 X137 (ent 173 (e173 c173) (ent 174 (e174 c174) gnil)) ow [] Tryz.f137 k (I137 s) (E137 p0 p1 p2 s) (n+1)=T137 B c173 c174 p0 p1 p2 (fun s=>aloop tau B gl0 X137 (ent 173 (e173 c173) (ent 174 (e174 c174) gnil)) ow [] Tryz.f137 k (I137 s) (E137 p0 p1 p2 s) n) (K2 k) (some s):=by
 intro s
 cases s<;>kernel_rfl
theorem nt137 {R R':Type} (B:Ops) (c173:C173) (c174:C174) (p0:L94) (p1:L98) (p2:L103) (again:S137→Option R) (again':S137→Option R') (k0:(Bool)→Option R') (k:R'→Option R) (h:∀ s,again s=ob (again' s) k):∀ s,T137 B c173 c174 p0 p1 p2 again (fun y=>ob (k0 y) k) s=ob (T137 B c173 c174 p0 p1 p2 again' k0 s) k:=by
 rintro (_ | x)
 all_goals try cases x
 all_goals (unfold T137;repeat' first | exact rfl | exact h _ | apply qad | (apply qaj;intro))
def R137 (c173:C173) (c174:C174) (p0:L94) (p1:L98) (p2:L103):Nat→S137→Option (Bool)
 | 0,_=>none
 | n+1,s=>T137 Ops.std c173 c174 p0 p1 p2 (R137 c173 c174 p0 p1 p2 n) some (some s)
theorem rr137 {R:Type} (c173:C173) (c174:C174) (p0:L94) (p1:L98) (p2:L103) (k:AV→Objs→Option R):∀ (n:Nat) (s:S137),aloop tau Ops.std gl0 X137 (ent 173 (e173 c173) (ent 174 (e174 c174) gnil)) ow [] Tryz.f137 k (I137 s) (E137 p0 p1 p2 s) n=ob (R137 c173 c174 p0 p1 p2 n s) (K2 k)
 | 0,s=>by cases s<;>rfl
 | n+1,s=>by rw [el137];exact nt137 Ops.std c173 c174 p0 p1 p2 _ _ some (K2 k) (rr137 c173 c174 p0 p1 p2 k n) (some s)
def F137 (c173:C173) (c174:C174) (p0:L94) (p1:L98) (p2:L103):Option (Bool):=T137 Ops.std c173 c174 p0 p1 p2 (R137 c173 c174 p0 p1 p2 1000000) some none
abbrev C137:Type:=L94→L98→L103→Option (Bool)
def e137 {R:Type} (c:C137):Ent R:=eG [.aG [.cL 94 ty94,.cL 98 ty98,.cL 103 ty103]] [] fun v k=>ob (c v.1 v.2.1 v.2.2.1) (K2 k)
abbrev Sp137 (c:C137):Prop:=∀ (p0:L94) (p1:L98) (p2:L103) (y:Bool),c p0 p1 p2=some y→Spec Tryz.prog gl0 137 [.agg [.list 94 ty94 p0,.list 98 ty98 p1,.list 103 ty103 p2]] [] (.c (.bool y)) []
theorem ek137 {R:Type} {c:C137} (hs:Sp137 c):EOk 137 (e137 (R:=R) c):=qal fun v=>hs v.1 v.2.1 v.2.2.1
theorem sf137 {c173:C173} {c174:C174} (h173:Sp173 c173) (h174:Sp174 c174):Sp137 (F137 c173 c174):=fun p0 p1 p2 y hy=>by
 refine qai (qaf (ek173 h173) (qaf (ek174 h174) qah)) 1000000 (fn:=Tryz.f137) (by kernel_rfl) (by kernel_rfl) (X:=X137) (by kernel_rfl) ?_
 rw [eq137]
 exact (nt137 Ops.std c173 c174 p0 p1 p2 _ _ some (K2 k0) (rr137 c173 c174 p0 p1 p2 k0 1000000) none).trans (by show ob (F137 c173 c174 p0 p1 p2) _=_;rw [hy];rfl)
noncomputable def M137:C137:=F137 M173 M174
theorem sm137:Sp137 M137:=sf137 sm173 sm174
end Go.Proofs.YtccnmhdgghjgoaaGreatDoor.Av
