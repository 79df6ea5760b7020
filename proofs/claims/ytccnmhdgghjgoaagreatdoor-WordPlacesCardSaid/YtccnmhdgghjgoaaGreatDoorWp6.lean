/- Twins of functions,printed by gen.py. Conditions: none. -/
import Derived.Test.YtccnmhdgghjgoaaGreatDoorWp5
import Derived.KernelRfl
set_option linter.unusedSimpArgs false
set_option linter.unusedVariables false
set_option maxRecDepth 100000
set_option maxHeartbeats 8000000
namespace Go.Proofs.YtccnmhdgghjgoaaGreatDoor.Av
open Go
abbrev C111:Type:=Int→Option (Int)
abbrev C112:Type:=Bool→Option (Int)
def T113 {R:Type} (B:Ops) (c111:C111) (c112:C112) (p0:Int) (p1:Int) (p2:Int) (k:(Int)→Option R):Option R:=cond (B.eq p0 (6)) (ob (c111 (IntKind.wrap .i64 (p1*p2))) fun y0=>k y0) (cond (B.eq p0 (7)) (ob (c111 (IntKind.wrap .i64 (p1+p2))) fun y0=>k y0) (cond (B.eq p0 (8)) (ob (c111 (IntKind.wrap .i64 (p1-p2))) fun y0=>k y0) (cond (B.eq p0 (9)) (ob (c112 (B.lt p1 p2)) fun y0=>k y0) (cond (B.eq p0 (10)) (ob (c112 (B.le p1 p2)) fun y0=>k y0) (cond (B.eq p0 (11)) (ob (c112 (B.lt p2 p1)) fun y0=>k y0) (cond (B.eq p0 (12)) (ob (c112 (B.le p2 p1)) fun y0=>k y0) (cond (B.eq p0 (13)) (ob (c112 (B.eq p1 p2)) fun y0=>k y0) (cond (B.eq p0 (14)) (ob (c112 !B.eq p1 p2) fun y0=>k y0) (cond (B.eq p0 (15)) (cond (!B.eq p1 (0)) (ob (c112 !B.eq p2 (0)) fun y0=>k y0) (ob (c112 false) fun y0=>k y0)) (cond (!B.eq p1 (0)) (ob (c112 true) fun y0=>k y0) (ob (c112 !B.eq p2 (0)) fun y0=>k y0)))))))))))
def F113 (c111:C111) (c112:C112) (p0:Int) (p1:Int) (p2:Int):Option (Int):=T113 Ops.std c111 c112 p0 p1 p2 some
noncomputable def M113:Int→Int→Int→Option (Int):=F113 M111 M112
inductive S64 where
 | l0 (v1:Int) (v7:L3)
abbrev C113:Type:=Int→Int→Int→Option (Int)
def T64 {R:Type} (B:Ops) (c62:C62) (c109:C109) (c111:C111) (c105:C105) (c108:C108) (c112:C112) (c113:C113) (p0:L94) (p1:L98) (p2:L103) (p3:L3) (p4:L3) (p5:L150) (again:S64→Option R) (k:(Int)→Option R):Option S64→Option R | none=>ob (c62 p0 p1 p2 p5) fun y0=>cond (!y0) (k 0) (cond (!B.eq (↑p3.length) (↑p1.length)) (k 0) (cond (!B.eq (↑p4.length) (↑p0.length)) (k 0) (again (.l0 0 (mt (Ty.den (Ty.int .i64))))))) | some (.l0 v1 v7)=>cond (B.lt v1 (↑p5.length)) (cond (B.inb v1 p5.length) (cond (B.eq ((p5.getD v1.toNat ty150.dflt).1) (1)) (cond (B.lim (List.length v7+List.length (((p5.getD v1.toNat ty150.dflt).2).1::mt (Ty.den (Ty.int .i64)))) (8)) (again (.l0 (IntKind.wrap .i64 (v1+1)) (v7++((p5.getD v1.toNat ty150.dflt).2).1::mt (Ty.den (Ty.int .i64))))) none) (cond (B.eq ((p5.getD v1.toNat ty150.dflt).1) (2)) (ob (c109 p0 p1 p2 ((((p5.getD v1.toNat ty150.dflt).2).2).1)) fun y0=>cond (B.inb y0 p4.length) (ob (c111 (p4.getD y0.toNat ty3.dflt)) fun y1=>cond (B.lim (List.length v7+List.length (y1::mt (Ty.den (Ty.int .i64)))) (8)) (again (.l0 (IntKind.wrap .i64 (v1+1)) (v7++y1::mt (Ty.den (Ty.int .i64))))) none) none) (cond (B.eq ((p5.getD v1.toNat ty150.dflt).1) (3)) (ob (c105 p0 p1 p2 ((((p5.getD v1.toNat ty150.dflt).2).2).1)) fun y0=>cond (B.inb y0 p3.length) (ob (c108 p0 p1 p2 y0 ((((p5.getD v1.toNat ty150.dflt).2).2).2)) fun y1=>ob (c112 (B.eq (p3.getD y0.toNat ty3.dflt) y1)) fun y2=>cond (B.lim (List.length v7+List.length (y2::mt (Ty.den (Ty.int .i64)))) (8)) (again (.l0 (IntKind.wrap .i64 (v1+1)) (v7++y2::mt (Ty.den (Ty.int .i64))))) none) none) (cond (B.eq ((p5.getD v1.toNat ty150.dflt).1) (4)) (cond (B.lt (↑v7.length) (1)) (k 0) (cond (B.eq (IntKind.wrap .i64 (Nat.cast v7.length-1)) (IntKind.wrap .i64 (Nat.cast v7.length-1))) (cond (B.inb (IntKind.wrap .i64 (Nat.cast v7.length-1)) (List.length v7+1)) (cond (B.inb (IntKind.wrap .i64 (Nat.cast v7.length-1)) v7.length) (ob (c112 (B.eq (v7.getD (Int.toNat (IntKind.wrap .i64 (Nat.cast v7.length-1))) ty3.dflt) (0))) fun y0=>cond (B.lt (0) (Nat.cast (List.length (y0::mt (Ty.den (Ty.int .i64)))))) (cond (B.lim (List.length (List.take (Int.toNat (IntKind.wrap .i64 (Nat.cast v7.length-1))) v7)+List.length (y0::mt (Ty.den (Ty.int .i64)))) (8)) (again (.l0 (IntKind.wrap .i64 (v1+1)) (List.take (Int.toNat (IntKind.wrap .i64 (Nat.cast v7.length-1))) v7++y0::mt (Ty.den (Ty.int .i64))))) none) none) none) none) none)) (cond (B.eq ((p5.getD v1.toNat ty150.dflt).1) (5)) (cond (B.lt (↑v7.length) (1)) (k 0) (cond (B.eq (IntKind.wrap .i64 (Nat.cast v7.length-1)) (IntKind.wrap .i64 (Nat.cast v7.length-1))) (cond (B.inb (IntKind.wrap .i64 (Nat.cast v7.length-1)) (List.length v7+1)) (cond (B.inb (IntKind.wrap .i64 (Nat.cast v7.length-1)) v7.length) (ob (c111 (IntKind.wrap .i64 (0-v7.getD (Int.toNat (IntKind.wrap .i64 (Nat.cast v7.length-1))) ty3.dflt))) fun y0=>cond (B.lt (0) (Nat.cast (List.length (y0::mt (Ty.den (Ty.int .i64)))))) (cond (B.lim (List.length (List.take (Int.toNat (IntKind.wrap .i64 (Nat.cast v7.length-1))) v7)+List.length (y0::mt (Ty.den (Ty.int .i64)))) (8)) (again (.l0 (IntKind.wrap .i64 (v1+1)) (List.take (Int.toNat (IntKind.wrap .i64 (Nat.cast v7.length-1))) v7++y0::mt (Ty.den (Ty.int .i64))))) none) none) none) none) none)) (cond (B.lt (↑v7.length) (2)) (k 0) (cond (B.eq (IntKind.wrap .i64 (Nat.cast v7.length-2)) (IntKind.wrap .i64 (Nat.cast v7.length-2))) (cond (B.inb (IntKind.wrap .i64 (Nat.cast v7.length-2)) (List.length v7+1)) (cond (B.inb (IntKind.wrap .i64 (Nat.cast v7.length-2)) v7.length) (cond (B.inb (IntKind.wrap .i64 (Nat.cast v7.length-1)) v7.length) (ob (c113 ((p5.getD v1.toNat ty150.dflt).1) (v7.getD (Int.toNat (IntKind.wrap .i64 (Nat.cast v7.length-2))) ty3.dflt) (v7.getD (Int.toNat (IntKind.wrap .i64 (Nat.cast v7.length-1))) ty3.dflt)) fun y0=>cond (B.lt (0) (Nat.cast (List.length (y0::mt (Ty.den (Ty.int .i64)))))) (cond (B.lim (List.length (List.take (Int.toNat (IntKind.wrap .i64 (Nat.cast v7.length-2))) v7)+List.length (y0::mt (Ty.den (Ty.int .i64)))) (8)) (again (.l0 (IntKind.wrap .i64 (v1+1)) (List.take (Int.toNat (IntKind.wrap .i64 (Nat.cast v7.length-2))) v7++y0::mt (Ty.den (Ty.int .i64))))) none) none) none) none) none) none))))))) none) (cond (B.eq (↑v7.length) (0)) (k 0) (cond (B.inb (0) v7.length) (k (v7.getD (Int.toNat (0)) ty3.dflt)) none))
def R64 (c62:C62) (c109:C109) (c111:C111) (c105:C105) (c108:C108) (c112:C112) (c113:C113) (p0:L94) (p1:L98) (p2:L103) (p3:L3) (p4:L3) (p5:L150):Nat→S64→Option (Int)
 | 0,_=>none
 | n+1,s=>T64 Ops.std c62 c109 c111 c105 c108 c112 c113 p0 p1 p2 p3 p4 p5 (R64 c62 c109 c111 c105 c108 c112 c113 p0 p1 p2 p3 p4 p5 n) some (some s)
def F64 (c62:C62) (c109:C109) (c111:C111) (c105:C105) (c108:C108) (c112:C112) (c113:C113) (p0:L94) (p1:L98) (p2:L103) (p3:L3) (p4:L3) (p5:L150):Option (Int):=T64 Ops.std c62 c109 c111 c105 c108 c112 c113 p0 p1 p2 p3 p4 p5 (R64 c62 c109 c111 c105 c108 c112 c113 p0 p1 p2 p3 p4 p5 1000000) some none
noncomputable def M64:L94→L98→L103→L3→L3→L150→Option (Int):=F64 M62 M109 M111 M105 M108 M112 M113
def e26 {R:Type} (c:L66→Option (Int×L3)):Ent R:=fun args objs k=>
 oL args 66 ty66 fun p0 l0=>oE l0 objs <| ob (c p0) fun y=>k (.tup [(false,[.own 501000]),(false,[.int .i64 y.1])]) [(501000,.row 3 ty3 y.2)]
def e27 {R:Type} (c:L3→L3→Option (Bool)):Ent R:=fun args objs k=>
 oL args 3 ty3 fun p0 l0=>oL l0 3 ty3 fun p1 l1=>oE l1 objs <| ob (c p0 p1) fun y=>k (.c (.bool y)) []
def X47:Aux:=⟨[(7,([0,1,3,4]++rg 9 101)),(2000000,[])],[(24,.lin (rg 0 12))]⟩
inductive S47 where
 | l0 (v0:Int) (v1:Int) (v2:L9) (v6:L94) (v7:L98) (v8:L103)
abbrev C88:Type:=L9→Option (LB×Int×Int×Int×Bool)
abbrev C89:Type:=LB→Option (Int×LB×LB×LB×LB×L150×L157×Bool)
def T47 {R:Type} (B:Ops) (c86:C86) (c87:C87) (c88:C88) (c90:C90) (c89:C89) (c18:C18) (p0:LB) (again:S47→Option R) (k:(L94×L98×L103×Int×Int)→Option R):Option S47→Option R | none=>cond (B.lt (60000) (↑p0.length)) (k ((mt (Ty.den ty94),mt (Ty.den ty98),mt (Ty.den ty103),14,0))) (ob (c86 p0 (10)) fun y0=>again (.l0 0 0 y0 (mt (Ty.den ty94)) (mt (Ty.den ty98)) (mt (Ty.den ty103)))) | some (.l0 v0 v1 v2 v6 v7 v8)=>cond (B.lt v1 (↑v2.length)) (cond (B.inb v1 v2.length) (cond (v2.getD v1.toNat ty9.dflt == mt UInt8) (again (.l0 v0 (IntKind.wrap .i64 (v1+1)) v2 v6 v7 v8)) (cond (B.inb v1 v2.length) (ob (c87 (v2.getD v1.toNat ty9.dflt)) fun y0=>cond (B.lt (0) (↑y0.length)) (cond (B.inb (0) y0.length) (cond (y0.getD (Int.toNat (0)) ty9.dflt == ([118,97,114]:LB)) (cond (B.inb (1) (List.length y0+1)) (ob (c88 (List.drop (Int.toNat (1)) (List.take y0.length y0))) fun y1=>cond (B.lim (List.length v6+List.length ((y1.1,y1.2.1,(y1.2.2).1,(y1.2.2.2).1)::mt (Ty.den ty94))) (40)) (cond (!(y1.2.2.2).2) (k ((mt (Ty.den ty94),mt (Ty.den ty98),mt (Ty.den ty103),2,IntKind.wrap .i64 (v1+1)))) (cond (B.lt (1) v0) (k ((mt (Ty.den ty94),mt (Ty.den ty98),mt (Ty.den ty103),2,IntKind.wrap .i64 (v1+1)))) (again (.l0 1 (IntKind.wrap .i64 (v1+1)) v2 (v6++(y1.1,y1.2.1,(y1.2.2).1,(y1.2.2.2).1)::mt (Ty.den ty94)) v7 v8)))) none) none) (cond (y0.getD (Int.toNat (0)) ty9.dflt == ([112,114,111,99]:LB)) (cond (B.lt (1) (↑y0.length)) (cond (B.inb (1) y0.length) (cond (B.inb (2) (List.length y0+1)) (cond (B.lim (List.length v7+List.length ((y0.getD (Int.toNat (1)) ty9.dflt,List.drop (Int.toNat (2)) (List.take y0.length y0))::mt (Ty.den ty98))) (40)) (cond (!B.lt (1) (↑y0.length)) (k ((mt (Ty.den ty94),mt (Ty.den ty98),mt (Ty.den ty103),2,IntKind.wrap .i64 (v1+1)))) (cond (B.lt (2) v0) (k ((mt (Ty.den ty94),mt (Ty.den ty98),mt (Ty.den ty103),2,IntKind.wrap .i64 (v1+1)))) (again (.l0 2 (IntKind.wrap .i64 (v1+1)) v2 v6 (v7++(y0.getD (Int.toNat (1)) ty9.dflt,List.drop (Int.toNat (2)) (List.take y0.length y0))::mt (Ty.den ty98)) v8)))) none) none) none) (cond (!B.lt (1) (↑y0.length)) (k ((mt (Ty.den ty94),mt (Ty.den ty98),mt (Ty.den ty103),2,IntKind.wrap .i64 (v1+1)))) (cond (B.lt (2) v0) (k ((mt (Ty.den ty94),mt (Ty.den ty98),mt (Ty.den ty103),2,IntKind.wrap .i64 (v1+1)))) (again (.l0 2 (IntKind.wrap .i64 (v1+1)) v2 v6 v7 v8))))) (cond (y0.getD (Int.toNat (0)) ty9.dflt == ([116,114,97,110,115]:LB)) (cond (B.inb v1 v2.length) (ob (c90 (v2.getD v1.toNat ty9.dflt) (1)) fun y1=>ob (c89 y1) fun y2=>cond (B.lim (List.length v8+List.length ((y2.1,y2.2.1,(y2.2.2).1,(y2.2.2.2).1,((y2.2.2.2).2).1,((y2.2.2.2.2).2).1,(((y2.2.2.2.2).2).2).1)::mt (Ty.den ty103))) (120)) (cond (!(((y2.2.2.2.2).2).2).2) (k ((mt (Ty.den ty94),mt (Ty.den ty98),mt (Ty.den ty103),2,IntKind.wrap .i64 (v1+1)))) (cond (B.lt (3) v0) (k ((mt (Ty.den ty94),mt (Ty.den ty98),mt (Ty.den ty103),2,IntKind.wrap .i64 (v1+1)))) (again (.l0 3 (IntKind.wrap .i64 (v1+1)) v2 v6 v7 (v8++(y2.1,y2.2.1,(y2.2.2).1,(y2.2.2.2).1,((y2.2.2.2).2).1,((y2.2.2.2.2).2).1,(((y2.2.2.2.2).2).2).1)::mt (Ty.den ty103)))))) none) none) (k ((mt (Ty.den ty94),mt (Ty.den ty98),mt (Ty.den ty103),2,IntKind.wrap .i64 (v1+1))))))) none) (k ((mt (Ty.den ty94),mt (Ty.den ty98),mt (Ty.den ty103),2,IntKind.wrap .i64 (v1+1))))) none)) none) (ob (c18 v6 v7 v8) fun y0=>cond (!y0) (k ((mt (Ty.den ty94),mt (Ty.den ty98),mt (Ty.den ty103),2,0))) (k ((v6,v7,v8,0,0))))
def E47 (p0:LB):S47→List AV×Objs
 | .l0 v0 v1 v2 v6 v7 v8=>(mk 110 [(2,.c (.ptr 2 0)),(5,.c (.ptr 5 0)),(6,.c (.int .i64 v0)),(7,.c (.own 7)),(8,.c (.int .i64 v1))],[(2,.box 31 [.own 3000,.own 3001,.own 3002]),(5,.box 31 [.own 6000,.own 6001,.own 6002]),(7,.row 9 ty9 v2),(3000,.row 94 ty94 (mt (Ty.den ty94))),(3001,.row 98 ty98 (mt (Ty.den ty98))),(3002,.row 103 ty103 (mt (Ty.den ty103))),(6000,.row 94 ty94 v6),(6001,.row 98 ty98 v7),(6002,.row 103 ty103 v8)])
def I47:S47→Nat
 | .l0 _ _ _ _ _ _=>0
abbrev K34 {R:Type} (k:AV→Objs→Option R) (y:(L94×L98×L103×Int×Int)):Option R:=k (.tup [(true,[.list 94 ty94 y.1,.list 98 ty98 y.2.1,.list 103 ty103 y.2.2.1]),(false,[.int .i64 y.2.2.2.1]),(false,[.int .i64 y.2.2.2.2])]) []
theorem eq47 {R:Type} (B:Ops) (c86:C86) (c87:C87) (c88:C88) (c90:C90) (c89:C89) (c18:C18) (p0:LB) (k:AV→Objs→Option R) (n:Nat):afun tau B gl0 X47 (ent 86 (e86 c86) (ent 87 (e87 c87) (ent 88 (e88 c88) (ent 90 (e90 c90) (ent 89 (e89 c89) (ent 18 (e18 c18) gnil)))))) ow Tryz.f47 [.c (.str p0)] [] k n=T47 B c86 c87 c88 c90 c89 c18 p0 (fun s=>aloop tau B gl0 X47 (ent 86 (e86 c86) (ent 87 (e87 c87) (ent 88 (e88 c88) (ent 90 (e90 c90) (ent 89 (e89 c89) (ent 18 (e18 c18) gnil)))))) ow [] Tryz.f47 k (I47 s) (E47 p0 s) n) (K34 k) none:=by kernel_rfl
theorem el47 {R:Type} (B:Ops) (c86:C86) (c87:C87) (c88:C88) (c90:C90) (c89:C89) (c18:C18) (p0:LB) (k:AV→Objs→Option R) (n:Nat):∀ s,aloop tau B gl0 X47 (ent 86 (e86 c86) (ent 87 (e87 c87) (ent 88 (e88 c88) (ent 90 (e90 c90) (ent 89 (e89 c89) (ent 18 (e18 c18) gnil)))))) ow [] Tryz.f47 k (I47 s) (E47 p0 s) (n+1)=T47 B c86 c87 c88 c90 c89 c18 p0 (fun s=>aloop tau B gl0 X47 (ent 86 (e86 c86) (ent 87 (e87 c87) (ent 88 (e88 c88) (ent 90 (e90 c90) (ent 89 (e89 c89) (ent 18 (e18 c18) gnil)))))) ow [] Tryz.f47 k (I47 s) (E47 p0 s) n) (K34 k) (some s):=by
 intro s
 cases s<;>kernel_rfl
theorem nt47 {R R':Type} (B:Ops) (c86:C86) (c87:C87) (c88:C88) (c90:C90) (c89:C89) (c18:C18) (p0:LB) (again:S47→Option R) (again':S47→Option R') (k0:(L94×L98×L103×Int×Int)→Option R') (k:R'→Option R) (h:∀ s,again s=ob (again' s) k):∀ s,T47 B c86 c87 c88 c90 c89 c18 p0 again (fun y=>ob (k0 y) k) s=ob (T47 B c86 c87 c88 c90 c89 c18 p0 again' k0 s) k:=by
 rintro (_ | x)
 all_goals try cases x
 all_goals (unfold T47;repeat' first | exact rfl | exact h _ | apply qaf | (apply qap;intro))
def R47 (c86:C86) (c87:C87) (c88:C88) (c90:C90) (c89:C89) (c18:C18) (p0:LB):Nat→S47→Option (L94×L98×L103×Int×Int)
 | 0,_=>none
 | n+1,s=>T47 Ops.std c86 c87 c88 c90 c89 c18 p0 (R47 c86 c87 c88 c90 c89 c18 p0 n) some (some s)
theorem rr47 {R:Type} (c86:C86) (c87:C87) (c88:C88) (c90:C90) (c89:C89) (c18:C18) (p0:LB) (k:AV→Objs→Option R):∀ (n:Nat) (s:S47),aloop tau Ops.std gl0 X47 (ent 86 (e86 c86) (ent 87 (e87 c87) (ent 88 (e88 c88) (ent 90 (e90 c90) (ent 89 (e89 c89) (ent 18 (e18 c18) gnil)))))) ow [] Tryz.f47 k (I47 s) (E47 p0 s) n=ob (R47 c86 c87 c88 c90 c89 c18 p0 n s) (K34 k)
 | 0,s=>by cases s<;>rfl
 | n+1,s=>by rw [el47];exact nt47 Ops.std c86 c87 c88 c90 c89 c18 p0 _ _ some (K34 k) (rr47 c86 c87 c88 c90 c89 c18 p0 k n) (some s)
def F47 (c86:C86) (c87:C87) (c88:C88) (c90:C90) (c89:C89) (c18:C18) (p0:LB):Option (L94×L98×L103×Int×Int):=T47 Ops.std c86 c87 c88 c90 c89 c18 p0 (R47 c86 c87 c88 c90 c89 c18 p0 1000000) some none
def e47 {R:Type} (c:LB→Option (L94×L98×L103×Int×Int)):Ent R:=fun args objs k=>
 oS args fun p0 l0=>oE l0 objs <| ob (c p0) (K34 k)
abbrev Sp47 (c:LB→Option (L94×L98×L103×Int×Int)):Prop:=∀ (p0:LB) (y:L94×L98×L103×Int×Int),c p0=some y→Spec Tryz.prog gl0 47 [.c (.str p0)] [] (.tup [(true,[.list 94 ty94 y.1,.list 98 ty98 y.2.1,.list 103 ty103 y.2.2.1]),(false,[.int .i64 y.2.2.2.1]),(false,[.int .i64 y.2.2.2.2])]) []
theorem ek47 {R:Type} {c:LB→Option (L94×L98×L103×Int×Int)} (hs:Sp47 c):EOk 47 (e47 (R:=R) c):=fun args objs k r h=>by
 unfold e47 at h
 obtain ⟨p0,l0,rfl,q3⟩:=qa7 h
 obtain ⟨rfl,rfl,q5⟩:=qaq q3
 exact qao (hs p0) q5
theorem sf47 {c86:C86} {c87:C87} {c88:C88} {c90:C90} {c89:C89} {c18:C18} (h86:Sp86 c86) (h87:Sp87 c87) (h88:Sp88 c88) (h90:Sp90 c90) (h89:Sp89 c89) (h18:Sp18 c18):Sp47 (F47 c86 c87 c88 c90 c89 c18):=fun p0 y hy=>by
 refine qam (qag (ek86 h86) (qag (ek87 h87) (qag (ek88 h88) (qag (ek90 h90) (qag (ek89 h89) (qag (ek18 h18) qal)))))) 1000000 (fn:=Tryz.f47) (by kernel_rfl) (by kernel_rfl) (X:=X47) (by kernel_rfl) ?_
 rw [eq47]
 exact (nt47 Ops.std c86 c87 c88 c90 c89 c18 p0 _ _ some (K34 k0) (rr47 c86 c87 c88 c90 c89 c18 p0 k0 1000000) none).trans (by show ob (F47 c86 c87 c88 c90 c89 c18 p0) _=_;rw [hy];rfl)
noncomputable def M47:LB→Option (L94×L98×L103×Int×Int):=F47 M86 M87 M88 M90 M89 M18
theorem sm47:Sp47 M47:=sf47 sm86 sm87 sm88 sm90 sm89 sm18
def X12:Aux:=⟨[],[]⟩
abbrev C48:Type:=Int→Int→L22→Option (LB)
abbrev C47:Type:=LB→Option (L94×L98×L103×Int×Int)
def T12 {R:Type} (B:Ops) (c48:C48) (c47:C47) (p0:Int) (p1:Int) (p2:L22) (k:(L94×L98×L103)→Option R):Option R:=ob (c48 p0 p1 p2) fun y0=>ob (c47 y0) fun y1=>k ((y1.1,y1.2.1,(y1.2.2).1))
abbrev K35 {R:Type} (k:AV→Objs→Option R) (y:(L94×L98×L103)):Option R:=k (.agg [.list 94 ty94 y.1,.list 98 ty98 y.2.1,.list 103 ty103 y.2.2]) []
theorem eq12 {R:Type} (B:Ops) (c48:C48) (c47:C47) (p0:Int) (p1:Int) (p2:L22) (k:AV→Objs→Option R) (n:Nat):afun tau B gl0 X12 (ent 48 (e48 c48) (ent 47 (e47 c47) gnil)) ow Tryz.f12 [.agg [.int .i64 p0,.int .i64 p1,.list 22 ty22 p2]] [] k n=T12 B c48 c47 p0 p1 p2 (K35 k):=by kernel_rfl
theorem nt12 {R R':Type} (B:Ops) (c48:C48) (c47:C47) (p0:Int) (p1:Int) (p2:L22) (k0:(L94×L98×L103)→Option R') (k:R'→Option R):T12 B c48 c47 p0 p1 p2 (fun y=>ob (k0 y) k)=ob (T12 B c48 c47 p0 p1 p2 k0) k:=by
 unfold T12
 repeat' first | exact rfl | apply qaf | (apply qap;intro)
def F12 (c48:C48) (c47:C47) (p0:Int) (p1:Int) (p2:L22):Option (L94×L98×L103):=T12 Ops.std c48 c47 p0 p1 p2 some
def e12 {R:Type} (c:Int→Int→L22→Option (L94×L98×L103)):Ent R:=fun args objs k=>
 oCons args fun a0 l0=>oAgg a0 fun x0=>cCons x0 fun z0_0 w0_0=>cInt .i64 z0_0 fun p0=>cCons w0_0 fun z0_1 w0_1=>cInt .i64 z0_1 fun p1=>cCons w0_1 fun z0_2 w0_2=>cList 22 ty22 z0_2 fun p2=>cNil w0_2 <| oE l0 objs <| ob (c p0 p1 p2) (K35 k)
abbrev Sp12 (c:Int→Int→L22→Option (L94×L98×L103)):Prop:=∀ (p0:Int) (p1:Int) (p2:L22) (y:L94×L98×L103),c p0 p1 p2=some y→Spec Tryz.prog gl0 12 [.agg [.int .i64 p0,.int .i64 p1,.list 22 ty22 p2]] [] (.agg [.list 94 ty94 y.1,.list 98 ty98 y.2.1,.list 103 ty103 y.2.2]) []
theorem ek12 {R:Type} {c:Int→Int→L22→Option (L94×L98×L103)} (hs:Sp12 c):EOk 12 (e12 (R:=R) c):=fun args objs k r h=>by
 unfold e12 at h
 obtain ⟨a0,l0,rfl,q1⟩:=qae h
 obtain ⟨x0,rfl,q2⟩:=qar q1
 obtain ⟨z0_0,w0_0,rfl,q3⟩:=qaa q2
 obtain ⟨p0,rfl,q4⟩:=qan q3
 obtain ⟨z0_1,w0_1,rfl,q5⟩:=qaa q4
 obtain ⟨p1,rfl,q6⟩:=qan q5
 obtain ⟨z0_2,w0_2,rfl,q7⟩:=qaa q6
 obtain ⟨p2,rfl,q8⟩:=qab q7
 obtain ⟨rfl,q9⟩:=qah q8
 obtain ⟨rfl,rfl,q11⟩:=qaq q9
 exact qao (hs p0 p1 p2) q11
theorem sf12 {c48:C48} {c47:C47} (h48:Sp48 c48) (h47:Sp47 c47):Sp12 (F12 c48 c47):=fun p0 p1 p2 y hy=>by
 refine qam (qag (ek48 h48) (qag (ek47 h47) qal)) 1000000 (fn:=Tryz.f12) (by kernel_rfl) (by kernel_rfl) (X:=X12) (by kernel_rfl) ?_
 rw [eq12]
 exact (nt12 Ops.std c48 c47 p0 p1 p2 some (K35 k0)).trans (by show ob (F12 c48 c47 p0 p1 p2) _=_;rw [hy];rfl)
noncomputable def M12:Int→Int→L22→Option (L94×L98×L103):=F12 M48 M47
theorem sm12:Sp12 M12:=sf12 sm48 sm47
def e3 {R:Type} (c:L3→Bool→Int→Int→L22→L3→L3→Option (Bool)):Ent R:=fun args objs k=>
 oL args 3 ty3 fun p0 l0=>oCons l0 fun a1 l1=>oC a1 fun x1=>cBool x1 fun p1=>oCons l1 fun a2 l2=>oAgg a2 fun x2=>cCons x2 fun z2_0 w2_0=>cInt .i64 z2_0 fun p2=>cCons w2_0 fun z2_1 w2_1=>cInt .i64 z2_1 fun p3=>cCons w2_1 fun z2_2 w2_2=>cList 22 ty22 z2_2 fun p4=>cNil w2_2 <| oL l2 3 ty3 fun p5 l3=>oL l3 3 ty3 fun p6 l4=>oE l4 objs <| ob (c p0 p1 p2 p3 p4 p5 p6) fun y=>k (.c (.bool y)) []
end Go.Proofs.YtccnmhdgghjgoaaGreatDoor.Av
