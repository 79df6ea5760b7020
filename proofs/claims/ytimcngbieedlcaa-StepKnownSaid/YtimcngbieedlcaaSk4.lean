/- Twins of functions,printed by gen.py. Conditions: none. -/
import Derived.Test.YtimcngbieedlcaaSk3
import Derived.KernelRfl
set_option linter.unusedSimpArgs false
set_option linter.unusedVariables false
set_option maxRecDepth 100000
set_option maxHeartbeats 8000000
namespace Go.Proofs.Ytimcngbieedlcaa.Av
open Go
def X37:Aux:=⟨[(3,([1,2,3]++rg 6 74))],[]⟩
inductive S37 where
 | l0 (v1:Int) (v2:L73)
def T37 {R:Type} (B:Ops) (c55:C55) (c56:C56) (p0:L9) (again:S37→Option R) (k:(Bool×L73)→Option R):Option S37→Option R | none=>again (.l0 0 (mt (Ty.den ty73))) | some (.l0 v1 v2)=>cond (B.lt v1 (↑p0.length)) (cond (B.inb v1 p0.length) (ob (c55 (p0.getD v1.toNat ty9.dflt)) fun y0=>cond (!B.eq y0.1 0) (k ((false,mt (Ty.den ty73)))) (cond (B.lt (Nat.cast (List.length y0.2.2)) 3) (k ((false,mt (Ty.den ty73)))) (cond (B.inb 0 (List.length y0.2.2)) (cond (!B.eq ((List.getD y0.2.2 (Int.toNat 0) ty111.dflt).1) 2) (k ((false,mt (Ty.den ty73)))) (cond (B.inb 1 (List.length y0.2.2)) (cond (!B.eq ((List.getD y0.2.2 (Int.toNat 1) ty111.dflt).1) 4) (k ((false,mt (Ty.den ty73)))) (cond (B.inb 1 (List.length y0.2.2)) (cond (!((List.getD y0.2.2 (Int.toNat 1) ty111.dflt).2).1 == ([61]:LB)) (k ((false,mt (Ty.den ty73)))) (ob (c56 y0.2.2 2) fun y1=>cond (!B.eq y1.2.1 0) (k ((false,mt (Ty.den ty73)))) (cond (B.inb y1.1 (List.length y0.2.2)) (cond (!B.eq ((List.getD y0.2.2 (Int.toNat y1.1) ty111.dflt).1) 5) (k ((false,mt (Ty.den ty73)))) (cond (B.inb 0 (List.length y0.2.2)) (cond (B.lim (List.length v2+List.length ((((List.getD y0.2.2 (Int.toNat 0) ty111.dflt).2).1,y1.2.2)::mt (Ty.den ty73))) 40) (again (.l0 (IntKind.wrap .i64 (v1+1)) (v2++(((List.getD y0.2.2 (Int.toNat 0) ty111.dflt).2).1,y1.2.2)::mt (Ty.den ty73)))) none) none)) none))) none)) none)) none))) none) (k (true,v2))
def E37 (p0:L9):S37→List AV×Objs
 | .l0 v1 v2=>(mk 80 [(0,.c (.list 9 ty9 p0)),(4,.c (.own 4)),(5,.c (.int .i64 v1))],[(4,.row 73 ty73 v2)])
def I37:S37→Nat
 | .l0 _ _=>0
abbrev K29 {R:Type} (k:AV→Objs→Option R) (y:(Bool×L73)):Option R:=k (.tup [(false,[.own 501000]),(false,[.bool y.1])]) [(501000,.row 73 ty73 y.2)]
theorem eq37 {R:Type} (B:Ops) (c55:C55) (c56:C56) (p0:L9) (k:AV→Objs→Option R) (n:Nat):afun tau B gl0 X37 (ent 55 (e55 c55) (ent 56 (e56 c56) gnil)) ow Try.f37 [.c (.list 9 ty9 p0)] [] k n=T37 B c55 c56 p0 (fun s=>aloop tau B gl0 X37 (ent 55 (e55 c55) (ent 56 (e56 c56) gnil)) ow [] Try.f37 k (I37 s) (E37 p0 s) n) (K29 k) none:=by kernel_rfl
theorem el37 {R:Type} (B:Ops) (c55:C55) (c56:C56) (p0:L9) (k:AV→Objs→Option R) (n:Nat):∀ s,aloop tau B gl0 X37 (ent 55 (e55 c55) (ent 56 (e56 c56) gnil)) ow [] Try.f37 k (I37 s) (E37 p0 s) (n+1)=T37 B c55 c56 p0 (fun s=>aloop tau B gl0 X37 (ent 55 (e55 c55) (ent 56 (e56 c56) gnil)) ow [] Try.f37 k (I37 s) (E37 p0 s) n) (K29 k) (some s):=by
 intro s
 cases s<;>kernel_rfl
theorem nt37 {R R':Type} (B:Ops) (c55:C55) (c56:C56) (p0:L9) (again:S37→Option R) (again':S37→Option R') (k0:(Bool×L73)→Option R') (k:R'→Option R) (h:∀ s,again s=ob (again' s) k):∀ s,T37 B c55 c56 p0 again (fun y=>ob (k0 y) k) s=ob (T37 B c55 c56 p0 again' k0 s) k:=by
 rintro (_ | x)
 all_goals try cases x
 all_goals (unfold T37;repeat' first | exact rfl | exact h _ | apply qab | (apply qae;intro))
def R37 (c55:C55) (c56:C56) (p0:L9):Nat→S37→Option (Bool×L73)
 | 0,_=>none
 | n+1,s=>T37 Ops.std c55 c56 p0 (R37 c55 c56 p0 n) some (some s)
theorem rr37 {R:Type} (c55:C55) (c56:C56) (p0:L9) (k:AV→Objs→Option R):∀ (n:Nat) (s:S37),aloop tau Ops.std gl0 X37 (ent 55 (e55 c55) (ent 56 (e56 c56) gnil)) ow [] Try.f37 k (I37 s) (E37 p0 s) n=ob (R37 c55 c56 p0 n s) (K29 k)
 | 0,s=>by cases s<;>rfl
 | n+1,s=>by rw [el37];exact nt37 Ops.std c55 c56 p0 _ _ some (K29 k) (rr37 c55 c56 p0 k n) (some s)
def F37 (c55:C55) (c56:C56) (p0:L9):Option (Bool×L73):=T37 Ops.std c55 c56 p0 (R37 c55 c56 p0 1000000) some none
abbrev C37:Type:=L9→Option (Bool×L73)
def e37 {R:Type} (c:C37):Ent R:=eG [.aC (.cL 9 ty9)] [] fun v k=>ob (c v.1) (K29 k)
abbrev Sp37 (c:C37):Prop:=∀ (p0:L9) (y:Bool×L73),c p0=some y→Spec Try.prog gl0 37 [.c (.list 9 ty9 p0)] [] (.tup [(false,[.own 501000]),(false,[.bool y.1])]) [(501000,.row 73 ty73 y.2)]
theorem ek37 {R:Type} {c:C37} (hs:Sp37 c):EOk 37 (e37 (R:=R) c):=qag fun v=>hs v.1
theorem sf37 {c55:C55} {c56:C56} (h55:Sp55 c55) (h56:Sp56 c56):Sp37 (F37 c55 c56):=fun p0 y hy=>by
 refine qad (qaa (ek55 h55) (qaa (ek56 h56) qac)) 1000000 (fn:=Try.f37) (by kernel_rfl) (by kernel_rfl) (X:=X37) (by kernel_rfl) ?_
 rw [eq37]
 exact (nt37 Ops.std c55 c56 p0 _ _ some (K29 k0) (rr37 c55 c56 p0 k0 1000000) none).trans (by show ob (F37 c55 c56 p0) _=_;rw [hy];rfl)
noncomputable def M37:C37:=F37 M55 M56
theorem sm37:Sp37 M37:=sf37 sm55 sm56
def X23:Aux:=⟨[(2000000,[])],[(5,.lin (rg 0 16))]⟩
def T23 {R:Type} (B:Ops) (c21:C21) (c34:C34) (c35:C35) (c24:C24) (c20:C20) (c36:C36) (c37:C37) (c38:C38) (p0:LB) (k:(Int×LB×LB×LB×LB×L95×L73×Bool)→Option R):Option R:=ob (c21 p0) fun y0=>cond (B.lt (↑y0.length) 6) (k ((0,mt UInt8,mt UInt8,mt UInt8,mt UInt8,mt (Ty.den ty95),mt (Ty.den ty73),false))) (cond (B.inb 0 y0.length) (ob (c34 (y0.getD (Int.toNat 0) ty9.dflt) false) fun y1=>cond (B.inb 1 y0.length) (cond (B.inb 2 y0.length) (cond (B.inb 3 y0.length) (cond (B.inb 4 y0.length) (cond (y0.getD (Int.toNat 4) ty9.dflt == ([45]:LB)) (ob (c24 p0 5) fun y2=>ob (c20 y2 59) fun y3=>cond (B.inb 0 y3.length) (ob (c36 (y3.getD (Int.toNat 0) ty9.dflt)) fun y4=>cond (B.inb 1 (List.length y3+1)) (ob (c37 (List.drop (Int.toNat 1) (List.take y3.length y3))) fun y5=>cond (!y1.2) (k ((0,mt UInt8,mt UInt8,mt UInt8,mt UInt8,mt (Ty.den ty95),mt (Ty.den ty73),false))) (cond (!B.eq y4.1 0) (k ((0,mt UInt8,mt UInt8,mt UInt8,mt UInt8,mt (Ty.den ty95),mt (Ty.den ty73),false))) (cond (!y5.1) (k ((0,mt UInt8,mt UInt8,mt UInt8,mt UInt8,mt (Ty.den ty95),mt (Ty.den ty73),false))) (ob (c38 y1.1 (y0.getD (Int.toNat 1) ty9.dflt) (y0.getD (Int.toNat 2) ty9.dflt) (y0.getD (Int.toNat 3) ty9.dflt) (mt UInt8) y4.2.2 y5.2) fun y6=>cond (y6 == mt UInt8) (k ((0,mt UInt8,mt UInt8,mt UInt8,mt UInt8,mt (Ty.den ty95),mt (Ty.den ty73),false))) (k ((y1.1,y0.getD (Int.toNat 1) ty9.dflt,y0.getD (Int.toNat 2) ty9.dflt,y0.getD (Int.toNat 3) ty9.dflt,mt UInt8,y4.2.2,y5.2,true))))))) none) none) (ob (c35 (y0.getD (Int.toNat 4) ty9.dflt)) fun y2=>cond (!y2.2) (k ((0,mt UInt8,mt UInt8,mt UInt8,mt UInt8,mt (Ty.den ty95),mt (Ty.den ty73),false))) (ob (c24 p0 5) fun y3=>ob (c20 y3 59) fun y4=>cond (B.inb 0 y4.length) (ob (c36 (y4.getD (Int.toNat 0) ty9.dflt)) fun y5=>cond (B.inb 1 (List.length y4+1)) (ob (c37 (List.drop (Int.toNat 1) (List.take y4.length y4))) fun y6=>cond (!y1.2) (k ((0,mt UInt8,mt UInt8,mt UInt8,mt UInt8,mt (Ty.den ty95),mt (Ty.den ty73),false))) (cond (!B.eq y5.1 0) (k ((0,mt UInt8,mt UInt8,mt UInt8,mt UInt8,mt (Ty.den ty95),mt (Ty.den ty73),false))) (cond (!y6.1) (k ((0,mt UInt8,mt UInt8,mt UInt8,mt UInt8,mt (Ty.den ty95),mt (Ty.den ty73),false))) (ob (c38 y1.1 (y0.getD (Int.toNat 1) ty9.dflt) (y0.getD (Int.toNat 2) ty9.dflt) (y0.getD (Int.toNat 3) ty9.dflt) (y0.getD (Int.toNat 4) ty9.dflt) y5.2.2 y6.2) fun y7=>cond (y7 == mt UInt8) (k ((0,mt UInt8,mt UInt8,mt UInt8,mt UInt8,mt (Ty.den ty95),mt (Ty.den ty73),false))) (k ((y1.1,y0.getD (Int.toNat 1) ty9.dflt,y0.getD (Int.toNat 2) ty9.dflt,y0.getD (Int.toNat 3) ty9.dflt,y0.getD (Int.toNat 4) ty9.dflt,y5.2.2,y6.2,true))))))) none) none))) none) none) none) none) none)
theorem eq23 {R:Type} (B:Ops) (c21:C21) (c34:C34) (c35:C35) (c24:C24) (c20:C20) (c36:C36) (c37:C37) (c38:C38) (p0:LB) (k:AV→Objs→Option R) (n:Nat):afun tau B gl0 X23 (ent 21 (e21 c21) (ent 34 (e34 c34) (ent 35 (e35 c35) (ent 24 (e24 c24) (ent 20 (e20 c20) (ent 36 (e36 c36) (ent 37 (e37 c37) (ent 38 (e38 c38) gnil)))))))) ow Try.f23 [.c (.str p0)] [] k n=T23 B c21 c34 c35 c24 c20 c36 c37 c38 p0 (K27 k):=by kernel_rfl
theorem nt23 {R R':Type} (B:Ops) (c21:C21) (c34:C34) (c35:C35) (c24:C24) (c20:C20) (c36:C36) (c37:C37) (c38:C38) (p0:LB) (k0:(Int×LB×LB×LB×LB×L95×L73×Bool)→Option R') (k:R'→Option R):T23 B c21 c34 c35 c24 c20 c36 c37 c38 p0 (fun y=>ob (k0 y) k)=ob (T23 B c21 c34 c35 c24 c20 c36 c37 c38 p0 k0) k:=by
 unfold T23
 repeat' first | exact rfl | apply qab | (apply qae;intro)
def F23 (c21:C21) (c34:C34) (c35:C35) (c24:C24) (c20:C20) (c36:C36) (c37:C37) (c38:C38) (p0:LB):Option (Int×LB×LB×LB×LB×L95×L73×Bool):=T23 Ops.std c21 c34 c35 c24 c20 c36 c37 c38 p0 some
abbrev C23:Type:=LB→Option (Int×LB×LB×LB×LB×L95×L73×Bool)
def e23 {R:Type} (c:C23):Ent R:=eG [.aC .cS] [] fun v k=>ob (c v.1) (K27 k)
abbrev Sp23 (c:C23):Prop:=∀ (p0:LB) (y:Int×LB×LB×LB×LB×L95×L73×Bool),c p0=some y→Spec Try.prog gl0 23 [.c (.str p0)] [] (.tup [(true,[.int .i64 y.1,.str y.2.1,.str y.2.2.1,.str y.2.2.2.1,.str y.2.2.2.2.1,.list 95 ty95 y.2.2.2.2.2.1,.list 73 ty73 y.2.2.2.2.2.2.1]),(false,[.bool y.2.2.2.2.2.2.2])]) []
theorem ek23 {R:Type} {c:C23} (hs:Sp23 c):EOk 23 (e23 (R:=R) c):=qag fun v=>hs v.1
theorem sf23 {c21:C21} {c34:C34} {c35:C35} {c24:C24} {c20:C20} {c36:C36} {c37:C37} {c38:C38} (h21:Sp21 c21) (h34:Sp34 c34) (h35:Sp35 c35) (h24:Sp24 c24) (h20:Sp20 c20) (h36:Sp36 c36) (h37:Sp37 c37) (h38:Sp38 c38):Sp23 (F23 c21 c34 c35 c24 c20 c36 c37 c38):=fun p0 y hy=>by
 refine qad (qaa (ek21 h21) (qaa (ek34 h34) (qaa (ek35 h35) (qaa (ek24 h24) (qaa (ek20 h20) (qaa (ek36 h36) (qaa (ek37 h37) (qaa (ek38 h38) qac)))))))) 1000000 (fn:=Try.f23) (by kernel_rfl) (by kernel_rfl) (X:=X23) (by kernel_rfl) ?_
 rw [eq23]
 exact (nt23 Ops.std c21 c34 c35 c24 c20 c36 c37 c38 p0 some (K27 k0)).trans (by show ob (F23 c21 c34 c35 c24 c20 c36 c37 c38 p0) _=_;rw [hy];rfl)
noncomputable def M23:C23:=F23 M21 M34 M35 M24 M20 M36 M37 M38
theorem sm23:Sp23 M23:=sf23 sm21 sm34 sm35 sm24 sm20 sm36 sm37 sm38
def X12:Aux:=⟨[(7,([0,1,3,4]++rg 9 101)),(2000000,[])],[(24,.lin (rg 0 12))]⟩
inductive S12 where
 | l0 (v0 v1:Int) (v2:L9) (v6:L62) (v7:L66) (v8:L43)
def T12 {R:Type} (B:Ops) (c20:C20) (c21:C21) (c22:C22) (c24:C24) (c23:C23) (c25:C25) (p0:LB) (again:S12→Option R) (k:(L62×L66×L43×Int×Int)→Option R):Option S12→Option R | none=>cond (B.lt 60000 (↑p0.length)) (k ((mt (Ty.den ty62),mt (Ty.den ty66),mt (Ty.den ty43),14,0))) (ob (c20 p0 10) fun y0=>again (.l0 0 0 y0 (mt (Ty.den ty62)) (mt (Ty.den ty66)) (mt (Ty.den ty43)))) | some (.l0 v0 v1 v2 v6 v7 v8)=>cond (B.lt v1 (↑v2.length)) (cond (B.inb v1 v2.length) (cond (v2.getD v1.toNat ty9.dflt == mt UInt8) (again (.l0 v0 (IntKind.wrap .i64 (v1+1)) v2 v6 v7 v8)) (cond (B.inb v1 v2.length) (ob (c21 (v2.getD v1.toNat ty9.dflt)) fun y0=>cond (B.lt 0 (↑y0.length)) (cond (B.inb 0 y0.length) (cond (y0.getD (Int.toNat 0) ty9.dflt == ([118,97,114]:LB)) (cond (B.inb 1 (List.length y0+1)) (ob (c22 (List.drop (Int.toNat 1) (List.take y0.length y0))) fun y1=>cond (B.lim (List.length v6+List.length ((y1.1,y1.2.1,y1.2.2.1,y1.2.2.2.1)::mt (Ty.den ty62))) 40) (cond (!y1.2.2.2.2) (k ((mt (Ty.den ty62),mt (Ty.den ty66),mt (Ty.den ty43),2,IntKind.wrap .i64 (v1+1)))) (cond (B.lt 1 v0) (k ((mt (Ty.den ty62),mt (Ty.den ty66),mt (Ty.den ty43),2,IntKind.wrap .i64 (v1+1)))) (again (.l0 1 (IntKind.wrap .i64 (v1+1)) v2 (v6++(y1.1,y1.2.1,y1.2.2.1,y1.2.2.2.1)::mt (Ty.den ty62)) v7 v8)))) none) none) (cond (y0.getD (Int.toNat 0) ty9.dflt == ([112,114,111,99]:LB)) (cond (B.lt 1 (↑y0.length)) (cond (B.inb 1 y0.length) (cond (B.inb 2 (List.length y0+1)) (cond (B.lim (List.length v7+List.length ((y0.getD (Int.toNat 1) ty9.dflt,List.drop (Int.toNat 2) (List.take y0.length y0))::mt (Ty.den ty66))) 40) (cond (!B.lt 1 (↑y0.length)) (k ((mt (Ty.den ty62),mt (Ty.den ty66),mt (Ty.den ty43),2,IntKind.wrap .i64 (v1+1)))) (cond (B.lt 2 v0) (k ((mt (Ty.den ty62),mt (Ty.den ty66),mt (Ty.den ty43),2,IntKind.wrap .i64 (v1+1)))) (again (.l0 2 (IntKind.wrap .i64 (v1+1)) v2 v6 (v7++(y0.getD (Int.toNat 1) ty9.dflt,List.drop (Int.toNat 2) (List.take y0.length y0))::mt (Ty.den ty66)) v8)))) none) none) none) (cond (!B.lt 1 (↑y0.length)) (k ((mt (Ty.den ty62),mt (Ty.den ty66),mt (Ty.den ty43),2,IntKind.wrap .i64 (v1+1)))) (cond (B.lt 2 v0) (k ((mt (Ty.den ty62),mt (Ty.den ty66),mt (Ty.den ty43),2,IntKind.wrap .i64 (v1+1)))) (again (.l0 2 (IntKind.wrap .i64 (v1+1)) v2 v6 v7 v8))))) (cond (y0.getD (Int.toNat 0) ty9.dflt == ([116,114,97,110,115]:LB)) (cond (B.inb v1 v2.length) (ob (c24 (v2.getD v1.toNat ty9.dflt) 1) fun y1=>ob (c23 y1) fun y2=>cond (B.lim (List.length v8+List.length ((y2.1,y2.2.1,y2.2.2.1,y2.2.2.2.1,y2.2.2.2.2.1,y2.2.2.2.2.2.1,y2.2.2.2.2.2.2.1)::mt (Ty.den ty43))) 120) (cond (!y2.2.2.2.2.2.2.2) (k ((mt (Ty.den ty62),mt (Ty.den ty66),mt (Ty.den ty43),2,IntKind.wrap .i64 (v1+1)))) (cond (B.lt 3 v0) (k ((mt (Ty.den ty62),mt (Ty.den ty66),mt (Ty.den ty43),2,IntKind.wrap .i64 (v1+1)))) (again (.l0 3 (IntKind.wrap .i64 (v1+1)) v2 v6 v7 (v8++(y2.1,y2.2.1,y2.2.2.1,y2.2.2.2.1,y2.2.2.2.2.1,y2.2.2.2.2.2.1,y2.2.2.2.2.2.2.1)::mt (Ty.den ty43)))))) none) none) (k ((mt (Ty.den ty62),mt (Ty.den ty66),mt (Ty.den ty43),2,IntKind.wrap .i64 (v1+1))))))) none) (k ((mt (Ty.den ty62),mt (Ty.den ty66),mt (Ty.den ty43),2,IntKind.wrap .i64 (v1+1))))) none)) none) (ob (c25 v6 v7 v8) fun y0=>cond (!y0) (k ((mt (Ty.den ty62),mt (Ty.den ty66),mt (Ty.den ty43),2,0))) (k (v6,v7,v8,0,0)))
def E12 (p0:LB):S12→List AV×Objs
 | .l0 v0 v1 v2 v6 v7 v8=>(mk 110 [(2,.c (.ptr 2 0)),(5,.c (.ptr 5 0)),(6,.c (.int .i64 v0)),(7,.c (.own 7)),(8,.c (.int .i64 v1))],[(2,.box 27 [.own 3000,.own 3001,.own 3002]),(5,.box 27 [.own 6000,.own 6001,.own 6002]),(7,.row 9 ty9 v2),(3000,.row 62 ty62 (mt (Ty.den ty62))),(3001,.row 66 ty66 (mt (Ty.den ty66))),(3002,.row 43 ty43 (mt (Ty.den ty43))),(6000,.row 62 ty62 v6),(6001,.row 66 ty66 v7),(6002,.row 43 ty43 v8)])
def I12:S12→Nat
 | .l0 _ _ _ _ _ _=>0
abbrev K30 {R:Type} (k:AV→Objs→Option R) (y:(L62×L66×L43×Int×Int)):Option R:=k (.tup [(true,[.list 62 ty62 y.1,.list 66 ty66 y.2.1,.list 43 ty43 y.2.2.1]),(false,[.int .i64 y.2.2.2.1]),(false,[.int .i64 y.2.2.2.2])]) []
theorem eq12 {R:Type} (B:Ops) (c20:C20) (c21:C21) (c22:C22) (c24:C24) (c23:C23) (c25:C25) (p0:LB) (k:AV→Objs→Option R) (n:Nat):afun tau B gl0 X12 (ent 20 (e20 c20) (ent 21 (e21 c21) (ent 22 (e22 c22) (ent 24 (e24 c24) (ent 23 (e23 c23) (ent 25 (e25 c25) gnil)))))) ow Try.f12 [.c (.str p0)] [] k n=T12 B c20 c21 c22 c24 c23 c25 p0 (fun s=>aloop tau B gl0 X12 (ent 20 (e20 c20) (ent 21 (e21 c21) (ent 22 (e22 c22) (ent 24 (e24 c24) (ent 23 (e23 c23) (ent 25 (e25 c25) gnil)))))) ow [] Try.f12 k (I12 s) (E12 p0 s) n) (K30 k) none:=by kernel_rfl
theorem el12 {R:Type} (B:Ops) (c20:C20) (c21:C21) (c22:C22) (c24:C24) (c23:C23) (c25:C25) (p0:LB) (k:AV→Objs→Option R) (n:Nat):∀ s,aloop tau B gl0 X12 (ent 20 (e20 c20) (ent 21 (e21 c21) (ent 22 (e22 c22) (ent 24 (e24 c24) (ent 23 (e23 c23) (ent 25 (e25 c25) gnil)))))) ow [] Try.f12 k (I12 s) (E12 p0 s) (n+1)=T12 B c20 c21 c22 c24 c23 c25 p0 (fun s=>aloop tau B gl0 X12 (ent 20 (e20 c20) (ent 21 (e21 c21) (ent 22 (e22 c22) (ent 24 (e24 c24) (ent 23 (e23 c23) (ent 25 (e25 c25) gnil)))))) ow [] Try.f12 k (I12 s) (E12 p0 s) n) (K30 k) (some s):=by
 intro s
 cases s<;>kernel_rfl
theorem nt12 {R R':Type} (B:Ops) (c20:C20) (c21:C21) (c22:C22) (c24:C24) (c23:C23) (c25:C25) (p0:LB) (again:S12→Option R) (again':S12→Option R') (k0:(L62×L66×L43×Int×Int)→Option R') (k:R'→Option R) (h:∀ s,again s=ob (again' s) k):∀ s,T12 B c20 c21 c22 c24 c23 c25 p0 again (fun y=>ob (k0 y) k) s=ob (T12 B c20 c21 c22 c24 c23 c25 p0 again' k0 s) k:=by
 rintro (_ | x)
 all_goals try cases x
 all_goals (unfold T12;repeat' first | exact rfl | exact h _ | apply qab | (apply qae;intro))
def R12 (c20:C20) (c21:C21) (c22:C22) (c24:C24) (c23:C23) (c25:C25) (p0:LB):Nat→S12→Option (L62×L66×L43×Int×Int)
 | 0,_=>none
 | n+1,s=>T12 Ops.std c20 c21 c22 c24 c23 c25 p0 (R12 c20 c21 c22 c24 c23 c25 p0 n) some (some s)
theorem rr12 {R:Type} (c20:C20) (c21:C21) (c22:C22) (c24:C24) (c23:C23) (c25:C25) (p0:LB) (k:AV→Objs→Option R):∀ (n:Nat) (s:S12),aloop tau Ops.std gl0 X12 (ent 20 (e20 c20) (ent 21 (e21 c21) (ent 22 (e22 c22) (ent 24 (e24 c24) (ent 23 (e23 c23) (ent 25 (e25 c25) gnil)))))) ow [] Try.f12 k (I12 s) (E12 p0 s) n=ob (R12 c20 c21 c22 c24 c23 c25 p0 n s) (K30 k)
 | 0,s=>by cases s<;>rfl
 | n+1,s=>by rw [el12];exact nt12 Ops.std c20 c21 c22 c24 c23 c25 p0 _ _ some (K30 k) (rr12 c20 c21 c22 c24 c23 c25 p0 k n) (some s)
def F12 (c20:C20) (c21:C21) (c22:C22) (c24:C24) (c23:C23) (c25:C25) (p0:LB):Option (L62×L66×L43×Int×Int):=T12 Ops.std c20 c21 c22 c24 c23 c25 p0 (R12 c20 c21 c22 c24 c23 c25 p0 1000000) some none
abbrev C12:Type:=LB→Option (L62×L66×L43×Int×Int)
def e12 {R:Type} (c:C12):Ent R:=eG [.aC .cS] [] fun v k=>ob (c v.1) (K30 k)
abbrev Sp12 (c:C12):Prop:=∀ (p0:LB) (y:L62×L66×L43×Int×Int),c p0=some y→Spec Try.prog gl0 12 [.c (.str p0)] [] (.tup [(true,[.list 62 ty62 y.1,.list 66 ty66 y.2.1,.list 43 ty43 y.2.2.1]),(false,[.int .i64 y.2.2.2.1]),(false,[.int .i64 y.2.2.2.2])]) []
theorem ek12 {R:Type} {c:C12} (hs:Sp12 c):EOk 12 (e12 (R:=R) c):=qag fun v=>hs v.1
theorem sf12 {c20:C20} {c21:C21} {c22:C22} {c24:C24} {c23:C23} {c25:C25} (h20:Sp20 c20) (h21:Sp21 c21) (h22:Sp22 c22) (h24:Sp24 c24) (h23:Sp23 c23) (h25:Sp25 c25):Sp12 (F12 c20 c21 c22 c24 c23 c25):=fun p0 y hy=>by
 refine qad (qaa (ek20 h20) (qaa (ek21 h21) (qaa (ek22 h22) (qaa (ek24 h24) (qaa (ek23 h23) (qaa (ek25 h25) qac)))))) 1000000 (fn:=Try.f12) (by kernel_rfl) (by kernel_rfl) (X:=X12) (by kernel_rfl) ?_
 rw [eq12]
 exact (nt12 Ops.std c20 c21 c22 c24 c23 c25 p0 _ _ some (K30 k0) (rr12 c20 c21 c22 c24 c23 c25 p0 k0 1000000) none).trans (by show ob (F12 c20 c21 c22 c24 c23 c25 p0) _=_;rw [hy];rfl)
noncomputable def M12:C12:=F12 M20 M21 M22 M24 M23 M25
theorem sm12:Sp12 M12:=sf12 sm20 sm21 sm22 sm24 sm23 sm25
def X5:Aux:=⟨[],[]⟩
def T5 {R:Type} (B:Ops) (c12:C12) (p0:LB) (k:(L62×L66×L43)→Option R):Option R:=ob (c12 p0) fun y0=>k (y0.1,y0.2.1,y0.2.2.1)
abbrev K31 {R:Type} (k:AV→Objs→Option R) (y:(L62×L66×L43)):Option R:=k (.agg [.list 62 ty62 y.1,.list 66 ty66 y.2.1,.list 43 ty43 y.2.2]) []
theorem eq5 {R:Type} (B:Ops) (c12:C12) (p0:LB) (k:AV→Objs→Option R) (n:Nat):afun tau B gl0 X5 (ent 12 (e12 c12) gnil) ow Try.f5 [.c (.str p0)] [] k n=T5 B c12 p0 (K31 k):=by kernel_rfl
theorem nt5 {R R':Type} (B:Ops) (c12:C12) (p0:LB) (k0:(L62×L66×L43)→Option R') (k:R'→Option R):T5 B c12 p0 (fun y=>ob (k0 y) k)=ob (T5 B c12 p0 k0) k:=by
 unfold T5
 repeat' first | exact rfl | apply qab | (apply qae;intro)
def F5 (c12:C12) (p0:LB):Option (L62×L66×L43):=T5 Ops.std c12 p0 some
abbrev C5:Type:=LB→Option (L62×L66×L43)
def e5 {R:Type} (c:C5):Ent R:=eG [.aC .cS] [] fun v k=>ob (c v.1) (K31 k)
abbrev Sp5 (c:C5):Prop:=∀ (p0:LB) (y:L62×L66×L43),c p0=some y→Spec Try.prog gl0 5 [.c (.str p0)] [] (.agg [.list 62 ty62 y.1,.list 66 ty66 y.2.1,.list 43 ty43 y.2.2]) []
theorem ek5 {R:Type} {c:C5} (hs:Sp5 c):EOk 5 (e5 (R:=R) c):=qag fun v=>hs v.1
theorem sf5 {c12:C12} (h12:Sp12 c12):Sp5 (F5 c12):=fun p0 y hy=>by
 refine qad (qaa (ek12 h12) qac) 1000000 (fn:=Try.f5) (by kernel_rfl) (by kernel_rfl) (X:=X5) (by kernel_rfl) ?_
 rw [eq5]
 exact (nt5 Ops.std c12 p0 some (K31 k0)).trans (by show ob (F5 c12 p0) _=_;rw [hy];rfl)
noncomputable def M5:C5:=F5 M12
theorem sm5:Sp5 M5:=sf5 sm12
def X4:Aux:=⟨[],[]⟩
def T4 {R:Type} (B:Ops) (c5:C5) (c6:C6) (c9:C9) (k:(Bool)→Option R):Option R:=ob (c5 ([112,114,111,99,32,112,32,97,32,98,10,116,114,97,110,115,32,49,32,112,32,97,32,98,32,45,32,49,10]:LB)) fun y0=>ob (c6 y0.1 y0.2.1 y0.2.2 (1::mt (Ty.den (Ty.int .i64))) (mt (Ty.den (Ty.int .i64)))) fun y1=>ob (c6 y0.1 y0.2.1 y0.2.2 (0::mt (Ty.den (Ty.int .i64))) (mt (Ty.den (Ty.int .i64)))) fun y2=>cond (!y1.1) (cond (B.eq (Nat.cast (List.length y1.2)) 1) (cond (B.inb 0 (List.length y1.2)) (cond (B.eq (Nat.cast (List.length ((List.getD y1.2 (Int.toNat 0) ty36.dflt).1))) 0) (cond (B.inb 0 (List.length y1.2)) (cond (B.eq (Nat.cast (List.length (((List.getD y1.2 (Int.toNat 0) ty36.dflt).2).1))) 1) (cond (B.inb 0 (List.length y1.2)) (cond (B.inb 0 (List.length (((List.getD y1.2 (Int.toNat 0) ty36.dflt).2).1))) (cond (B.eq (List.getD (((List.getD y1.2 (Int.toNat 0) ty36.dflt).2).1) (Int.toNat 0) (Ty.dflt (Ty.int .i64))) 1) (cond (!y2.1) (cond (B.eq (Nat.cast (List.length y2.2)) 1) (cond (B.inb 0 (List.length y2.2)) (ob (c9 ((List.getD y2.2 (Int.toNat 0) ty36.dflt).1) (1::mt (Ty.den (Ty.int .i64)))) fun y3=>k y3) none) (k false)) (k false)) (k false)) none) none) (k false)) none) (k false)) none) (k false)) (k false)
theorem eq4 {R:Type} (B:Ops) (c5:C5) (c6:C6) (c9:C9) (k:AV→Objs→Option R) (n:Nat):afun tau B gl0 X4 (ent 5 (e5 c5) (ent 6 (e6 c6) (ent 9 (e9 c9) gnil))) ow Try.f4 [] [] k n=T4 B c5 c6 c9 (K2 k):=by kernel_rfl
theorem nt4 {R R':Type} (B:Ops) (c5:C5) (c6:C6) (c9:C9) (k0:(Bool)→Option R') (k:R'→Option R):T4 B c5 c6 c9 (fun y=>ob (k0 y) k)=ob (T4 B c5 c6 c9 k0) k:=by
 unfold T4
 repeat' first | exact rfl | apply qab | (apply qae;intro)
def F4 (c5:C5) (c6:C6) (c9:C9):Option (Bool):=T4 Ops.std c5 c6 c9 some
abbrev C4:Type:=Option (Bool)
def e4 {R:Type} (c:C4):Ent R:=eG [] [] fun _ k=>ob c (K2 k)
abbrev Sp4 (c:C4):Prop:=∀ (y:Bool),c=some y→Spec Try.prog gl0 4 [] [] (.c (.bool y)) []
theorem ek4 {R:Type} {c:C4} (hs:Sp4 c):EOk 4 (e4 (R:=R) c):=qag fun _=>hs
theorem sf4 {c5:C5} {c6:C6} {c9:C9} (h5:Sp5 c5) (h6:Sp6 c6) (h9:Sp9 c9):Sp4 (F4 c5 c6 c9):=fun y hy=>by
 refine qad (qaa (ek5 h5) (qaa (ek6 h6) (qaa (ek9 h9) qac))) 1000000 (fn:=Try.f4) (by kernel_rfl) (by kernel_rfl) (X:=X4) (by kernel_rfl) ?_
 rw [eq4]
 exact (nt4 Ops.std c5 c6 c9 some (K2 k0)).trans (by show ob (F4 c5 c6 c9) _=_;rw [hy];rfl)
noncomputable def M4:C4:=F4 M5 M6 M9
theorem sm4:Sp4 M4:=sf4 sm5 sm6 sm9
def X3:Aux:=⟨[],[]⟩
abbrev C3:Type:=Option (Bool)
def e3 {R:Type} (c:C3):Ent R:=eG [] [] fun _ k=>ob c (K2 k)
abbrev Sp3 (c:C3):Prop:=∀ (y:Bool),c=some y→Spec Try.prog gl0 3 [] [] (.c (.bool y)) []
def M3:Option (Bool):=some true
theorem sm3:Sp3 M3:=fun y hy=>by
 cases hy
 exact qad (G:=ent 4 (e4 M4) (ent 5 (e5 M5) (ent 6 (e6 M6) (ent 7 (e7 M7) (ent 8 (e8 M8) (ent 9 (e9 M9) (ent 10 (e10 M10) (ent 11 (e11 M11) (gnil))))))))) (qaa (ek4 sm4) (qaa (ek5 sm5) (qaa (ek6 sm6) (qaa (ek7 sm7) (qaa (ek8 sm8) (qaa (ek9 sm9) (qaa (ek10 sm10) (qaa (ek11 sm11) (qac))))))))) 1000000 (fn:=Try.f3) (by kernel_rfl) (by kernel_rfl) (X:=X3) (by kernel_rfl) (by kernel_rfl)
end Go.Proofs.Ytimcngbieedlcaa.Av
