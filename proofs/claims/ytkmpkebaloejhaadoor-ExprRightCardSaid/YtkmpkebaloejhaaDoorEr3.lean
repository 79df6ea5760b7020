/- Twins of functions,printed by gen.py. Conditions: none. -/
import Derived.Test.YtkmpkebaloejhaaDoorEr2
import Derived.KernelRfl
set_option linter.unusedSimpArgs false
set_option linter.unusedVariables false
set_option maxRecDepth 100000
set_option maxHeartbeats 8000000
namespace Go.Proofs.YtkmpkebaloejhaaDoor.Av
open Go
def X74:Aux:=⟨[(2,([0,3,4]++rg 6 16))],[]⟩
inductive S74 where
 | l0 (v1:Int)
def T74 {R:Type} (B:Ops) (p0:L108) (p1:L73) (p2:L193) (p3:LB) (again:S74→Option R) (k:(Int)→Option R):Option S74→Option R | none=>again (.l0 0) | some (.l0 v1)=>cond (B.lt v1 (↑p0.length)) (cond (B.inb v1 p0.length) (cond ((p0.getD v1.toNat ty108.dflt).1 == p3) (k v1) (again (.l0 (IntKind.wrap .i64 (v1+1))))) none) (k (-1))
def E74 (p0:L108) (p1:L73) (p2:L193) (p3:LB):S74→List AV×Objs
 | .l0 v1=>(mk 22 [(1,.c (.str p3)),(2,.c (.ptr 2 0)),(5,.c (.int .i64 v1))],[(2,.box 46 [.list 108 ty108 p0,.list 73 ty73 p1,.list 193 ty193 p2])])
def I74:S74→Nat
 | .l0 _=>0
noncomputable abbrev A74 {R:Type} (B:Ops) (p0:L108) (p1:L73) (p2:L193) (p3:LB) (k:AV→Objs→Option R) (s:S74) (n:Nat):Option R:=aloop tau B gl0 X74 gnil ow [] Tryd.f74 k (I74 s) (E74 p0 p1 p2 p3 s) n
theorem eq74 {R:Type} (B:Ops) (p0:L108) (p1:L73) (p2:L193) (p3:LB) (k:AV→Objs→Option R) (n:Nat):afun tau B gl0 X74 gnil ow Tryd.f74 [.agg [.list 108 ty108 p0,.list 73 ty73 p1,.list 193 ty193 p2],.c (.str p3)] [] k n=T74 B p0 p1 p2 p3 (fun s=>A74 B p0 p1 p2 p3 k s n) (K1 k) none:=by kernel_rfl
theorem el74 {R:Type} (B:Ops) (p0:L108) (p1:L73) (p2:L193) (p3:LB) (k:AV→Objs→Option R) (n:Nat):∀ s,A74 B p0 p1 p2 p3 k s (n+1)=T74 B p0 p1 p2 p3 (fun s=>A74 B p0 p1 p2 p3 k s n) (K1 k) (some s):=by
 intro s
 cases s<;>kernel_rfl
theorem nt74 {R R':Type} (B:Ops) (p0:L108) (p1:L73) (p2:L193) (p3:LB) (again:S74→Option R) (again':S74→Option R') (k0:(Int)→Option R') (k:R'→Option R) (h:∀ s,again s=ob (again' s) k):∀ s,T74 B p0 p1 p2 p3 again (fun y=>ob (k0 y) k) s=ob (T74 B p0 p1 p2 p3 again' k0 s) k:=by
 rintro (_ | x)
 all_goals try cases x
 all_goals (unfold T74;repeat' first | exact rfl | exact h _ | apply qab | (apply qah;intro))
def R74 (p0:L108) (p1:L73) (p2:L193) (p3:LB):Nat→S74→Option (Int)
 | 0,_=>none
 | n+1,s=>T74 Ops.std p0 p1 p2 p3 (R74 p0 p1 p2 p3 n) some (some s)
theorem rr74 {R:Type} (p0:L108) (p1:L73) (p2:L193) (p3:LB) (k:AV→Objs→Option R):∀ (n:Nat) (s:S74),A74 Ops.std p0 p1 p2 p3 k s n=ob (R74 p0 p1 p2 p3 n s) (K1 k)
 | 0,s=>by cases s<;>rfl
 | n+1,s=>by rw [el74];exact nt74 Ops.std p0 p1 p2 p3 _ _ some (K1 k) (rr74 p0 p1 p2 p3 k n) (some s)
def F74 (p0:L108) (p1:L73) (p2:L193) (p3:LB):Option (Int):=T74 Ops.std p0 p1 p2 p3 (R74 p0 p1 p2 p3 1000000) some none
abbrev C74:Type:=L108→L73→L193→LB→Option (Int)
def e74 {R:Type} (c:C74):Ent R:=eG [.aG [.cL 108 ty108,.cL 73 ty73,.cL 193 ty193],.aC .cS] [] fun v k=>ob (c v.1 v.2.1 v.2.2.1 v.2.2.2.1) (K1 k)
abbrev Sp74 (c:C74):Prop:=∀ (p0:L108) (p1:L73) (p2:L193) (p3:LB) (y:Int),c p0 p1 p2 p3=some y→Spec Tryd.prog gl0 74 [.agg [.list 108 ty108 p0,.list 73 ty73 p1,.list 193 ty193 p2],.c (.str p3)] [] (.c (.int .i64 y)) []
theorem ek74 {R:Type} {c:C74} (hs:Sp74 c):EOk 74 (e74 (R:=R) c):=qam fun v=>hs v.1 v.2.1 v.2.2.1 v.2.2.2.1
theorem sf74:Sp74 (F74):=fun p0 p1 p2 p3 y hy=>by
 refine qae qad 1000000 (fn:=Tryd.f74) (by kernel_rfl) (by kernel_rfl) (X:=X74) (by kernel_rfl) ?_
 rw [eq74]
 exact (nt74 Ops.std p0 p1 p2 p3 _ _ some (K1 k0) (rr74 p0 p1 p2 p3 k0 1000000) none).trans (by show ob (F74 p0 p1 p2 p3) _=_;rw [hy];rfl)
noncomputable def M74:C74:=F74
theorem sm74:Sp74 M74:=sf74
def X75:Aux:=⟨[(2,([0,3,4]++rg 6 16))],[]⟩
inductive S75 where
 | l0 (v1:Int)
def T75 {R:Type} (B:Ops) (p0:L108) (p1:L73) (p2:L193) (p3:LB) (again:S75→Option R) (k:(Int)→Option R):Option S75→Option R | none=>again (.l0 0) | some (.l0 v1)=>cond (B.lt v1 (↑p1.length)) (cond (B.inb v1 p1.length) (cond ((p1.getD v1.toNat ty73.dflt).1 == p3) (k v1) (again (.l0 (IntKind.wrap .i64 (v1+1))))) none) (k (-1))
def E75 (p0:L108) (p1:L73) (p2:L193) (p3:LB):S75→List AV×Objs
 | .l0 v1=>(mk 22 [(1,.c (.str p3)),(2,.c (.ptr 2 0)),(5,.c (.int .i64 v1))],[(2,.box 46 [.list 108 ty108 p0,.list 73 ty73 p1,.list 193 ty193 p2])])
def I75:S75→Nat
 | .l0 _=>0
noncomputable abbrev A75 {R:Type} (B:Ops) (p0:L108) (p1:L73) (p2:L193) (p3:LB) (k:AV→Objs→Option R) (s:S75) (n:Nat):Option R:=aloop tau B gl0 X75 gnil ow [] Tryd.f75 k (I75 s) (E75 p0 p1 p2 p3 s) n
theorem eq75 {R:Type} (B:Ops) (p0:L108) (p1:L73) (p2:L193) (p3:LB) (k:AV→Objs→Option R) (n:Nat):afun tau B gl0 X75 gnil ow Tryd.f75 [.agg [.list 108 ty108 p0,.list 73 ty73 p1,.list 193 ty193 p2],.c (.str p3)] [] k n=T75 B p0 p1 p2 p3 (fun s=>A75 B p0 p1 p2 p3 k s n) (K1 k) none:=by kernel_rfl
theorem el75 {R:Type} (B:Ops) (p0:L108) (p1:L73) (p2:L193) (p3:LB) (k:AV→Objs→Option R) (n:Nat):∀ s,A75 B p0 p1 p2 p3 k s (n+1)=T75 B p0 p1 p2 p3 (fun s=>A75 B p0 p1 p2 p3 k s n) (K1 k) (some s):=by
 intro s
 cases s<;>kernel_rfl
theorem nt75 {R R':Type} (B:Ops) (p0:L108) (p1:L73) (p2:L193) (p3:LB) (again:S75→Option R) (again':S75→Option R') (k0:(Int)→Option R') (k:R'→Option R) (h:∀ s,again s=ob (again' s) k):∀ s,T75 B p0 p1 p2 p3 again (fun y=>ob (k0 y) k) s=ob (T75 B p0 p1 p2 p3 again' k0 s) k:=by
 rintro (_ | x)
 all_goals try cases x
 all_goals (unfold T75;repeat' first | exact rfl | exact h _ | apply qab | (apply qah;intro))
def R75 (p0:L108) (p1:L73) (p2:L193) (p3:LB):Nat→S75→Option (Int)
 | 0,_=>none
 | n+1,s=>T75 Ops.std p0 p1 p2 p3 (R75 p0 p1 p2 p3 n) some (some s)
theorem rr75 {R:Type} (p0:L108) (p1:L73) (p2:L193) (p3:LB) (k:AV→Objs→Option R):∀ (n:Nat) (s:S75),A75 Ops.std p0 p1 p2 p3 k s n=ob (R75 p0 p1 p2 p3 n s) (K1 k)
 | 0,s=>by cases s<;>rfl
 | n+1,s=>by rw [el75];exact nt75 Ops.std p0 p1 p2 p3 _ _ some (K1 k) (rr75 p0 p1 p2 p3 k n) (some s)
def F75 (p0:L108) (p1:L73) (p2:L193) (p3:LB):Option (Int):=T75 Ops.std p0 p1 p2 p3 (R75 p0 p1 p2 p3 1000000) some none
abbrev C75:Type:=L108→L73→L193→LB→Option (Int)
def e75 {R:Type} (c:C75):Ent R:=eG [.aG [.cL 108 ty108,.cL 73 ty73,.cL 193 ty193],.aC .cS] [] fun v k=>ob (c v.1 v.2.1 v.2.2.1 v.2.2.2.1) (K1 k)
abbrev Sp75 (c:C75):Prop:=∀ (p0:L108) (p1:L73) (p2:L193) (p3:LB) (y:Int),c p0 p1 p2 p3=some y→Spec Tryd.prog gl0 75 [.agg [.list 108 ty108 p0,.list 73 ty73 p1,.list 193 ty193 p2],.c (.str p3)] [] (.c (.int .i64 y)) []
theorem ek75 {R:Type} {c:C75} (hs:Sp75 c):EOk 75 (e75 (R:=R) c):=qam fun v=>hs v.1 v.2.1 v.2.2.1 v.2.2.2.1
theorem sf75:Sp75 (F75):=fun p0 p1 p2 p3 y hy=>by
 refine qae qad 1000000 (fn:=Tryd.f75) (by kernel_rfl) (by kernel_rfl) (X:=X75) (by kernel_rfl) ?_
 rw [eq75]
 exact (nt75 Ops.std p0 p1 p2 p3 _ _ some (K1 k0) (rr75 p0 p1 p2 p3 k0 1000000) none).trans (by show ob (F75 p0 p1 p2 p3) _=_;rw [hy];rfl)
noncomputable def M75:C75:=F75
theorem sm75:Sp75 M75:=sf75
def X77:Aux:=⟨[(4,([0,4,5,6]++rg 8 25))],[]⟩
inductive S77 where
 | l0 (v2:Int)
def T77 {R:Type} (B:Ops) (p0:L108) (p1:L73) (p2:L193) (p3:Int) (p4:LB) (again:S77→Option R) (k:(Int)→Option R):Option S77→Option R | none=>cond (B.lt p3 0) (k (-1)) (again (.l0 0)) | some (.l0 v2)=>cond (B.inb p3 p1.length) (cond (B.lt v2 (Nat.cast (List.length (p1.getD p3.toNat ty73.dflt).2))) (cond (B.inb p3 p1.length) (cond (B.inb v2 (List.length (p1.getD p3.toNat ty73.dflt).2)) (cond (List.getD (p1.getD p3.toNat ty73.dflt).2 v2.toNat (Ty.dflt Ty.str) == p4) (k v2) (again (.l0 (IntKind.wrap .i64 (v2+1))))) none) none) (k (-1))) none
def E77 (p0:L108) (p1:L73) (p2:L193) (p3:Int) (p4:LB):S77→List AV×Objs
 | .l0 v2=>(mk 33 [(1,.c (.int .i64 p3)),(2,.c (.str p4)),(3,.c (.ptr 3 0)),(7,.c (.int .i64 v2))],[(3,.box 46 [.list 108 ty108 p0,.list 73 ty73 p1,.list 193 ty193 p2])])
def I77:S77→Nat
 | .l0 _=>0
noncomputable abbrev A77 {R:Type} (B:Ops) (p0:L108) (p1:L73) (p2:L193) (p3:Int) (p4:LB) (k:AV→Objs→Option R) (s:S77) (n:Nat):Option R:=aloop tau B gl0 X77 gnil ow [] Tryd.f77 k (I77 s) (E77 p0 p1 p2 p3 p4 s) n
theorem eq77 {R:Type} (B:Ops) (p0:L108) (p1:L73) (p2:L193) (p3:Int) (p4:LB) (k:AV→Objs→Option R) (n:Nat):afun tau B gl0 X77 gnil ow Tryd.f77 [.agg [.list 108 ty108 p0,.list 73 ty73 p1,.list 193 ty193 p2],.c (.int .i64 p3),.c (.str p4)] [] k n=T77 B p0 p1 p2 p3 p4 (fun s=>A77 B p0 p1 p2 p3 p4 k s n) (K1 k) none:=by kernel_rfl
theorem el77 {R:Type} (B:Ops) (p0:L108) (p1:L73) (p2:L193) (p3:Int) (p4:LB) (k:AV→Objs→Option R) (n:Nat):∀ s,A77 B p0 p1 p2 p3 p4 k s (n+1)=T77 B p0 p1 p2 p3 p4 (fun s=>A77 B p0 p1 p2 p3 p4 k s n) (K1 k) (some s):=by
 intro s
 cases s<;>kernel_rfl
theorem nt77 {R R':Type} (B:Ops) (p0:L108) (p1:L73) (p2:L193) (p3:Int) (p4:LB) (again:S77→Option R) (again':S77→Option R') (k0:(Int)→Option R') (k:R'→Option R) (h:∀ s,again s=ob (again' s) k):∀ s,T77 B p0 p1 p2 p3 p4 again (fun y=>ob (k0 y) k) s=ob (T77 B p0 p1 p2 p3 p4 again' k0 s) k:=by
 rintro (_ | x)
 all_goals try cases x
 all_goals (unfold T77;repeat' first | exact rfl | exact h _ | apply qab | (apply qah;intro))
def R77 (p0:L108) (p1:L73) (p2:L193) (p3:Int) (p4:LB):Nat→S77→Option (Int)
 | 0,_=>none
 | n+1,s=>T77 Ops.std p0 p1 p2 p3 p4 (R77 p0 p1 p2 p3 p4 n) some (some s)
theorem rr77 {R:Type} (p0:L108) (p1:L73) (p2:L193) (p3:Int) (p4:LB) (k:AV→Objs→Option R):∀ (n:Nat) (s:S77),A77 Ops.std p0 p1 p2 p3 p4 k s n=ob (R77 p0 p1 p2 p3 p4 n s) (K1 k)
 | 0,s=>by cases s<;>rfl
 | n+1,s=>by rw [el77];exact nt77 Ops.std p0 p1 p2 p3 p4 _ _ some (K1 k) (rr77 p0 p1 p2 p3 p4 k n) (some s)
def F77 (p0:L108) (p1:L73) (p2:L193) (p3:Int) (p4:LB):Option (Int):=T77 Ops.std p0 p1 p2 p3 p4 (R77 p0 p1 p2 p3 p4 1000000) some none
abbrev C77:Type:=L108→L73→L193→Int→LB→Option (Int)
def e77 {R:Type} (c:C77):Ent R:=eG [.aG [.cL 108 ty108,.cL 73 ty73,.cL 193 ty193],.aC (.cI .i64),.aC .cS] [] fun v k=>ob (c v.1 v.2.1 v.2.2.1 v.2.2.2.1 v.2.2.2.2.1) (K1 k)
abbrev Sp77 (c:C77):Prop:=∀ (p0:L108) (p1:L73) (p2:L193) (p3:Int) (p4:LB) (y:Int),c p0 p1 p2 p3 p4=some y→Spec Tryd.prog gl0 77 [.agg [.list 108 ty108 p0,.list 73 ty73 p1,.list 193 ty193 p2],.c (.int .i64 p3),.c (.str p4)] [] (.c (.int .i64 y)) []
theorem ek77 {R:Type} {c:C77} (hs:Sp77 c):EOk 77 (e77 (R:=R) c):=qam fun v=>hs v.1 v.2.1 v.2.2.1 v.2.2.2.1 v.2.2.2.2.1
theorem sf77:Sp77 (F77):=fun p0 p1 p2 p3 p4 y hy=>by
 refine qae qad 1000000 (fn:=Tryd.f77) (by kernel_rfl) (by kernel_rfl) (X:=X77) (by kernel_rfl) ?_
 rw [eq77]
 exact (nt77 Ops.std p0 p1 p2 p3 p4 _ _ some (K1 k0) (rr77 p0 p1 p2 p3 p4 k0 1000000) none).trans (by show ob (F77 p0 p1 p2 p3 p4) _=_;rw [hy];rfl)
noncomputable def M77:C77:=F77
theorem sm77:Sp77 M77:=sf77
def X37:Aux:=⟨[(2,([0,3,4]++rg 6 49))],[(4,.lin (rg 0 31++[32,33,34,35,36,31,37,38,39,40]))]⟩
inductive S37 where
 | l0 (v1:Int)
def T37 {R:Type} (B:Ops) (c74:C74) (c75:C75) (c77:C77) (c36:C36) (p0:L108) (p1:L73) (p2:L193) (p3:L56) (again:S37→Option R) (k:(Bool)→Option R):Option S37→Option R | none=>again (.l0 0) | some (.l0 v1)=>cond (B.lt v1 (↑p3.length)) (cond (B.inb v1 p3.length) (cond (B.eq (p3.getD v1.toNat ty56.dflt).1 2) (cond (B.inb v1 p3.length) (ob (c74 p0 p1 p2 (((p3.getD v1.toNat ty56.dflt).2).2).1) fun y0=>cond (B.lt y0 0) (k false) (cond (B.inb v1 p3.length) (cond (B.eq (p3.getD v1.toNat ty56.dflt).1 3) (cond (B.inb v1 p3.length) (cond (B.inb v1 p3.length) (ob (c75 p0 p1 p2 (((p3.getD v1.toNat ty56.dflt).2).2).1) fun y1=>ob (c77 p0 p1 p2 y1 (((p3.getD v1.toNat ty56.dflt).2).2).2) fun y2=>cond (B.lt y2 0) (k false) (again (.l0 (IntKind.wrap .i64 (v1+1))))) none) none) (again (.l0 (IntKind.wrap .i64 (v1+1))))) none)) none) (cond (B.inb v1 p3.length) (cond (B.eq (p3.getD v1.toNat ty56.dflt).1 3) (cond (B.inb v1 p3.length) (cond (B.inb v1 p3.length) (ob (c75 p0 p1 p2 (((p3.getD v1.toNat ty56.dflt).2).2).1) fun y0=>ob (c77 p0 p1 p2 y0 (((p3.getD v1.toNat ty56.dflt).2).2).2) fun y1=>cond (B.lt y1 0) (k false) (again (.l0 (IntKind.wrap .i64 (v1+1))))) none) none) (again (.l0 (IntKind.wrap .i64 (v1+1))))) none)) none) (ob (c36 p3) fun y0=>k y0)
def E37 (p0:L108) (p1:L73) (p2:L193) (p3:L56):S37→List AV×Objs
 | .l0 v1=>(mk 55 [(1,.c (.list 56 ty56 p3)),(2,.c (.ptr 2 0)),(5,.c (.int .i64 v1))],[(2,.box 46 [.list 108 ty108 p0,.list 73 ty73 p1,.list 193 ty193 p2])])
def I37:S37→Nat
 | .l0 _=>0
noncomputable abbrev A37 {R:Type} (B:Ops) (c74:C74) (c75:C75) (c77:C77) (c36:C36) (p0:L108) (p1:L73) (p2:L193) (p3:L56) (k:AV→Objs→Option R) (s:S37) (n:Nat):Option R:=aloop tau B gl0 X37 (ent 74 (e74 c74) (ent 75 (e75 c75) (ent 77 (e77 c77) (ent 36 (e36 c36) gnil)))) ow [] Tryd.f37 k (I37 s) (E37 p0 p1 p2 p3 s) n
theorem eq37 {R:Type} (B:Ops) (c74:C74) (c75:C75) (c77:C77) (c36:C36) (p0:L108) (p1:L73) (p2:L193) (p3:L56) (k:AV→Objs→Option R) (n:Nat):afun tau B gl0 X37 (ent 74 (e74 c74) (ent 75 (e75 c75) (ent 77 (e77 c77) (ent 36 (e36 c36) gnil)))) ow Tryd.f37 [.agg [.list 108 ty108 p0,.list 73 ty73 p1,.list 193 ty193 p2],.c (.list 56 ty56 p3)] [] k n=T37 B c74 c75 c77 c36 p0 p1 p2 p3 (fun s=>A37 B c74 c75 c77 c36 p0 p1 p2 p3 k s n) (K2 k) none:=by kernel_rfl
theorem el37 {R:Type} (B:Ops) (c74:C74) (c75:C75) (c77:C77) (c36:C36) (p0:L108) (p1:L73) (p2:L193) (p3:L56) (k:AV→Objs→Option R) (n:Nat):∀ s,A37 B c74 c75 c77 c36 p0 p1 p2 p3 k s (n+1)=T37 B c74 c75 c77 c36 p0 p1 p2 p3 (fun s=>A37 B c74 c75 c77 c36 p0 p1 p2 p3 k s n) (K2 k) (some s):=by
 intro s
 cases s<;>kernel_rfl
theorem nt37 {R R':Type} (B:Ops) (c74:C74) (c75:C75) (c77:C77) (c36:C36) (p0:L108) (p1:L73) (p2:L193) (p3:L56) (again:S37→Option R) (again':S37→Option R') (k0:(Bool)→Option R') (k:R'→Option R) (h:∀ s,again s=ob (again' s) k):∀ s,T37 B c74 c75 c77 c36 p0 p1 p2 p3 again (fun y=>ob (k0 y) k) s=ob (T37 B c74 c75 c77 c36 p0 p1 p2 p3 again' k0 s) k:=by
 rintro (_ | x)
 all_goals try cases x
 all_goals (unfold T37;repeat' first | exact rfl | exact h _ | apply qab | (apply qah;intro))
def R37 (c74:C74) (c75:C75) (c77:C77) (c36:C36) (p0:L108) (p1:L73) (p2:L193) (p3:L56):Nat→S37→Option (Bool)
 | 0,_=>none
 | n+1,s=>T37 Ops.std c74 c75 c77 c36 p0 p1 p2 p3 (R37 c74 c75 c77 c36 p0 p1 p2 p3 n) some (some s)
theorem rr37 {R:Type} (c74:C74) (c75:C75) (c77:C77) (c36:C36) (p0:L108) (p1:L73) (p2:L193) (p3:L56) (k:AV→Objs→Option R):∀ (n:Nat) (s:S37),A37 Ops.std c74 c75 c77 c36 p0 p1 p2 p3 k s n=ob (R37 c74 c75 c77 c36 p0 p1 p2 p3 n s) (K2 k)
 | 0,s=>by cases s<;>rfl
 | n+1,s=>by rw [el37];exact nt37 Ops.std c74 c75 c77 c36 p0 p1 p2 p3 _ _ some (K2 k) (rr37 c74 c75 c77 c36 p0 p1 p2 p3 k n) (some s)
def F37 (c74:C74) (c75:C75) (c77:C77) (c36:C36) (p0:L108) (p1:L73) (p2:L193) (p3:L56):Option (Bool):=T37 Ops.std c74 c75 c77 c36 p0 p1 p2 p3 (R37 c74 c75 c77 c36 p0 p1 p2 p3 1000000) some none
abbrev C37:Type:=L108→L73→L193→L56→Option (Bool)
def e37 {R:Type} (c:C37):Ent R:=eG [.aG [.cL 108 ty108,.cL 73 ty73,.cL 193 ty193],.aC (.cL 56 ty56)] [] fun v k=>ob (c v.1 v.2.1 v.2.2.1 v.2.2.2.1) (K2 k)
abbrev Sp37 (c:C37):Prop:=∀ (p0:L108) (p1:L73) (p2:L193) (p3:L56) (y:Bool),c p0 p1 p2 p3=some y→Spec Tryd.prog gl0 37 [.agg [.list 108 ty108 p0,.list 73 ty73 p1,.list 193 ty193 p2],.c (.list 56 ty56 p3)] [] (.c (.bool y)) []
theorem ek37 {R:Type} {c:C37} (hs:Sp37 c):EOk 37 (e37 (R:=R) c):=qam fun v=>hs v.1 v.2.1 v.2.2.1 v.2.2.2.1
theorem sf37 {c74:C74} {c75:C75} {c77:C77} {c36:C36} (h74:Sp74 c74) (h75:Sp75 c75) (h77:Sp77 c77) (h36:Sp36 c36):Sp37 (F37 c74 c75 c77 c36):=fun p0 p1 p2 p3 y hy=>by
 refine qae (qac (ek74 h74) (qac (ek75 h75) (qac (ek77 h77) (qac (ek36 h36) qad)))) 1000000 (fn:=Tryd.f37) (by kernel_rfl) (by kernel_rfl) (X:=X37) (by kernel_rfl) ?_
 rw [eq37]
 exact (nt37 Ops.std c74 c75 c77 c36 p0 p1 p2 p3 _ _ some (K2 k0) (rr37 c74 c75 c77 c36 p0 p1 p2 p3 k0 1000000) none).trans (by show ob (F37 c74 c75 c77 c36 p0 p1 p2 p3) _=_;rw [hy];rfl)
noncomputable def M37:C37:=F37 M74 M75 M77 M36
theorem sm37:Sp37 M37:=sf37 sm74 sm75 sm77 sm36
def X73:Aux:=⟨[],[]⟩
def T73 {R:Type} (B:Ops) (p0:Int) (k:(Int)→Option R):Option R:=k (bif true then bif B.lt (-99999) (bif false then bif B.lt 99999 p0 then p0 else 99999 else bif B.lt p0 99999 then p0 else 99999) then bif false then bif B.lt 99999 p0 then p0 else 99999 else bif B.lt p0 99999 then p0 else 99999 else -99999 else bif B.lt (bif false then bif B.lt 99999 p0 then p0 else 99999 else bif B.lt p0 99999 then p0 else 99999) (-99999) then bif false then bif B.lt 99999 p0 then p0 else 99999 else bif B.lt p0 99999 then p0 else 99999 else -99999)
theorem eq73 {R:Type} (B:Ops) (p0:Int) (k:AV→Objs→Option R) (n:Nat):afun tau B gl0 X73 gnil ow Tryd.f73 [.c (.int .i64 p0)] [] k n=T73 B p0 (K1 k):=by kernel_rfl
theorem nt73 {R R':Type} (B:Ops) (p0:Int) (k0:(Int)→Option R') (k:R'→Option R):T73 B p0 (fun y=>ob (k0 y) k)=ob (T73 B p0 k0) k:=by
 unfold T73
 repeat' first | exact rfl | apply qab | (apply qah;intro)
def F73 (p0:Int):Option (Int):=T73 Ops.std p0 some
abbrev C73:Type:=Int→Option (Int)
def e73 {R:Type} (c:C73):Ent R:=eG [.aC (.cI .i64)] [] fun v k=>ob (c v.1) (K1 k)
abbrev Sp73 (c:C73):Prop:=∀ (p0 y:Int),c p0=some y→Spec Tryd.prog gl0 73 [.c (.int .i64 p0)] [] (.c (.int .i64 y)) []
theorem ek73 {R:Type} {c:C73} (hs:Sp73 c):EOk 73 (e73 (R:=R) c):=qam fun v=>hs v.1
theorem sf73:Sp73 (F73):=fun p0 y hy=>by
 refine qae qad 1000000 (fn:=Tryd.f73) (by kernel_rfl) (by kernel_rfl) (X:=X73) (by kernel_rfl) ?_
 rw [eq73]
 exact (nt73 Ops.std p0 some (K1 k0)).trans (by show ob (F73 p0) _=_;rw [hy];rfl)
noncomputable def M73:C73:=F73
theorem sm73:Sp73 M73:=sf73
def X76:Aux:=⟨[],[]⟩
def T76 {R:Type} (B:Ops) (p0:Bool) (k:(Int)→Option R):Option R:=cond (p0) (k 1) (k 0)
theorem eq76 {R:Type} (B:Ops) (p0:Bool) (k:AV→Objs→Option R) (n:Nat):afun tau B gl0 X76 gnil ow Tryd.f76 [.c (.bool p0)] [] k n=T76 B p0 (K1 k):=by kernel_rfl
theorem nt76 {R R':Type} (B:Ops) (p0:Bool) (k0:(Int)→Option R') (k:R'→Option R):T76 B p0 (fun y=>ob (k0 y) k)=ob (T76 B p0 k0) k:=by
 unfold T76
 repeat' first | exact rfl | apply qab | (apply qah;intro)
def F76 (p0:Bool):Option (Int):=T76 Ops.std p0 some
abbrev C76:Type:=Bool→Option (Int)
def e76 {R:Type} (c:C76):Ent R:=eG [.aC .cB] [] fun v k=>ob (c v.1) (K1 k)
abbrev Sp76 (c:C76):Prop:=∀ (p0:Bool) (y:Int),c p0=some y→Spec Tryd.prog gl0 76 [.c (.bool p0)] [] (.c (.int .i64 y)) []
theorem ek76 {R:Type} {c:C76} (hs:Sp76 c):EOk 76 (e76 (R:=R) c):=qam fun v=>hs v.1
theorem sf76:Sp76 (F76):=fun p0 y hy=>by
 refine qae qad 1000000 (fn:=Tryd.f76) (by kernel_rfl) (by kernel_rfl) (X:=X76) (by kernel_rfl) ?_
 rw [eq76]
 exact (nt76 Ops.std p0 some (K1 k0)).trans (by show ob (F76 p0) _=_;rw [hy];rfl)
noncomputable def M76:C76:=F76
theorem sm76:Sp76 M76:=sf76
def X78:Aux:=⟨[],[]⟩
def T78 {R:Type} (B:Ops) (c73:C73) (c76:C76) (p0 p1 p2:Int) (k:(Int)→Option R):Option R:=cond (B.eq p0 6) (ob (c73 (IntKind.wrap .i64 (p1*p2))) fun y0=>k y0) (cond (B.eq p0 7) (ob (c73 (IntKind.wrap .i64 (p1+p2))) fun y0=>k y0) (cond (B.eq p0 8) (ob (c73 (IntKind.wrap .i64 (p1-p2))) fun y0=>k y0) (cond (B.eq p0 9) (ob (c76 (B.lt p1 p2)) fun y0=>k y0) (cond (B.eq p0 10) (ob (c76 (B.le p1 p2)) fun y0=>k y0) (cond (B.eq p0 11) (ob (c76 (B.lt p2 p1)) fun y0=>k y0) (cond (B.eq p0 12) (ob (c76 (B.le p2 p1)) fun y0=>k y0) (cond (B.eq p0 13) (ob (c76 (B.eq p1 p2)) fun y0=>k y0) (cond (B.eq p0 14) (ob (c76 !B.eq p1 p2) fun y0=>k y0) (cond (B.eq p0 15) (cond (!B.eq p1 0) (ob (c76 !B.eq p2 0) fun y0=>k y0) (ob (c76 false) fun y0=>k y0)) (cond (!B.eq p1 0) (ob (c76 true) fun y0=>k y0) (ob (c76 !B.eq p2 0) fun y0=>k y0)))))))))))
theorem eq78 {R:Type} (B:Ops) (c73:C73) (c76:C76) (p0 p1 p2:Int) (k:AV→Objs→Option R) (n:Nat):afun tau B gl0 X78 (ent 73 (e73 c73) (ent 76 (e76 c76) gnil)) ow Tryd.f78 [.c (.int .i64 p0),.c (.int .i64 p1),.c (.int .i64 p2)] [] k n=T78 B c73 c76 p0 p1 p2 (K1 k):=by kernel_rfl
theorem nt78 {R R':Type} (B:Ops) (c73:C73) (c76:C76) (p0 p1 p2:Int) (k0:(Int)→Option R') (k:R'→Option R):T78 B c73 c76 p0 p1 p2 (fun y=>ob (k0 y) k)=ob (T78 B c73 c76 p0 p1 p2 k0) k:=by
 unfold T78
 repeat' first | exact rfl | apply qab | (apply qah;intro)
def F78 (c73:C73) (c76:C76) (p0 p1 p2:Int):Option (Int):=T78 Ops.std c73 c76 p0 p1 p2 some
abbrev C78:Type:=Int→Int→Int→Option (Int)
def e78 {R:Type} (c:C78):Ent R:=eG [.aC (.cI .i64),.aC (.cI .i64),.aC (.cI .i64)] [] fun v k=>ob (c v.1 v.2.1 v.2.2.1) (K1 k)
abbrev Sp78 (c:C78):Prop:=∀ (p0 p1 p2 y:Int),c p0 p1 p2=some y→Spec Tryd.prog gl0 78 [.c (.int .i64 p0),.c (.int .i64 p1),.c (.int .i64 p2)] [] (.c (.int .i64 y)) []
theorem ek78 {R:Type} {c:C78} (hs:Sp78 c):EOk 78 (e78 (R:=R) c):=qam fun v=>hs v.1 v.2.1 v.2.2.1
theorem sf78 {c73:C73} {c76:C76} (h73:Sp73 c73) (h76:Sp76 c76):Sp78 (F78 c73 c76):=fun p0 p1 p2 y hy=>by
 refine qae (qac (ek73 h73) (qac (ek76 h76) qad)) 1000000 (fn:=Tryd.f78) (by kernel_rfl) (by kernel_rfl) (X:=X78) (by kernel_rfl) ?_
 rw [eq78]
 exact (nt78 Ops.std c73 c76 p0 p1 p2 some (K1 k0)).trans (by show ob (F78 c73 c76 p0 p1 p2) _=_;rw [hy];rfl)
noncomputable def M78:C78:=F78 M73 M76
theorem sm78:Sp78 M78:=sf78 sm73 sm76
def X34:Aux:=⟨[(5,([0,1,5,6]++rg 9 148))],[(16,.lin (rg 0 13)),(19,.lin (rg 0 16)),(23,.lin (rg 0 16)),(27,.lin (rg 0 16)),(12,.lin (rg 0 22))]⟩
inductive S34 where
 | l0 (v1:Int) (v7:L3)
def T34 {R:Type} (B:Ops) (c37:C37) (c74:C74) (c73:C73) (c75:C75) (c77:C77) (c76:C76) (c78:C78) (p0:L108) (p1:L73) (p2:L193) (p3 p4:L3) (p5:L56) (again:S34→Option R) (k:(Int)→Option R):Option S34→Option R | none=>ob (c37 p0 p1 p2 p5) fun y0=>cond (!y0) (k 0) (cond (!B.eq (↑p3.length) (↑p1.length)) (k 0) (cond (!B.eq (↑p4.length) (↑p0.length)) (k 0) (again (.l0 0 (mt (Ty.den (Ty.int .i64))))))) | some (.l0 v1 v7)=>cond (B.lt v1 (↑p5.length)) (cond (B.inb v1 p5.length) (cond (B.eq (p5.getD v1.toNat ty56.dflt).1 1) (cond (B.lim (List.length v7+List.length (((p5.getD v1.toNat ty56.dflt).2).1::mt (Ty.den (Ty.int .i64)))) 8) (again (.l0 (IntKind.wrap .i64 (v1+1)) (v7++((p5.getD v1.toNat ty56.dflt).2).1::mt (Ty.den (Ty.int .i64))))) none) (cond (B.eq (p5.getD v1.toNat ty56.dflt).1 2) (ob (c74 p0 p1 p2 (((p5.getD v1.toNat ty56.dflt).2).2).1) fun y0=>cond (B.inb y0 p4.length) (ob (c73 (p4.getD y0.toNat ty3.dflt)) fun y1=>cond (B.lim (List.length v7+List.length (y1::mt (Ty.den (Ty.int .i64)))) 8) (again (.l0 (IntKind.wrap .i64 (v1+1)) (v7++y1::mt (Ty.den (Ty.int .i64))))) none) none) (cond (B.eq (p5.getD v1.toNat ty56.dflt).1 3) (ob (c75 p0 p1 p2 (((p5.getD v1.toNat ty56.dflt).2).2).1) fun y0=>cond (B.inb y0 p3.length) (ob (c77 p0 p1 p2 y0 (((p5.getD v1.toNat ty56.dflt).2).2).2) fun y1=>ob (c76 (B.eq (p3.getD y0.toNat ty3.dflt) y1)) fun y2=>cond (B.lim (List.length v7+List.length (y2::mt (Ty.den (Ty.int .i64)))) 8) (again (.l0 (IntKind.wrap .i64 (v1+1)) (v7++y2::mt (Ty.den (Ty.int .i64))))) none) none) (cond (B.eq (p5.getD v1.toNat ty56.dflt).1 4) (cond (B.lt (↑v7.length) 1) (k 0) (cond (B.eq (IntKind.wrap .i64 (Nat.cast v7.length-1)) (IntKind.wrap .i64 (Nat.cast v7.length-1))) (cond (B.inb (IntKind.wrap .i64 (Nat.cast v7.length-1)) (List.length v7+1)) (cond (B.inb (IntKind.wrap .i64 (Nat.cast v7.length-1)) v7.length) (ob (c76 (B.eq (v7.getD (Int.toNat (IntKind.wrap .i64 (Nat.cast v7.length-1))) ty3.dflt) 0)) fun y0=>cond (B.lt 0 (Nat.cast (List.length (y0::mt (Ty.den (Ty.int .i64)))))) (cond (B.lim (List.length (List.take (Int.toNat (IntKind.wrap .i64 (Nat.cast v7.length-1))) v7)+List.length (y0::mt (Ty.den (Ty.int .i64)))) 8) (again (.l0 (IntKind.wrap .i64 (v1+1)) (List.take (Int.toNat (IntKind.wrap .i64 (Nat.cast v7.length-1))) v7++y0::mt (Ty.den (Ty.int .i64))))) none) none) none) none) none)) (cond (B.eq (p5.getD v1.toNat ty56.dflt).1 5) (cond (B.lt (↑v7.length) 1) (k 0) (cond (B.eq (IntKind.wrap .i64 (Nat.cast v7.length-1)) (IntKind.wrap .i64 (Nat.cast v7.length-1))) (cond (B.inb (IntKind.wrap .i64 (Nat.cast v7.length-1)) (List.length v7+1)) (cond (B.inb (IntKind.wrap .i64 (Nat.cast v7.length-1)) v7.length) (ob (c73 (IntKind.wrap .i64 (0-v7.getD (Int.toNat (IntKind.wrap .i64 (Nat.cast v7.length-1))) ty3.dflt))) fun y0=>cond (B.lt 0 (Nat.cast (List.length (y0::mt (Ty.den (Ty.int .i64)))))) (cond (B.lim (List.length (List.take (Int.toNat (IntKind.wrap .i64 (Nat.cast v7.length-1))) v7)+List.length (y0::mt (Ty.den (Ty.int .i64)))) 8) (again (.l0 (IntKind.wrap .i64 (v1+1)) (List.take (Int.toNat (IntKind.wrap .i64 (Nat.cast v7.length-1))) v7++y0::mt (Ty.den (Ty.int .i64))))) none) none) none) none) none)) (cond (B.lt (↑v7.length) 2) (k 0) (cond (B.eq (IntKind.wrap .i64 (Nat.cast v7.length-2)) (IntKind.wrap .i64 (Nat.cast v7.length-2))) (cond (B.inb (IntKind.wrap .i64 (Nat.cast v7.length-2)) (List.length v7+1)) (cond (B.inb (IntKind.wrap .i64 (Nat.cast v7.length-2)) v7.length) (cond (B.inb (IntKind.wrap .i64 (Nat.cast v7.length-1)) v7.length) (ob (c78 (p5.getD v1.toNat ty56.dflt).1 (v7.getD (Int.toNat (IntKind.wrap .i64 (Nat.cast v7.length-2))) ty3.dflt) (v7.getD (Int.toNat (IntKind.wrap .i64 (Nat.cast v7.length-1))) ty3.dflt)) fun y0=>cond (B.lt 0 (Nat.cast (List.length (y0::mt (Ty.den (Ty.int .i64)))))) (cond (B.lim (List.length (List.take (Int.toNat (IntKind.wrap .i64 (Nat.cast v7.length-2))) v7)+List.length (y0::mt (Ty.den (Ty.int .i64)))) 8) (again (.l0 (IntKind.wrap .i64 (v1+1)) (List.take (Int.toNat (IntKind.wrap .i64 (Nat.cast v7.length-2))) v7++y0::mt (Ty.den (Ty.int .i64))))) none) none) none) none) none) none))))))) none) (cond (B.eq (↑v7.length) 0) (k 0) (cond (B.inb 0 v7.length) (k (v7.getD (Int.toNat 0) ty3.dflt)) none))
def E34 (p0:L108) (p1:L73) (p2:L193) (p3 p4:L3) (p5:L56):S34→List AV×Objs
 | .l0 v1 v7=>(mk 157 [(2,.c (.list 56 ty56 p5)),(3,.c (.ptr 3 0)),(4,.c (.ptr 4 0)),(7,.c (.own 7)),(8,.c (.int .i64 v1))],[(3,.box 46 [.list 108 ty108 p0,.list 73 ty73 p1,.list 193 ty193 p2]),(4,.box 48 [.list 3 ty3 p3,.list 3 ty3 p4]),(7,.row 3 ty3 v7)])
def I34:S34→Nat
 | .l0 _ _=>0
noncomputable abbrev A34 {R:Type} (B:Ops) (c37:C37) (c74:C74) (c73:C73) (c75:C75) (c77:C77) (c76:C76) (c78:C78) (p0:L108) (p1:L73) (p2:L193) (p3 p4:L3) (p5:L56) (k:AV→Objs→Option R) (s:S34) (n:Nat):Option R:=aloop tau B gl0 X34 (ent 37 (e37 c37) (ent 74 (e74 c74) (ent 73 (e73 c73) (ent 75 (e75 c75) (ent 77 (e77 c77) (ent 76 (e76 c76) (ent 78 (e78 c78) gnil))))))) ow [] Tryd.f34 k (I34 s) (E34 p0 p1 p2 p3 p4 p5 s) n
theorem eq34 {R:Type} (B:Ops) (c37:C37) (c74:C74) (c73:C73) (c75:C75) (c77:C77) (c76:C76) (c78:C78) (p0:L108) (p1:L73) (p2:L193) (p3 p4:L3) (p5:L56) (k:AV→Objs→Option R) (n:Nat):afun tau B gl0 X34 (ent 37 (e37 c37) (ent 74 (e74 c74) (ent 73 (e73 c73) (ent 75 (e75 c75) (ent 77 (e77 c77) (ent 76 (e76 c76) (ent 78 (e78 c78) gnil))))))) ow Tryd.f34 [.agg [.list 108 ty108 p0,.list 73 ty73 p1,.list 193 ty193 p2],.agg [.list 3 ty3 p3,.list 3 ty3 p4],.c (.list 56 ty56 p5)] [] k n=T34 B c37 c74 c73 c75 c77 c76 c78 p0 p1 p2 p3 p4 p5 (fun s=>A34 B c37 c74 c73 c75 c77 c76 c78 p0 p1 p2 p3 p4 p5 k s n) (K1 k) none:=by kernel_rfl
theorem el34 {R:Type} (B:Ops) (c37:C37) (c74:C74) (c73:C73) (c75:C75) (c77:C77) (c76:C76) (c78:C78) (p0:L108) (p1:L73) (p2:L193) (p3 p4:L3) (p5:L56) (k:AV→Objs→Option R) (n:Nat):∀ s,A34 B c37 c74 c73 c75 c77 c76 c78 p0 p1 p2 p3 p4 p5 k s (n+1)=T34 B c37 c74 c73 c75 c77 c76 c78 p0 p1 p2 p3 p4 p5 (fun s=>A34 B c37 c74 c73 c75 c77 c76 c78 p0 p1 p2 p3 p4 p5 k s n) (K1 k) (some s):=by
 intro s
 cases s<;>kernel_rfl
theorem nt34 {R R':Type} (B:Ops) (c37:C37) (c74:C74) (c73:C73) (c75:C75) (c77:C77) (c76:C76) (c78:C78) (p0:L108) (p1:L73) (p2:L193) (p3 p4:L3) (p5:L56) (again:S34→Option R) (again':S34→Option R') (k0:(Int)→Option R') (k:R'→Option R) (h:∀ s,again s=ob (again' s) k):∀ s,T34 B c37 c74 c73 c75 c77 c76 c78 p0 p1 p2 p3 p4 p5 again (fun y=>ob (k0 y) k) s=ob (T34 B c37 c74 c73 c75 c77 c76 c78 p0 p1 p2 p3 p4 p5 again' k0 s) k:=by
 rintro (_ | x)
 all_goals try cases x
 all_goals (unfold T34;repeat' first | exact rfl | exact h _ | apply qab | (apply qah;intro))
def R34 (c37:C37) (c74:C74) (c73:C73) (c75:C75) (c77:C77) (c76:C76) (c78:C78) (p0:L108) (p1:L73) (p2:L193) (p3 p4:L3) (p5:L56):Nat→S34→Option (Int)
 | 0,_=>none
 | n+1,s=>T34 Ops.std c37 c74 c73 c75 c77 c76 c78 p0 p1 p2 p3 p4 p5 (R34 c37 c74 c73 c75 c77 c76 c78 p0 p1 p2 p3 p4 p5 n) some (some s)
theorem rr34 {R:Type} (c37:C37) (c74:C74) (c73:C73) (c75:C75) (c77:C77) (c76:C76) (c78:C78) (p0:L108) (p1:L73) (p2:L193) (p3 p4:L3) (p5:L56) (k:AV→Objs→Option R):∀ (n:Nat) (s:S34),A34 Ops.std c37 c74 c73 c75 c77 c76 c78 p0 p1 p2 p3 p4 p5 k s n=ob (R34 c37 c74 c73 c75 c77 c76 c78 p0 p1 p2 p3 p4 p5 n s) (K1 k)
 | 0,s=>by cases s<;>rfl
 | n+1,s=>by rw [el34];exact nt34 Ops.std c37 c74 c73 c75 c77 c76 c78 p0 p1 p2 p3 p4 p5 _ _ some (K1 k) (rr34 c37 c74 c73 c75 c77 c76 c78 p0 p1 p2 p3 p4 p5 k n) (some s)
def F34 (c37:C37) (c74:C74) (c73:C73) (c75:C75) (c77:C77) (c76:C76) (c78:C78) (p0:L108) (p1:L73) (p2:L193) (p3 p4:L3) (p5:L56):Option (Int):=T34 Ops.std c37 c74 c73 c75 c77 c76 c78 p0 p1 p2 p3 p4 p5 (R34 c37 c74 c73 c75 c77 c76 c78 p0 p1 p2 p3 p4 p5 1000000) some none
abbrev C34:Type:=L108→L73→L193→L3→L3→L56→Option (Int)
def e34 {R:Type} (c:C34):Ent R:=eG [.aG [.cL 108 ty108,.cL 73 ty73,.cL 193 ty193],.aG [.cL 3 ty3,.cL 3 ty3],.aC (.cL 56 ty56)] [] fun v k=>ob (c v.1 v.2.1 v.2.2.1 v.2.2.2.1 v.2.2.2.2.1 v.2.2.2.2.2.1) (K1 k)
abbrev Sp34 (c:C34):Prop:=∀ (p0:L108) (p1:L73) (p2:L193) (p3 p4:L3) (p5:L56) (y:Int),c p0 p1 p2 p3 p4 p5=some y→Spec Tryd.prog gl0 34 [.agg [.list 108 ty108 p0,.list 73 ty73 p1,.list 193 ty193 p2],.agg [.list 3 ty3 p3,.list 3 ty3 p4],.c (.list 56 ty56 p5)] [] (.c (.int .i64 y)) []
theorem ek34 {R:Type} {c:C34} (hs:Sp34 c):EOk 34 (e34 (R:=R) c):=qam fun v=>hs v.1 v.2.1 v.2.2.1 v.2.2.2.1 v.2.2.2.2.1 v.2.2.2.2.2.1
theorem sf34 {c37:C37} {c74:C74} {c73:C73} {c75:C75} {c77:C77} {c76:C76} {c78:C78} (h37:Sp37 c37) (h74:Sp74 c74) (h73:Sp73 c73) (h75:Sp75 c75) (h77:Sp77 c77) (h76:Sp76 c76) (h78:Sp78 c78):Sp34 (F34 c37 c74 c73 c75 c77 c76 c78):=fun p0 p1 p2 p3 p4 p5 y hy=>by
 refine qae (qac (ek37 h37) (qac (ek74 h74) (qac (ek73 h73) (qac (ek75 h75) (qac (ek77 h77) (qac (ek76 h76) (qac (ek78 h78) qad))))))) 1000000 (fn:=Tryd.f34) (by kernel_rfl) (by kernel_rfl) (X:=X34) (by kernel_rfl) ?_
 rw [eq34]
 exact (nt34 Ops.std c37 c74 c73 c75 c77 c76 c78 p0 p1 p2 p3 p4 p5 _ _ some (K1 k0) (rr34 c37 c74 c73 c75 c77 c76 c78 p0 p1 p2 p3 p4 p5 k0 1000000) none).trans (by show ob (F34 c37 c74 c73 c75 c77 c76 c78 p0 p1 p2 p3 p4 p5) _=_;rw [hy];rfl)
noncomputable def M34:C34:=F34 M37 M74 M73 M75 M77 M76 M78
theorem sm34:Sp34 M34:=sf34 sm37 sm74 sm73 sm75 sm77 sm76 sm78
def X19:Aux:=⟨[(4,([2,3,4]++rg 6 20))],[(6,.lin [0,1,2,3,4,5,6,7,8])]⟩
inductive S19 where
 | l0 (v2:Int)
def T19 {R:Type} (B:Ops) (p0 p1:L56) (again:S19→Option R) (k:(Bool)→Option R):Option S19→Option R | none=>cond (!B.eq (↑p0.length) (↑p1.length)) (k false) (again (.l0 0)) | some (.l0 v2)=>cond (B.lt v2 (↑p0.length)) (cond (B.inb v2 p0.length) (cond (B.inb v2 p1.length) (cond (!(B.eq (p0.getD v2.toNat ty56.dflt).1 (p1.getD v2.toNat ty56.dflt).1 && (B.eq ((p0.getD v2.toNat ty56.dflt).2).1 ((p1.getD v2.toNat ty56.dflt).2).1 && ((((p0.getD v2.toNat ty56.dflt).2).2).1 == (((p1.getD v2.toNat ty56.dflt).2).2).1 && ((((p0.getD v2.toNat ty56.dflt).2).2).2 == (((p1.getD v2.toNat ty56.dflt).2).2).2 && true))))) (k false) (again (.l0 (IntKind.wrap .i64 (v2+1))))) none) none) (k true)
def E19 (p0 p1:L56):S19→List AV×Objs
 | .l0 v2=>(mk 26 [(0,.c (.list 56 ty56 p0)),(1,.c (.list 56 ty56 p1)),(5,.c (.int .i64 v2))],[])
def I19:S19→Nat
 | .l0 _=>0
noncomputable abbrev A19 {R:Type} (B:Ops) (p0 p1:L56) (k:AV→Objs→Option R) (s:S19) (n:Nat):Option R:=aloop tau B gl0 X19 gnil ow [] Tryd.f19 k (I19 s) (E19 p0 p1 s) n
theorem eq19 {R:Type} (B:Ops) (p0 p1:L56) (k:AV→Objs→Option R) (n:Nat):afun tau B gl0 X19 gnil ow Tryd.f19 [.c (.list 56 ty56 p0),.c (.list 56 ty56 p1)] [] k n=T19 B p0 p1 (fun s=>A19 B p0 p1 k s n) (K2 k) none:=by kernel_rfl
theorem el19 {R:Type} (B:Ops) (p0 p1:L56) (k:AV→Objs→Option R) (n:Nat):∀ s,A19 B p0 p1 k s (n+1)=T19 B p0 p1 (fun s=>A19 B p0 p1 k s n) (K2 k) (some s):=by
 intro s
 cases s<;>kernel_rfl
theorem nt19 {R R':Type} (B:Ops) (p0 p1:L56) (again:S19→Option R) (again':S19→Option R') (k0:(Bool)→Option R') (k:R'→Option R) (h:∀ s,again s=ob (again' s) k):∀ s,T19 B p0 p1 again (fun y=>ob (k0 y) k) s=ob (T19 B p0 p1 again' k0 s) k:=by
 rintro (_ | x)
 all_goals try cases x
 all_goals (unfold T19;repeat' first | exact rfl | exact h _ | apply qab | (apply qah;intro))
def R19 (p0 p1:L56):Nat→S19→Option (Bool)
 | 0,_=>none
 | n+1,s=>T19 Ops.std p0 p1 (R19 p0 p1 n) some (some s)
theorem rr19 {R:Type} (p0 p1:L56) (k:AV→Objs→Option R):∀ (n:Nat) (s:S19),A19 Ops.std p0 p1 k s n=ob (R19 p0 p1 n s) (K2 k)
 | 0,s=>by cases s<;>rfl
 | n+1,s=>by rw [el19];exact nt19 Ops.std p0 p1 _ _ some (K2 k) (rr19 p0 p1 k n) (some s)
def F19 (p0 p1:L56):Option (Bool):=T19 Ops.std p0 p1 (R19 p0 p1 1000000) some none
abbrev C19:Type:=L56→L56→Option (Bool)
def e19 {R:Type} (c:C19):Ent R:=eG [.aC (.cL 56 ty56),.aC (.cL 56 ty56)] [] fun v k=>ob (c v.1 v.2.1) (K2 k)
abbrev Sp19 (c:C19):Prop:=∀ (p0 p1:L56) (y:Bool),c p0 p1=some y→Spec Tryd.prog gl0 19 [.c (.list 56 ty56 p0),.c (.list 56 ty56 p1)] [] (.c (.bool y)) []
theorem ek19 {R:Type} {c:C19} (hs:Sp19 c):EOk 19 (e19 (R:=R) c):=qam fun v=>hs v.1 v.2.1
theorem sf19:Sp19 (F19):=fun p0 p1 y hy=>by
 refine qae qad 1000000 (fn:=Tryd.f19) (by kernel_rfl) (by kernel_rfl) (X:=X19) (by kernel_rfl) ?_
 rw [eq19]
 exact (nt19 Ops.std p0 p1 _ _ some (K2 k0) (rr19 p0 p1 k0 1000000) none).trans (by show ob (F19 p0 p1) _=_;rw [hy];rfl)
noncomputable def M19:C19:=F19
theorem sm19:Sp19 M19:=sf19
def X90:Aux:=⟨[],[(4,.lin (rg 0 31))]⟩
def T90 {R:Type} (B:Ops) (c24:C24) (p0:Int) (p1:L3) (p2:Int) (k:(Int×L3×Int)→Option R):Option R:=cond (B.eq (↑p1.length) 0) (k (0,p1,p2)) (cond (B.eq (↑p1.length) 0) none (cond (B.inb (Int.tmod (IntKind.wrap .i64 (p2+1)) (↑p1.length)) p1.length) (cond (B.eq (↑p1.length) 0) none (cond (B.eq (IntKind.wrap .i64 (1+IntKind.wrap .i64 (Int.tdiv (IntKind.wrap .i64 (p2+1)) (↑p1.length)))) 0) none (ob (c24 (IntKind.wrap .i64 (Int.tdiv (p1.getD (Int.toNat (Int.tmod (IntKind.wrap .i64 (p2+1)) (↑p1.length))) ty3.dflt) (IntKind.wrap .i64 (1+IntKind.wrap .i64 (Int.tdiv (IntKind.wrap .i64 (p2+1)) (↑p1.length)))))) p0) fun y0=>k ((y0,p1,IntKind.wrap .i64 (p2+1)))))) none))
abbrev K20 {R:Type} (k:AV→Objs→Option R) (y:(Int×L3×Int)):Option R:=k (.c (.int .i64 y.1)) [(0,.box 82 [.list 3 ty3 y.2.1,.int .i64 y.2.2])]
theorem eq90 {R:Type} (B:Ops) (c24:C24) (p0:Int) (p1:L3) (p2:Int) (k:AV→Objs→Option R) (n:Nat):afun tau B gl0 X90 (ent 24 (e24 c24) gnil) ow Tryd.f90 [.c (.ptr 0 0),.c (.int .i64 p0)] [(0,.box 82 [.list 3 ty3 p1,.int .i64 p2])] k n=T90 B c24 p0 p1 p2 (K20 k):=by kernel_rfl
theorem nt90 {R R':Type} (B:Ops) (c24:C24) (p0:Int) (p1:L3) (p2:Int) (k0:(Int×L3×Int)→Option R') (k:R'→Option R):T90 B c24 p0 p1 p2 (fun y=>ob (k0 y) k)=ob (T90 B c24 p0 p1 p2 k0) k:=by
 unfold T90
 repeat' first | exact rfl | apply qab | (apply qah;intro)
def F90 (c24:C24) (p0:Int) (p1:L3) (p2:Int):Option (Int×L3×Int):=T90 Ops.std c24 p0 p1 p2 some
abbrev C90:Type:=Int→L3→Int→Option (Int×L3×Int)
def e90 {R:Type} (c:C90):Ent R:=eG [.aC (.cP 0),.aC (.cI .i64)] [.oB 0 82 [.cL 3 ty3,.cI .i64]] fun v k=>ob (c v.1 v.2.1 v.2.2.1) (K20 k)
abbrev Sp90 (c:C90):Prop:=∀ (p0:Int) (p1:L3) (p2:Int) (y:Int×L3×Int),c p0 p1 p2=some y→Spec Tryd.prog gl0 90 [.c (.ptr 0 0),.c (.int .i64 p0)] [(0,.box 82 [.list 3 ty3 p1,.int .i64 p2])] (.c (.int .i64 y.1)) [(0,.box 82 [.list 3 ty3 y.2.1,.int .i64 y.2.2])]
theorem ek90 {R:Type} {c:C90} (hs:Sp90 c):EOk 90 (e90 (R:=R) c):=qam fun v=>hs v.1 v.2.1 v.2.2.1
theorem sf90 {c24:C24} (h24:Sp24 c24):Sp90 (F90 c24):=fun p0 p1 p2 y hy=>by
 refine qae (qac (ek24 h24) qad) 1000000 (fn:=Tryd.f90) (by kernel_rfl) (by kernel_rfl) (X:=X90) (by kernel_rfl) ?_
 rw [eq90]
 exact (nt90 Ops.std c24 p0 p1 p2 some (K20 k0)).trans (by show ob (F90 c24 p0 p1 p2) _=_;rw [hy];rfl)
noncomputable def M90:C90:=F90 M24
theorem sm90:Sp90 M90:=sf90 sm24
abbrev K21 {R:Type} (k:AV→Objs→Option R) (y:(LB×L3×Int)):Option R:=k (.c (.str y.1)) [(0,.box 82 [.list 3 ty3 y.2.1,.int .i64 y.2.2])]
abbrev C49:Type:=Int→L3→Int→Option (LB×L3×Int)
def e49 {R:Type} (c:C49):Ent R:=eG [.aC (.cP 0),.aC (.cI .i64)] [.oB 0 82 [.cL 3 ty3,.cI .i64]] fun v k=>ob (c v.1 v.2.1 v.2.2.1) (K21 k)
abbrev Sp49 (c:C49):Prop:=∀ (p0:Int) (p1:L3) (p2:Int) (y:LB×L3×Int),c p0 p1 p2=some y→Spec Tryd.prog gl0 49 [.c (.ptr 0 0),.c (.int .i64 p0)] [(0,.box 82 [.list 3 ty3 p1,.int .i64 p2])] (.c (.str y.1)) [(0,.box 82 [.list 3 ty3 y.2.1,.int .i64 y.2.2])]
theorem ek49 {R:Type} {c:C49} (hs:Sp49 c):EOk 49 (e49 (R:=R) c):=qam fun v=>hs v.1 v.2.1 v.2.2.1
def X49:Aux:=⟨[(1000004,([2,3,4]++rg 6 111))],[(24,.lin ([0,5,1,2,3,4,6,7,8,9,10]))]⟩
inductive S49 where
 | l1004 (v1:Int) (v2:L3) (v3:Int)
def T49 {R:Type} (B:Ops) (c90:C90) (c49:C49) (p0:Int) (p1:L3) (p2:Int) (again:S49→Option R) (k:(LB×L3×Int)→Option R):Option S49→Option R | none=>ob (c90 20 p1 p2) fun y0=>cond (B.lt 3 p0) (cond (B.eq 6 0) none (again (.l1004 (IntKind.wrap .i64 (14+Int.tmod y0.1 6)) y0.2.1 y0.2.2))) (cond (B.lt 14 y0.2.2) (cond (B.eq 6 0) none (again (.l1004 (IntKind.wrap .i64 (14+Int.tmod y0.1 6)) y0.2.1 y0.2.2))) (again (.l1004 y0.1 y0.2.1 y0.2.2))) | some (.l1004 v1 v2 v3)=>cond (B.lt v1 10) (ob (c49 (IntKind.wrap .i64 (p0+1)) v2 v3) fun y0=>ob (c49 (IntKind.wrap .i64 (p0+1)) y0.2.1 y0.2.2) fun y1=>ob (c90 11 y1.2.1 y1.2.2) fun y2=>cond (B.inb y2.1 11) (ob (c90 2 y2.2.1 y2.2.2) fun y3=>cond (B.eq y3.1 0) (cond (B.lim (1+List.length y0.1) 1) (cond (B.lim (List.length (([40]:LB)++y0.1)+1) 1) (cond (B.lim (List.length (([40]:LB)++y0.1++([41]:LB))+List.length (List.getD (([43]:LB)::([45]:LB)::([42]:LB)::([60]:LB)::([60,61]:LB)::([61,61]:LB)::([33,61]:LB)::([38,38]:LB)::([124,124]:LB)::([62]:LB)::([62,61]:LB)::mt LB) (Int.toNat y2.1) (mt UInt8))) 1) (cond (B.lim (List.length (([40]:LB)++y0.1++([41]:LB)++List.getD (([43]:LB)::([45]:LB)::([42]:LB)::([60]:LB)::([60,61]:LB)::([61,61]:LB)::([33,61]:LB)::([38,38]:LB)::([124,124]:LB)::([62]:LB)::([62,61]:LB)::mt LB) (Int.toNat y2.1) (mt UInt8))+1) 1) (cond (B.lim (List.length (([40]:LB)++y0.1++([41]:LB)++List.getD (([43]:LB)::([45]:LB)::([42]:LB)::([60]:LB)::([60,61]:LB)::([61,61]:LB)::([33,61]:LB)::([38,38]:LB)::([124,124]:LB)::([62]:LB)::([62,61]:LB)::mt LB) (Int.toNat y2.1) (mt UInt8)++([40]:LB))+List.length y1.1) 1) (cond (B.lim (List.length (([40]:LB)++y0.1++([41]:LB)++List.getD (([43]:LB)::([45]:LB)::([42]:LB)::([60]:LB)::([60,61]:LB)::([61,61]:LB)::([33,61]:LB)::([38,38]:LB)::([124,124]:LB)::([62]:LB)::([62,61]:LB)::mt LB) (Int.toNat y2.1) (mt UInt8)++([40]:LB)++y1.1)+1) 1) (k ((([40]:LB)++y0.1++([41]:LB)++List.getD (([43]:LB)::([45]:LB)::([42]:LB)::([60]:LB)::([60,61]:LB)::([61,61]:LB)::([33,61]:LB)::([38,38]:LB)::([124,124]:LB)::([62]:LB)::([62,61]:LB)::mt LB) (Int.toNat y2.1) (mt UInt8)++([40]:LB)++y1.1++([41]:LB),y3.2.1,y3.2.2))) none) none) none) none) none) none) (cond (B.lim (1+List.length y0.1) 1) (cond (B.lim (List.length (([40]:LB)++y0.1)+1) 1) (cond (B.lim (List.length (([40]:LB)++y0.1++([32]:LB))+List.length (List.getD (([43]:LB)::([45]:LB)::([42]:LB)::([60]:LB)::([60,61]:LB)::([61,61]:LB)::([33,61]:LB)::([38,38]:LB)::([124,124]:LB)::([62]:LB)::([62,61]:LB)::mt LB) (Int.toNat y2.1) (mt UInt8))) 1) (cond (B.lim (List.length (([40]:LB)++y0.1++([32]:LB)++List.getD (([43]:LB)::([45]:LB)::([42]:LB)::([60]:LB)::([60,61]:LB)::([61,61]:LB)::([33,61]:LB)::([38,38]:LB)::([124,124]:LB)::([62]:LB)::([62,61]:LB)::mt LB) (Int.toNat y2.1) (mt UInt8))+1) 1) (cond (B.lim (List.length (([40]:LB)++y0.1++([32]:LB)++List.getD (([43]:LB)::([45]:LB)::([42]:LB)::([60]:LB)::([60,61]:LB)::([61,61]:LB)::([33,61]:LB)::([38,38]:LB)::([124,124]:LB)::([62]:LB)::([62,61]:LB)::mt LB) (Int.toNat y2.1) (mt UInt8)++([32]:LB))+List.length y1.1) 1) (cond (B.lim (List.length (([40]:LB)++y0.1++([32]:LB)++List.getD (([43]:LB)::([45]:LB)::([42]:LB)::([60]:LB)::([60,61]:LB)::([61,61]:LB)::([33,61]:LB)::([38,38]:LB)::([124,124]:LB)::([62]:LB)::([62,61]:LB)::mt LB) (Int.toNat y2.1) (mt UInt8)++([32]:LB)++y1.1)+1) 1) (k ((([40]:LB)++y0.1++([32]:LB)++List.getD (([43]:LB)::([45]:LB)::([42]:LB)::([60]:LB)::([60,61]:LB)::([61,61]:LB)::([33,61]:LB)::([38,38]:LB)::([124,124]:LB)::([62]:LB)::([62,61]:LB)::mt LB) (Int.toNat y2.1) (mt UInt8)++([32]:LB)++y1.1++([41]:LB),y3.2.1,y3.2.2))) none) none) none) none) none) none)) none) (cond (B.eq v1 10) (ob (c49 (IntKind.wrap .i64 (p0+1)) v2 v3) fun y0=>cond (B.lim (2+List.length y0.1) 1) (cond (B.lim (List.length (([33,40]:LB)++y0.1)+1) 1) (k ((([33,40]:LB)++y0.1++([41]:LB),y0.2.1,y0.2.2))) none) none) (cond (B.eq v1 11) (ob (c49 (IntKind.wrap .i64 (p0+1)) v2 v3) fun y0=>cond (B.lim (2+List.length y0.1) 1) (cond (B.lim (List.length (([45,40]:LB)++y0.1)+1) 1) (k ((([45,40]:LB)++y0.1++([41]:LB),y0.2.1,y0.2.2))) none) none) (cond (B.eq v1 12) (ob (c49 (IntKind.wrap .i64 (p0+1)) v2 v3) fun y0=>cond (B.lim (List.length y0.1+1) 1) (ob (c49 (IntKind.wrap .i64 (p0+1)) y0.2.1 y0.2.2) fun y1=>cond (B.lim (List.length (y0.1++([43]:LB))+List.length y1.1) 1) (k ((y0.1++([43]:LB)++y1.1,y1.2.1,y1.2.2))) none) none) (cond (B.eq v1 13) (ob (c49 (IntKind.wrap .i64 (p0+1)) v2 v3) fun y0=>cond (B.lim (2+List.length y0.1) 1) (k ((([33,33]:LB)++y0.1,y0.2.1,y0.2.2))) none) (cond (B.eq v1 14) (ob (c90 4 v2 v3) fun y0=>cond (B.inb y0.1 4) (k ((List.getD (([48]:LB)::([49]:LB)::([50]:LB)::([48,48,55]:LB)::mt LB) (Int.toNat y0.1) (mt UInt8),y0.2.1,y0.2.2))) none) (cond (B.eq v1 15) (ob (c90 4 v2 v3) fun y0=>cond (B.inb y0.1 4) (k ((List.getD (([48]:LB)::([49]:LB)::([50]:LB)::([48,48,55]:LB)::mt LB) (Int.toNat y0.1) (mt UInt8),y0.2.1,y0.2.2))) none) (cond (B.eq v1 16) (ob (c90 2 v2 v3) fun y0=>cond (B.inb y0.1 3) (cond (B.lim (List.length (List.getD ((112::mt UInt8)::(113::mt UInt8)::(114::mt UInt8)::mt LB) (Int.toNat y0.1) (mt UInt8))+1) 1) (ob (c90 3 y0.2.1 y0.2.2) fun y1=>cond (B.inb y1.1 4) (cond (B.lim (List.length (List.getD ((112::mt UInt8)::(113::mt UInt8)::(114::mt UInt8)::mt LB) (Int.toNat y0.1) (mt UInt8)++([64]:LB))+List.length (List.getD ((97::mt UInt8)::(98::mt UInt8)::(99::mt UInt8)::(100::mt UInt8)::mt LB) (Int.toNat y1.1) (mt UInt8))) 1) (k ((List.getD ((112::mt UInt8)::(113::mt UInt8)::(114::mt UInt8)::mt LB) (Int.toNat y0.1) (mt UInt8)++([64]:LB)++List.getD ((97::mt UInt8)::(98::mt UInt8)::(99::mt UInt8)::(100::mt UInt8)::mt LB) (Int.toNat y1.1) (mt UInt8),y1.2.1,y1.2.2))) none) none) none) none) (ob (c90 2 v2 v3) fun y0=>cond (B.inb y0.1 3) (k ((List.getD ((120::mt UInt8)::(121::mt UInt8)::(122::mt UInt8)::mt LB) (Int.toNat y0.1) (mt UInt8),y0.2.1,y0.2.2))) none))))))))
def E49 (p0:Int) (p1:L3) (p2:Int):S49→List AV×Objs
 | .l1004 v1 v2 v3=>(mk 117 [(0,.c (.ptr 0 0)),(1,.c (.int .i64 p0)),(5,.c (.int .i64 v1))],[(0,.box 82 [.list 3 ty3 v2,.int .i64 v3])])
def I49:S49→Nat
 | .l1004 _ _ _=>1004
noncomputable abbrev A49 {R:Type} (B:Ops) (c90:C90) (c49:C49) (p0:Int) (p1:L3) (p2:Int) (k:AV→Objs→Option R) (s:S49) (n:Nat):Option R:=aloop tau B gl0 X49 (ent 90 (e90 c90) (ent 49 (e49 c49) gnil)) ow [0] Tryd.f49 k (I49 s) (E49 p0 p1 p2 s) n
theorem eq49 {R:Type} (B:Ops) (c90:C90) (c49:C49) (p0:Int) (p1:L3) (p2:Int) (k:AV→Objs→Option R) (n:Nat):afun tau B gl0 X49 (ent 90 (e90 c90) (ent 49 (e49 c49) gnil)) ow Tryd.f49 [.c (.ptr 0 0),.c (.int .i64 p0)] [(0,.box 82 [.list 3 ty3 p1,.int .i64 p2])] k n=T49 B c90 c49 p0 p1 p2 (fun s=>A49 B c90 c49 p0 p1 p2 k s n) (K21 k) none:=by kernel_rfl
theorem el49 {R:Type} (B:Ops) (c90:C90) (c49:C49) (p0:Int) (p1:L3) (p2:Int) (k:AV→Objs→Option R) (n:Nat):∀ s,A49 B c90 c49 p0 p1 p2 k s (n+1)=T49 B c90 c49 p0 p1 p2 (fun s=>A49 B c90 c49 p0 p1 p2 k s n) (K21 k) (some s):=by
 intro s
 cases s<;>kernel_rfl
theorem nt49 {R R':Type} (B:Ops) (c90:C90) (c49:C49) (p0:Int) (p1:L3) (p2:Int) (again:S49→Option R) (again':S49→Option R') (k0:(LB×L3×Int)→Option R') (k:R'→Option R) (h:∀ s,again s=ob (again' s) k):∀ s,T49 B c90 c49 p0 p1 p2 again (fun y=>ob (k0 y) k) s=ob (T49 B c90 c49 p0 p1 p2 again' k0 s) k:=by
 rintro (_ | x)
 all_goals try cases x
 all_goals (unfold T49;repeat' first | exact rfl | exact h _ | apply qab | (apply qah;intro))
def R49 (c90:C90) (c49:C49) (p0:Int) (p1:L3) (p2:Int):Nat→S49→Option (LB×L3×Int)
 | 0,_=>none
 | n+1,s=>T49 Ops.std c90 c49 p0 p1 p2 (R49 c90 c49 p0 p1 p2 n) some (some s)
theorem rr49 {R:Type} (c90:C90) (c49:C49) (p0:Int) (p1:L3) (p2:Int) (k:AV→Objs→Option R):∀ (n:Nat) (s:S49),A49 Ops.std c90 c49 p0 p1 p2 k s n=ob (R49 c90 c49 p0 p1 p2 n s) (K21 k)
 | 0,s=>by cases s<;>rfl
 | n+1,s=>by rw [el49];exact nt49 Ops.std c90 c49 p0 p1 p2 _ _ some (K21 k) (rr49 c90 c49 p0 p1 p2 k n) (some s)
def F49 (c90:C90) (c49:C49) (p0:Int) (p1:L3) (p2:Int):Option (LB×L3×Int):=T49 Ops.std c90 c49 p0 p1 p2 (R49 c90 c49 p0 p1 p2 1000000) some none
theorem sf49 {c90:C90} {c49:C49} (h90:Sp90 c90) (h49:Sp49 c49):Sp49 (F49 c90 c49):=fun p0 p1 p2 y hy=>by
 refine qae (qac (ek90 h90) (qac (ek49 h49) qad)) 1000000 (fn:=Tryd.f49) (by kernel_rfl) (by kernel_rfl) (X:=X49) (by kernel_rfl) ?_
 rw [eq49]
 exact (nt49 Ops.std c90 c49 p0 p1 p2 _ _ some (K21 k0) (rr49 c90 c49 p0 p1 p2 k0 1000000) none).trans (by show ob (F49 c90 c49 p0 p1 p2) _=_;rw [hy];rfl)
noncomputable def Rec49:Nat→(Int→L3→Int→Option (LB×L3×Int))
 | 0=>fun _ _ _=>none
 | d+1=>F49 M90 (Rec49 d)
theorem rec49:∀ d,Sp49 (Rec49 d)
 | 0=>fun p0 p1 p2 y (h:(none:Option (LB×L3×Int))=some y)=>by cases h
 | d+1=>sf49 sm90 (rec49 d)
noncomputable def M49:C49:=(Rec49 1000000)
theorem sm49:Sp49 M49:=(rec49 1000000)
def X16:Aux:=⟨[],[]⟩
def T16 {R:Type} (B:Ops) (c49:C49) (p0:L3) (k:(LB)→Option R):Option R:=ob (c49 0 p0 0) fun y0=>k y0.1
theorem eq16 {R:Type} (B:Ops) (c49:C49) (p0:L3) (k:AV→Objs→Option R) (n:Nat):afun tau B gl0 X16 (ent 49 (e49 c49) gnil) ow Tryd.f16 [.c (.list 3 ty3 p0)] [] k n=T16 B c49 p0 (K3 k):=by kernel_rfl
theorem nt16 {R R':Type} (B:Ops) (c49:C49) (p0:L3) (k0:(LB)→Option R') (k:R'→Option R):T16 B c49 p0 (fun y=>ob (k0 y) k)=ob (T16 B c49 p0 k0) k:=by
 unfold T16
 repeat' first | exact rfl | apply qab | (apply qah;intro)
def F16 (c49:C49) (p0:L3):Option (LB):=T16 Ops.std c49 p0 some
abbrev C16:Type:=L3→Option (LB)
def e16 {R:Type} (c:C16):Ent R:=eG [.aC (.cL 3 ty3)] [] fun v k=>ob (c v.1) (K3 k)
abbrev Sp16 (c:C16):Prop:=∀ (p0:L3) (y:LB),c p0=some y→Spec Tryd.prog gl0 16 [.c (.list 3 ty3 p0)] [] (.c (.str y)) []
theorem ek16 {R:Type} {c:C16} (hs:Sp16 c):EOk 16 (e16 (R:=R) c):=qam fun v=>hs v.1
theorem sf16 {c49:C49} (h49:Sp49 c49):Sp16 (F16 c49):=fun p0 y hy=>by
 refine qae (qac (ek49 h49) qad) 1000000 (fn:=Tryd.f16) (by kernel_rfl) (by kernel_rfl) (X:=X16) (by kernel_rfl) ?_
 rw [eq16]
 exact (nt16 Ops.std c49 p0 some (K3 k0)).trans (by show ob (F16 c49 p0) _=_;rw [hy];rfl)
noncomputable def M16:C16:=F16 M49
theorem sm16:Sp16 M16:=sf16 sm49
def X65:Aux:=⟨[(4,(rg 2 10++rg 14 12))],[(6,.lin [0,1,2,3,4,5,6,7,8])]⟩
inductive S65 where
 | l0 (v2 v3:Int)
def T65 {R:Type} (B:Ops) (p0 p1:L56) (again:S65→Option R) (k:(Bool)→Option R):Option S65→Option R | none=>cond (!B.eq (↑p0.length) (↑p1.length)) (k false) (again (.l0 (↑p0.length) 0)) | some (.l0 v2 v3)=>cond (B.lt v3 v2) (cond (B.inb v3 p0.length) (cond (B.inb v3 p1.length) (cond (!(B.eq (p0.getD v3.toNat ty56.dflt).1 (p1.getD v3.toNat ty56.dflt).1 && (B.eq ((p0.getD v3.toNat ty56.dflt).2).1 ((p1.getD v3.toNat ty56.dflt).2).1 && ((((p0.getD v3.toNat ty56.dflt).2).2).1 == (((p1.getD v3.toNat ty56.dflt).2).2).1 && ((((p0.getD v3.toNat ty56.dflt).2).2).2 == (((p1.getD v3.toNat ty56.dflt).2).2).2 && true))))) (k false) (again (.l0 v2 (IntKind.wrap .i64 (v3+1))))) none) none) (k true)
def E65 (p0 p1:L56):S65→List AV×Objs
 | .l0 v2 v3=>(mk 26 [(0,.c (.list 56 ty56 p0)),(1,.c (.list 56 ty56 p1)),(12,.c (.int .i64 v2)),(13,.c (.int .i64 v3))],[])
def I65:S65→Nat
 | .l0 _ _=>0
noncomputable abbrev A65 {R:Type} (B:Ops) (p0 p1:L56) (k:AV→Objs→Option R) (s:S65) (n:Nat):Option R:=aloop tau B gl0 X65 gnil ow [] Tryd.f65 k (I65 s) (E65 p0 p1 s) n
theorem eq65 {R:Type} (B:Ops) (p0 p1:L56) (k:AV→Objs→Option R) (n:Nat):afun tau B gl0 X65 gnil ow Tryd.f65 [.c (.list 56 ty56 p0),.c (.list 56 ty56 p1)] [] k n=T65 B p0 p1 (fun s=>A65 B p0 p1 k s n) (K2 k) none:=by kernel_rfl
theorem el65 {R:Type} (B:Ops) (p0 p1:L56) (k:AV→Objs→Option R) (n:Nat):∀ s,A65 B p0 p1 k s (n+1)=T65 B p0 p1 (fun s=>A65 B p0 p1 k s n) (K2 k) (some s):=by
 intro s
 cases s<;>kernel_rfl
theorem nt65 {R R':Type} (B:Ops) (p0 p1:L56) (again:S65→Option R) (again':S65→Option R') (k0:(Bool)→Option R') (k:R'→Option R) (h:∀ s,again s=ob (again' s) k):∀ s,T65 B p0 p1 again (fun y=>ob (k0 y) k) s=ob (T65 B p0 p1 again' k0 s) k:=by
 rintro (_ | x)
 all_goals try cases x
 all_goals (unfold T65;repeat' first | exact rfl | exact h _ | apply qab | (apply qah;intro))
def R65 (p0 p1:L56):Nat→S65→Option (Bool)
 | 0,_=>none
 | n+1,s=>T65 Ops.std p0 p1 (R65 p0 p1 n) some (some s)
theorem rr65 {R:Type} (p0 p1:L56) (k:AV→Objs→Option R):∀ (n:Nat) (s:S65),A65 Ops.std p0 p1 k s n=ob (R65 p0 p1 n s) (K2 k)
 | 0,s=>by cases s<;>rfl
 | n+1,s=>by rw [el65];exact nt65 Ops.std p0 p1 _ _ some (K2 k) (rr65 p0 p1 k n) (some s)
def F65 (p0 p1:L56):Option (Bool):=T65 Ops.std p0 p1 (R65 p0 p1 1000000) some none
abbrev C65:Type:=L56→L56→Option (Bool)
def e65 {R:Type} (c:C65):Ent R:=eG [.aC (.cL 56 ty56),.aC (.cL 56 ty56)] [] fun v k=>ob (c v.1 v.2.1) (K2 k)
abbrev Sp65 (c:C65):Prop:=∀ (p0 p1:L56) (y:Bool),c p0 p1=some y→Spec Tryd.prog gl0 65 [.c (.list 56 ty56 p0),.c (.list 56 ty56 p1)] [] (.c (.bool y)) []
theorem ek65 {R:Type} {c:C65} (hs:Sp65 c):EOk 65 (e65 (R:=R) c):=qam fun v=>hs v.1 v.2.1
theorem sf65:Sp65 (F65):=fun p0 p1 y hy=>by
 refine qae qad 1000000 (fn:=Tryd.f65) (by kernel_rfl) (by kernel_rfl) (X:=X65) (by kernel_rfl) ?_
 rw [eq65]
 exact (nt65 Ops.std p0 p1 _ _ some (K2 k0) (rr65 p0 p1 k0 1000000) none).trans (by show ob (F65 p0 p1) _=_;rw [hy];rfl)
noncomputable def M65:C65:=F65
theorem sm65:Sp65 M65:=sf65
def X27:Aux:=⟨[],[]⟩
def T27 {R:Type} (B:Ops) (c65:C65) (p0 p1:L56) (k:(Bool)→Option R):Option R:=ob (c65 p0 p1) fun y0=>k y0
theorem eq27 {R:Type} (B:Ops) (c65:C65) (p0 p1:L56) (k:AV→Objs→Option R) (n:Nat):afun tau B gl0 X27 (ent 65 (e65 c65) gnil) ow Tryd.f27 [.c (.list 56 ty56 p0),.c (.list 56 ty56 p1)] [] k n=T27 B c65 p0 p1 (K2 k):=by kernel_rfl
theorem nt27 {R R':Type} (B:Ops) (c65:C65) (p0 p1:L56) (k0:(Bool)→Option R') (k:R'→Option R):T27 B c65 p0 p1 (fun y=>ob (k0 y) k)=ob (T27 B c65 p0 p1 k0) k:=by
 unfold T27
 repeat' first | exact rfl | apply qab | (apply qah;intro)
def F27 (c65:C65) (p0 p1:L56):Option (Bool):=T27 Ops.std c65 p0 p1 some
abbrev C27:Type:=L56→L56→Option (Bool)
def e27 {R:Type} (c:C27):Ent R:=eG [.aC (.cL 56 ty56),.aC (.cL 56 ty56)] [] fun v k=>ob (c v.1 v.2.1) (K2 k)
abbrev Sp27 (c:C27):Prop:=∀ (p0 p1:L56) (y:Bool),c p0 p1=some y→Spec Tryd.prog gl0 27 [.c (.list 56 ty56 p0),.c (.list 56 ty56 p1)] [] (.c (.bool y)) []
theorem ek27 {R:Type} {c:C27} (hs:Sp27 c):EOk 27 (e27 (R:=R) c):=qam fun v=>hs v.1 v.2.1
theorem sf27 {c65:C65} (h65:Sp65 c65):Sp27 (F27 c65):=fun p0 p1 y hy=>by
 refine qae (qac (ek65 h65) qad) 1000000 (fn:=Tryd.f27) (by kernel_rfl) (by kernel_rfl) (X:=X27) (by kernel_rfl) ?_
 rw [eq27]
 exact (nt27 Ops.std c65 p0 p1 some (K2 k0)).trans (by show ob (F27 c65 p0 p1) _=_;rw [hy];rfl)
noncomputable def M27:C27:=F27 M65
theorem sm27:Sp27 M27:=sf27 sm65
def X35:Aux:=⟨[],[(15,.lin [0,1,2,3,4,5,6,7,8])]⟩
def T35 {R:Type} (B:Ops) (c24:C24) (p0:L56) (p1 p2 p3:Int) (k:(L56)→Option R):Option R:=cond (B.lim (List.length (mt (Ty.den ty56))+List.length p0) 48) (cond (B.eq (Nat.cast (List.length (mt (Ty.den ty56)++p0))) 0) (k (mt (Ty.den ty56)++p0)) (ob (c24 p2 (Nat.cast (List.length (mt (Ty.den ty56)++p0)))) fun y0=>ob (c24 p1 9) fun y1=>cond (B.eq y1 0) (ob (c24 p3 19) fun y2=>cond (B.inb y0 (List.length (mt (Ty.den ty56)++p0))) (k (List.set (mt (Ty.den ty56)++p0) y0.toNat (IntKind.wrap .i64 (y2-1),Prod.fst (Prod.snd (List.getD (mt (Ty.den ty56)++p0) y0.toNat (Ty.dflt ty56))),Prod.fst (Prod.snd (Prod.snd (List.getD (mt (Ty.den ty56)++p0) y0.toNat (Ty.dflt ty56)))),Prod.snd (Prod.snd (Prod.snd (List.getD (mt (Ty.den ty56)++p0) y0.toNat (Ty.dflt ty56))))))) none) (cond (B.eq y1 1) (cond (B.inb y0 (List.length (mt (Ty.den ty56)++p0))) (k (List.set (mt (Ty.den ty56)++p0) y0.toNat (Prod.fst (List.getD (mt (Ty.den ty56)++p0) y0.toNat (Ty.dflt ty56)),p3,Prod.fst (Prod.snd (Prod.snd (List.getD (mt (Ty.den ty56)++p0) y0.toNat (Ty.dflt ty56)))),Prod.snd (Prod.snd (Prod.snd (List.getD (mt (Ty.den ty56)++p0) y0.toNat (Ty.dflt ty56))))))) none) (cond (B.eq y1 2) (ob (c24 p3 4) fun y2=>cond (B.inb y2 4) (cond (B.inb y0 (List.length (mt (Ty.den ty56)++p0))) (k (List.set (mt (Ty.den ty56)++p0) y0.toNat (Prod.fst (List.getD (mt (Ty.den ty56)++p0) y0.toNat (Ty.dflt ty56)),Prod.fst (Prod.snd (List.getD (mt (Ty.den ty56)++p0) y0.toNat (Ty.dflt ty56))),List.getD (mt UInt8::([120]:LB)::([90]:LB)::([116,111,111,108,111,110,103,110,97,109,101]:LB)::mt LB) y2.toNat (mt UInt8),Prod.snd (Prod.snd (Prod.snd (List.getD (mt (Ty.den ty56)++p0) y0.toNat (Ty.dflt ty56))))))) none) none) (cond (B.eq y1 3) (ob (c24 p3 3) fun y2=>cond (B.inb y2 3) (cond (B.inb y0 (List.length (mt (Ty.den ty56)++p0))) (k (List.set (mt (Ty.den ty56)++p0) y0.toNat (Prod.fst (List.getD (mt (Ty.den ty56)++p0) y0.toNat (Ty.dflt ty56)),Prod.fst (Prod.snd (List.getD (mt (Ty.den ty56)++p0) y0.toNat (Ty.dflt ty56))),Prod.fst (Prod.snd (Prod.snd (List.getD (mt (Ty.den ty56)++p0) y0.toNat (Ty.dflt ty56)))),List.getD (mt UInt8::([97]:LB)::([57]:LB)::mt LB) y2.toNat (mt UInt8)))) none) none) (cond (B.eq y1 4) (cond (B.inb y0 (List.length (mt (Ty.den ty56)++p0)+1)) (cond (B.inb (IntKind.wrap .i64 (y0+1)) (List.length (mt (Ty.den ty56)++p0)+1)) (cond (B.lim (List.length (List.take y0.toNat (mt (Ty.den ty56)++p0))+List.length (List.take (List.length (mt (Ty.den ty56)++p0)-Int.toNat (IntKind.wrap .i64 (y0+1))) (List.drop (Int.toNat (IntKind.wrap .i64 (y0+1))) (mt (Ty.den ty56)++p0)))) 48) (k (List.take y0.toNat (mt (Ty.den ty56)++p0)++List.take (List.length (mt (Ty.den ty56)++p0)-Int.toNat (IntKind.wrap .i64 (y0+1))) (List.drop (Int.toNat (IntKind.wrap .i64 (y0+1))) (mt (Ty.den ty56)++p0)))) none) none) none) (cond (B.eq y1 5) (cond (B.inb y0 (List.length (mt (Ty.den ty56)++p0))) (cond (B.lim (List.length (mt (Ty.den ty56)++p0)+List.length ((Prod.fst (List.getD (mt (Ty.den ty56)++p0) y0.toNat (Ty.dflt ty56)),Prod.fst (Prod.snd (List.getD (mt (Ty.den ty56)++p0) y0.toNat (Ty.dflt ty56))),Prod.fst (Prod.snd (Prod.snd (List.getD (mt (Ty.den ty56)++p0) y0.toNat (Ty.dflt ty56)))),Prod.snd (Prod.snd (Prod.snd (List.getD (mt (Ty.den ty56)++p0) y0.toNat (Ty.dflt ty56)))))::mt (Ty.den ty56))) 48) (k (mt (Ty.den ty56)++p0++(Prod.fst (List.getD (mt (Ty.den ty56)++p0) y0.toNat (Ty.dflt ty56)),Prod.fst (Prod.snd (List.getD (mt (Ty.den ty56)++p0) y0.toNat (Ty.dflt ty56))),Prod.fst (Prod.snd (Prod.snd (List.getD (mt (Ty.den ty56)++p0) y0.toNat (Ty.dflt ty56)))),Prod.snd (Prod.snd (Prod.snd (List.getD (mt (Ty.den ty56)++p0) y0.toNat (Ty.dflt ty56)))))::mt (Ty.den ty56))) none) none) (k (mt (Ty.den ty56)++p0))))))))) none
abbrev K22 {R:Type} (k:AV→Objs→Option R) (y:(L56)):Option R:=k (.c (.own 500)) [(500,.row 56 ty56 y)]
theorem eq35 {R:Type} (B:Ops) (c24:C24) (p0:L56) (p1 p2 p3:Int) (k:AV→Objs→Option R) (n:Nat):afun tau B gl0 X35 (ent 24 (e24 c24) gnil) ow Tryd.f35 [.c (.list 56 ty56 p0),.c (.int .i64 p1),.c (.int .i64 p2),.c (.int .i64 p3)] [] k n=T35 B c24 p0 p1 p2 p3 (K22 k):=by kernel_rfl
theorem nt35 {R R':Type} (B:Ops) (c24:C24) (p0:L56) (p1 p2 p3:Int) (k0:(L56)→Option R') (k:R'→Option R):T35 B c24 p0 p1 p2 p3 (fun y=>ob (k0 y) k)=ob (T35 B c24 p0 p1 p2 p3 k0) k:=by
 unfold T35
 repeat' first | exact rfl | apply qab | (apply qah;intro)
def F35 (c24:C24) (p0:L56) (p1 p2 p3:Int):Option (L56):=T35 Ops.std c24 p0 p1 p2 p3 some
abbrev C35:Type:=L56→Int→Int→Int→Option (L56)
def e35 {R:Type} (c:C35):Ent R:=eG [.aC (.cL 56 ty56),.aC (.cI .i64),.aC (.cI .i64),.aC (.cI .i64)] [] fun v k=>ob (c v.1 v.2.1 v.2.2.1 v.2.2.2.1) (K22 k)
abbrev Sp35 (c:C35):Prop:=∀ (p0:L56) (p1 p2 p3:Int) (y:L56),c p0 p1 p2 p3=some y→Spec Tryd.prog gl0 35 [.c (.list 56 ty56 p0),.c (.int .i64 p1),.c (.int .i64 p2),.c (.int .i64 p3)] [] (.c (.own 500)) [(500,.row 56 ty56 y)]
theorem ek35 {R:Type} {c:C35} (hs:Sp35 c):EOk 35 (e35 (R:=R) c):=qam fun v=>hs v.1 v.2.1 v.2.2.1 v.2.2.2.1
theorem sf35 {c24:C24} (h24:Sp24 c24):Sp35 (F35 c24):=fun p0 p1 p2 p3 y hy=>by
 refine qae (qac (ek24 h24) qad) 1000000 (fn:=Tryd.f35) (by kernel_rfl) (by kernel_rfl) (X:=X35) (by kernel_rfl) ?_
 rw [eq35]
 exact (nt35 Ops.std c24 p0 p1 p2 p3 some (K22 k0)).trans (by show ob (F35 c24 p0 p1 p2 p3) _=_;rw [hy];rfl)
noncomputable def M35:C35:=F35 M24
theorem sm35:Sp35 M35:=sf35 sm24
def X9:Aux:=⟨[],[(6,.lin ([0,1,2,4,3,5,6,7,8,9,10,12,13,11,14,15,16,17,18,19,21,22,20,23,24,25,26,27,29,28,30,31,32,33,34,35,36,38,39,40,37,41,42,43,44]))]⟩
def T9 {R:Type} (B:Ops) (c14:C14) (c16:C16) (c18:C18) (c35:C35) (c24:C24) (c28:C28) (c22:C22) (c36:C36) (c32:C32) (c37:C37) (c27:C27) (c19:C19) (c20:C20) (c21:C21) (c33:C33) (c34:C34) (p0:L3) (p1 p2 p3 p4 p5 p6:Int) (k:(Bool)→Option R):Option R:=ob (c14) fun y0=>cond (!y0) (k false) (ob (c16 p0) fun y1=>ob (c18 y1) fun y2=>ob (c35 y2.2.2 p1 p2 p3) fun y3=>ob (c24 p4 2000) fun y4=>ob (c24 p5 9) fun y5=>ob (c28 y4 (IntKind.wrap .i64 (y5-4)) p6) fun y6=>ob (c14) fun y7=>cond (y7) (ob (c22 y3) fun y8=>ob (c36 y3) fun y9=>cond (y8 == y9) (ob (c32 y6.1 y6.2.1 y6.2.2.1 y3) fun y10=>ob (c37 y6.1 y6.2.1 y6.2.2.1 y3) fun y11=>cond (y10 == y11) (ob (c27 y2.2.2 y3) fun y12=>ob (c19 y2.2.2 y3) fun y13=>cond (y12 == y13) (ob (c20 y3) fun y14=>ob (c21 y3) fun y15=>cond (y14 == y15) (ob (c33 y6.1 y6.2.1 y6.2.2.1 y6.2.2.2.1 y6.2.2.2.2 y3) fun y16=>ob (c34 y6.1 y6.2.1 y6.2.2.1 y6.2.2.2.1 y6.2.2.2.2 y3) fun y17=>k (B.eq y16 y17)) (k false)) (k false)) (k false)) (k false)) (k false))
theorem eq9 {R:Type} (B:Ops) (c14:C14) (c16:C16) (c18:C18) (c35:C35) (c24:C24) (c28:C28) (c22:C22) (c36:C36) (c32:C32) (c37:C37) (c27:C27) (c19:C19) (c20:C20) (c21:C21) (c33:C33) (c34:C34) (p0:L3) (p1 p2 p3 p4 p5 p6:Int) (k:AV→Objs→Option R) (n:Nat):afun tau B gl0 X9 (ent 14 (e14 c14) (ent 16 (e16 c16) (ent 18 (e18 c18) (ent 35 (e35 c35) (ent 24 (e24 c24) (ent 28 (e28 c28) (ent 22 (e22 c22) (ent 36 (e36 c36) (ent 32 (e32 c32) (ent 37 (e37 c37) (ent 27 (e27 c27) (ent 19 (e19 c19) (ent 20 (e20 c20) (ent 21 (e21 c21) (ent 33 (e33 c33) (ent 34 (e34 c34) gnil)))))))))))))))) ow Tryd.f9 [.c (.list 3 ty3 p0),.c (.int .i64 p1),.c (.int .i64 p2),.c (.int .i64 p3),.c (.int .i64 p4),.c (.int .i64 p5),.c (.int .i64 p6)] [] k n=T9 B c14 c16 c18 c35 c24 c28 c22 c36 c32 c37 c27 c19 c20 c21 c33 c34 p0 p1 p2 p3 p4 p5 p6 (K2 k):=by kernel_rfl
theorem nt9 {R R':Type} (B:Ops) (c14:C14) (c16:C16) (c18:C18) (c35:C35) (c24:C24) (c28:C28) (c22:C22) (c36:C36) (c32:C32) (c37:C37) (c27:C27) (c19:C19) (c20:C20) (c21:C21) (c33:C33) (c34:C34) (p0:L3) (p1 p2 p3 p4 p5 p6:Int) (k0:(Bool)→Option R') (k:R'→Option R):T9 B c14 c16 c18 c35 c24 c28 c22 c36 c32 c37 c27 c19 c20 c21 c33 c34 p0 p1 p2 p3 p4 p5 p6 (fun y=>ob (k0 y) k)=ob (T9 B c14 c16 c18 c35 c24 c28 c22 c36 c32 c37 c27 c19 c20 c21 c33 c34 p0 p1 p2 p3 p4 p5 p6 k0) k:=by
 unfold T9
 repeat' first | exact rfl | apply qab | (apply qah;intro)
def F9 (c14:C14) (c16:C16) (c18:C18) (c35:C35) (c24:C24) (c28:C28) (c22:C22) (c36:C36) (c32:C32) (c37:C37) (c27:C27) (c19:C19) (c20:C20) (c21:C21) (c33:C33) (c34:C34) (p0:L3) (p1 p2 p3 p4 p5 p6:Int):Option (Bool):=T9 Ops.std c14 c16 c18 c35 c24 c28 c22 c36 c32 c37 c27 c19 c20 c21 c33 c34 p0 p1 p2 p3 p4 p5 p6 some
abbrev C9:Type:=L3→Int→Int→Int→Int→Int→Int→Option (Bool)
abbrev Sp9 (c:C9):Prop:=∀ (p0:L3) (p1 p2 p3 p4 p5 p6:Int) (y:Bool),c p0 p1 p2 p3 p4 p5 p6=some y→Spec Tryd.prog gl0 9 [.c (.list 3 ty3 p0),.c (.int .i64 p1),.c (.int .i64 p2),.c (.int .i64 p3),.c (.int .i64 p4),.c (.int .i64 p5),.c (.int .i64 p6)] [] (.c (.bool y)) []
theorem sf9 {c14:C14} {c16:C16} {c18:C18} {c35:C35} {c24:C24} {c28:C28} {c22:C22} {c36:C36} {c32:C32} {c37:C37} {c27:C27} {c19:C19} {c20:C20} {c21:C21} {c33:C33} {c34:C34} (h14:Sp14 c14) (h16:Sp16 c16) (h18:Sp18 c18) (h35:Sp35 c35) (h24:Sp24 c24) (h28:Sp28 c28) (h22:Sp22 c22) (h36:Sp36 c36) (h32:Sp32 c32) (h37:Sp37 c37) (h27:Sp27 c27) (h19:Sp19 c19) (h20:Sp20 c20) (h21:Sp21 c21) (h33:Sp33 c33) (h34:Sp34 c34):Sp9 (F9 c14 c16 c18 c35 c24 c28 c22 c36 c32 c37 c27 c19 c20 c21 c33 c34):=fun p0 p1 p2 p3 p4 p5 p6 y hy=>by
 refine qae (qac (ek14 h14) (qac (ek16 h16) (qac (ek18 h18) (qac (ek35 h35) (qac (ek24 h24) (qac (ek28 h28) (qac (ek22 h22) (qac (ek36 h36) (qac (ek32 h32) (qac (ek37 h37) (qac (ek27 h27) (qac (ek19 h19) (qac (ek20 h20) (qac (ek21 h21) (qac (ek33 h33) (qac (ek34 h34) qad)))))))))))))))) 1000000 (fn:=Tryd.f9) (by kernel_rfl) (by kernel_rfl) (X:=X9) (by kernel_rfl) ?_
 rw [eq9]
 exact (nt9 Ops.std c14 c16 c18 c35 c24 c28 c22 c36 c32 c37 c27 c19 c20 c21 c33 c34 p0 p1 p2 p3 p4 p5 p6 some (K2 k0)).trans (by show ob (F9 c14 c16 c18 c35 c24 c28 c22 c36 c32 c37 c27 c19 c20 c21 c33 c34 p0 p1 p2 p3 p4 p5 p6) _=_;rw [hy];rfl)
noncomputable def M9:C9:=F9 M14 M16 M18 M35 M24 M28 M22 M36 M32 M37 M27 M19 M20 M21 M33 M34
theorem sm9:Sp9 M9:=sf9 sm14 sm16 sm18 sm35 sm24 sm28 sm22 sm36 sm32 sm37 sm27 sm19 sm20 sm21 sm33 sm34
end Go.Proofs.YtkmpkebaloejhaaDoor.Av
