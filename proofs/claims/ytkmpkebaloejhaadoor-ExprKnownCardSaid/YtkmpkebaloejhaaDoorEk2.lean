/- Twins of functions,printed by gen.py. Conditions: none. -/
import Derived.Test.YtkmpkebaloejhaaDoorEk1
import Derived.KernelRfl
set_option linter.unusedSimpArgs false
set_option linter.unusedVariables false
set_option maxRecDepth 100000
set_option maxHeartbeats 8000000
namespace Go.Proofs.YtkmpkebaloejhaaDoor.Av
open Go
def X109:Aux:=⟨[(2,([2,3,4,5,6]++rg 9 10))],[]⟩
inductive S109 where
 | l0 (v1 v2:Int) (v3:LB)
def T109 {R:Type} (B:Ops) (c110:C110) (p0:L108) (p1:LB) (again:S109→Option R) (k:(Int×LB)→Option R):Option S109→Option R | none=>again (.l0 (↑p0.length) 0 p1) | some (.l0 v1 v2 v3)=>cond (B.lt v2 v1) (cond (B.inb v2 p0.length) (ob (c110 (p0.getD v2.toNat ty108.dflt).1 ((p0.getD v2.toNat ty108.dflt).2).1 (((p0.getD v2.toNat ty108.dflt).2).2).1 (((p0.getD v2.toNat ty108.dflt).2).2).2 v3) fun y0=>cond y0.1 (k (v2,y0.2)) (again (.l0 v1 (IntKind.wrap .i64 (v2+1)) y0.2))) none) (k (-1,v3))
def E109 (p0:L108) (p1:LB):S109→List AV×Objs
 | .l0 v1 v2 v3=>(mk 19 [(0,.c (.list 108 ty108 p0)),(1,.fn 110 [.ptr 2500 0]),(7,.c (.int .i64 v1)),(8,.c (.int .i64 v2))],[(2500,.box 9 [.str v3])])
def I109:S109→Nat
 | .l0 _ _ _=>0
abbrev K17 {R:Type} (k:AV→Objs→Option R) (y:(Int×LB)):Option R:=k (.c (.int .i64 y.1)) [(2500,.box 9 [.str y.2])]
noncomputable abbrev A109 {R:Type} (B:Ops) (c110:C110) (p0:L108) (p1:LB) (k:AV→Objs→Option R) (s:S109) (n:Nat):Option R:=aloop tau B gl0 X109 (ent 110 (e110 c110) gnil) ow [2500] Tryd.f109 k (I109 s) (E109 p0 p1 s) n
theorem eq109 {R:Type} (B:Ops) (c110:C110) (p0:L108) (p1:LB) (k:AV→Objs→Option R) (n:Nat):afun tau B gl0 X109 (ent 110 (e110 c110) gnil) ow Tryd.f109 [.c (.list 108 ty108 p0),.fn 110 [.ptr 2500 0]] [(2500,.box 9 [.str p1])] k n=T109 B c110 p0 p1 (fun s=>A109 B c110 p0 p1 k s n) (K17 k) none:=by kernel_rfl
theorem el109 {R:Type} (B:Ops) (c110:C110) (p0:L108) (p1:LB) (k:AV→Objs→Option R) (n:Nat):∀ s,A109 B c110 p0 p1 k s (n+1)=T109 B c110 p0 p1 (fun s=>A109 B c110 p0 p1 k s n) (K17 k) (some s):=by
 intro s
 cases s<;>kernel_rfl
theorem nt109 {R R':Type} (B:Ops) (c110:C110) (p0:L108) (p1:LB) (again:S109→Option R) (again':S109→Option R') (k0:(Int×LB)→Option R') (k:R'→Option R) (h:∀ s,again s=ob (again' s) k):∀ s,T109 B c110 p0 p1 again (fun y=>ob (k0 y) k) s=ob (T109 B c110 p0 p1 again' k0 s) k:=by
 rintro (_ | x)
 all_goals try cases x
 all_goals (unfold T109;repeat' first | exact rfl | exact h _ | apply qab | (apply qaf;intro))
def R109 (c110:C110) (p0:L108) (p1:LB):Nat→S109→Option (Int×LB)
 | 0,_=>none
 | n+1,s=>T109 Ops.std c110 p0 p1 (R109 c110 p0 p1 n) some (some s)
theorem rr109 {R:Type} (c110:C110) (p0:L108) (p1:LB) (k:AV→Objs→Option R):∀ (n:Nat) (s:S109),A109 Ops.std c110 p0 p1 k s n=ob (R109 c110 p0 p1 n s) (K17 k)
 | 0,s=>by cases s<;>rfl
 | n+1,s=>by rw [el109];exact nt109 Ops.std c110 p0 p1 _ _ some (K17 k) (rr109 c110 p0 p1 k n) (some s)
def F109 (c110:C110) (p0:L108) (p1:LB):Option (Int×LB):=T109 Ops.std c110 p0 p1 (R109 c110 p0 p1 1000000) some none
abbrev C109:Type:=L108→LB→Option (Int×LB)
def e109 {R:Type} (c:C109):Ent R:=eG [.aC (.cL 108 ty108),.aF 110 [.cP 2500]] [.oB 2500 9 [.cS]] fun v k=>ob (c v.1 v.2.1) (K17 k)
abbrev Sp109 (c:C109):Prop:=∀ (p0:L108) (p1:LB) (y:Int×LB),c p0 p1=some y→Spec Tryd.prog gl0 109 [.c (.list 108 ty108 p0),.fn 110 [.ptr 2500 0]] [(2500,.box 9 [.str p1])] (.c (.int .i64 y.1)) [(2500,.box 9 [.str y.2])]
theorem ek109 {R:Type} {c:C109} (hs:Sp109 c):EOk 109 (e109 (R:=R) c):=qaj fun v=>hs v.1 v.2.1
theorem sf109 {c110:C110} (h110:Sp110 c110):Sp109 (F109 c110):=fun p0 p1 y hy=>by
 refine qad (qaa (ek110 h110) qac) 1000000 (fn:=Tryd.f109) (by kernel_rfl) (by kernel_rfl) (X:=X109) (by kernel_rfl) ?_
 rw [eq109]
 exact (nt109 Ops.std c110 p0 p1 _ _ some (K17 k0) (rr109 c110 p0 p1 k0 1000000) none).trans (by show ob (F109 c110 p0 p1) _=_;rw [hy];rfl)
noncomputable def M109:C109:=F109 M110
theorem sm109:Sp109 M109:=sf109 sm110
def X68:Aux:=⟨[],[]⟩
def T68 {R:Type} (B:Ops) (c110:C110) (c109:C109) (p0:L108) (p1:L73) (p2:L193) (p3:LB) (k:(Int)→Option R):Option R:=ob (c109 p0 p3) fun y0=>k y0.1
theorem eq68 {R:Type} (B:Ops) (c110:C110) (c109:C109) (p0:L108) (p1:L73) (p2:L193) (p3:LB) (k:AV→Objs→Option R) (n:Nat):afun tau B gl0 X68 (ent 110 (e110 c110) (ent 109 (e109 c109) gnil)) ow Tryd.f68 [.agg [.list 108 ty108 p0,.list 73 ty73 p1,.list 193 ty193 p2],.c (.str p3)] [] k n=T68 B c110 c109 p0 p1 p2 p3 (K1 k):=by kernel_rfl
theorem nt68 {R R':Type} (B:Ops) (c110:C110) (c109:C109) (p0:L108) (p1:L73) (p2:L193) (p3:LB) (k0:(Int)→Option R') (k:R'→Option R):T68 B c110 c109 p0 p1 p2 p3 (fun y=>ob (k0 y) k)=ob (T68 B c110 c109 p0 p1 p2 p3 k0) k:=by
 unfold T68
 repeat' first | exact rfl | apply qab | (apply qaf;intro)
def F68 (c110:C110) (c109:C109) (p0:L108) (p1:L73) (p2:L193) (p3:LB):Option (Int):=T68 Ops.std c110 c109 p0 p1 p2 p3 some
abbrev C68:Type:=L108→L73→L193→LB→Option (Int)
def e68 {R:Type} (c:C68):Ent R:=eG [.aG [.cL 108 ty108,.cL 73 ty73,.cL 193 ty193],.aC .cS] [] fun v k=>ob (c v.1 v.2.1 v.2.2.1 v.2.2.2.1) (K1 k)
abbrev Sp68 (c:C68):Prop:=∀ (p0:L108) (p1:L73) (p2:L193) (p3:LB) (y:Int),c p0 p1 p2 p3=some y→Spec Tryd.prog gl0 68 [.agg [.list 108 ty108 p0,.list 73 ty73 p1,.list 193 ty193 p2],.c (.str p3)] [] (.c (.int .i64 y)) []
theorem ek68 {R:Type} {c:C68} (hs:Sp68 c):EOk 68 (e68 (R:=R) c):=qaj fun v=>hs v.1 v.2.1 v.2.2.1 v.2.2.2.1
theorem sf68 {c110:C110} {c109:C109} (h110:Sp110 c110) (h109:Sp109 c109):Sp68 (F68 c110 c109):=fun p0 p1 p2 p3 y hy=>by
 refine qad (qaa (ek110 h110) (qaa (ek109 h109) qac)) 1000000 (fn:=Tryd.f68) (by kernel_rfl) (by kernel_rfl) (X:=X68) (by kernel_rfl) ?_
 rw [eq68]
 exact (nt68 Ops.std c110 c109 p0 p1 p2 p3 some (K1 k0)).trans (by show ob (F68 c110 c109 p0 p1 p2 p3) _=_;rw [hy];rfl)
noncomputable def M68:C68:=F68 M110 M109
theorem sm68:Sp68 M68:=sf68 sm110 sm109
def X112:Aux:=⟨[],[]⟩
def T112 {R:Type} (B:Ops) (p0:LB) (p1:L9) (p2:LB) (k:(Bool×LB)→Option R):Option R:=k (p0 == p2,p2)
theorem eq112 {R:Type} (B:Ops) (p0:LB) (p1:L9) (p2:LB) (k:AV→Objs→Option R) (n:Nat):afun tau B gl0 X112 gnil ow Tryd.f112 [.agg [.str p0,.list 9 ty9 p1],.c (.ptr 1 0)] [(1,.box 9 [.str p2])] k n=T112 B p0 p1 p2 (K16 k):=by kernel_rfl
theorem nt112 {R R':Type} (B:Ops) (p0:LB) (p1:L9) (p2:LB) (k0:(Bool×LB)→Option R') (k:R'→Option R):T112 B p0 p1 p2 (fun y=>ob (k0 y) k)=ob (T112 B p0 p1 p2 k0) k:=by
 unfold T112
 repeat' first | exact rfl | apply qab | (apply qaf;intro)
def F112 (p0:LB) (p1:L9) (p2:LB):Option (Bool×LB):=T112 Ops.std p0 p1 p2 some
abbrev C112:Type:=LB→L9→LB→Option (Bool×LB)
def e112 {R:Type} (c:C112):Ent R:=eG [.aG [.cS,.cL 9 ty9],.aC (.cP 1)] [.oB 1 9 [.cS]] fun v k=>ob (c v.1 v.2.1 v.2.2.1) (K16 k)
abbrev Sp112 (c:C112):Prop:=∀ (p0:LB) (p1:L9) (p2:LB) (y:Bool×LB),c p0 p1 p2=some y→Spec Tryd.prog gl0 112 [.agg [.str p0,.list 9 ty9 p1],.c (.ptr 1 0)] [(1,.box 9 [.str p2])] (.c (.bool y.1)) [(1,.box 9 [.str y.2])]
theorem ek112 {R:Type} {c:C112} (hs:Sp112 c):EOk 112 (e112 (R:=R) c):=qaj fun v=>hs v.1 v.2.1 v.2.2.1
theorem sf112:Sp112 (F112):=fun p0 p1 p2 y hy=>by
 refine qad qac 1000000 (fn:=Tryd.f112) (by kernel_rfl) (by kernel_rfl) (X:=X112) (by kernel_rfl) ?_
 rw [eq112]
 exact (nt112 Ops.std p0 p1 p2 some (K16 k0)).trans (by show ob (F112 p0 p1 p2) _=_;rw [hy];rfl)
noncomputable def M112:C112:=F112
theorem sm112:Sp112 M112:=sf112
def X111:Aux:=⟨[(2,([2,3,4,5,6]++rg 9 10))],[]⟩
inductive S111 where
 | l0 (v1 v2:Int) (v3:LB)
def T111 {R:Type} (B:Ops) (c112:C112) (p0:L73) (p1:LB) (again:S111→Option R) (k:(Int×LB)→Option R):Option S111→Option R | none=>again (.l0 (↑p0.length) 0 p1) | some (.l0 v1 v2 v3)=>cond (B.lt v2 v1) (cond (B.inb v2 p0.length) (ob (c112 (p0.getD v2.toNat ty73.dflt).1 (p0.getD v2.toNat ty73.dflt).2 v3) fun y0=>cond y0.1 (k (v2,y0.2)) (again (.l0 v1 (IntKind.wrap .i64 (v2+1)) y0.2))) none) (k (-1,v3))
def E111 (p0:L73) (p1:LB):S111→List AV×Objs
 | .l0 v1 v2 v3=>(mk 19 [(0,.c (.list 73 ty73 p0)),(1,.fn 112 [.ptr 2500 0]),(7,.c (.int .i64 v1)),(8,.c (.int .i64 v2))],[(2500,.box 9 [.str v3])])
def I111:S111→Nat
 | .l0 _ _ _=>0
noncomputable abbrev A111 {R:Type} (B:Ops) (c112:C112) (p0:L73) (p1:LB) (k:AV→Objs→Option R) (s:S111) (n:Nat):Option R:=aloop tau B gl0 X111 (ent 112 (e112 c112) gnil) ow [2500] Tryd.f111 k (I111 s) (E111 p0 p1 s) n
theorem eq111 {R:Type} (B:Ops) (c112:C112) (p0:L73) (p1:LB) (k:AV→Objs→Option R) (n:Nat):afun tau B gl0 X111 (ent 112 (e112 c112) gnil) ow Tryd.f111 [.c (.list 73 ty73 p0),.fn 112 [.ptr 2500 0]] [(2500,.box 9 [.str p1])] k n=T111 B c112 p0 p1 (fun s=>A111 B c112 p0 p1 k s n) (K17 k) none:=by kernel_rfl
theorem el111 {R:Type} (B:Ops) (c112:C112) (p0:L73) (p1:LB) (k:AV→Objs→Option R) (n:Nat):∀ s,A111 B c112 p0 p1 k s (n+1)=T111 B c112 p0 p1 (fun s=>A111 B c112 p0 p1 k s n) (K17 k) (some s):=by
 intro s
 cases s<;>kernel_rfl
theorem nt111 {R R':Type} (B:Ops) (c112:C112) (p0:L73) (p1:LB) (again:S111→Option R) (again':S111→Option R') (k0:(Int×LB)→Option R') (k:R'→Option R) (h:∀ s,again s=ob (again' s) k):∀ s,T111 B c112 p0 p1 again (fun y=>ob (k0 y) k) s=ob (T111 B c112 p0 p1 again' k0 s) k:=by
 rintro (_ | x)
 all_goals try cases x
 all_goals (unfold T111;repeat' first | exact rfl | exact h _ | apply qab | (apply qaf;intro))
def R111 (c112:C112) (p0:L73) (p1:LB):Nat→S111→Option (Int×LB)
 | 0,_=>none
 | n+1,s=>T111 Ops.std c112 p0 p1 (R111 c112 p0 p1 n) some (some s)
theorem rr111 {R:Type} (c112:C112) (p0:L73) (p1:LB) (k:AV→Objs→Option R):∀ (n:Nat) (s:S111),A111 Ops.std c112 p0 p1 k s n=ob (R111 c112 p0 p1 n s) (K17 k)
 | 0,s=>by cases s<;>rfl
 | n+1,s=>by rw [el111];exact nt111 Ops.std c112 p0 p1 _ _ some (K17 k) (rr111 c112 p0 p1 k n) (some s)
def F111 (c112:C112) (p0:L73) (p1:LB):Option (Int×LB):=T111 Ops.std c112 p0 p1 (R111 c112 p0 p1 1000000) some none
abbrev C111:Type:=L73→LB→Option (Int×LB)
def e111 {R:Type} (c:C111):Ent R:=eG [.aC (.cL 73 ty73),.aF 112 [.cP 2500]] [.oB 2500 9 [.cS]] fun v k=>ob (c v.1 v.2.1) (K17 k)
abbrev Sp111 (c:C111):Prop:=∀ (p0:L73) (p1:LB) (y:Int×LB),c p0 p1=some y→Spec Tryd.prog gl0 111 [.c (.list 73 ty73 p0),.fn 112 [.ptr 2500 0]] [(2500,.box 9 [.str p1])] (.c (.int .i64 y.1)) [(2500,.box 9 [.str y.2])]
theorem ek111 {R:Type} {c:C111} (hs:Sp111 c):EOk 111 (e111 (R:=R) c):=qaj fun v=>hs v.1 v.2.1
theorem sf111 {c112:C112} (h112:Sp112 c112):Sp111 (F111 c112):=fun p0 p1 y hy=>by
 refine qad (qaa (ek112 h112) qac) 1000000 (fn:=Tryd.f111) (by kernel_rfl) (by kernel_rfl) (X:=X111) (by kernel_rfl) ?_
 rw [eq111]
 exact (nt111 Ops.std c112 p0 p1 _ _ some (K17 k0) (rr111 c112 p0 p1 k0 1000000) none).trans (by show ob (F111 c112 p0 p1) _=_;rw [hy];rfl)
noncomputable def M111:C111:=F111 M112
theorem sm111:Sp111 M111:=sf111 sm112
def X113:Aux:=⟨[(2,([2,3,4,5,6]++rg 9 10))],[]⟩
inductive S113 where
 | l0 (v2 v3:Int)
def T113 {R:Type} (B:Ops) (p0:L9) (p1:LB) (again:S113→Option R) (k:(Int)→Option R):Option S113→Option R | none=>again (.l0 (↑p0.length) 0) | some (.l0 v2 v3)=>cond (B.lt v3 v2) (cond (B.inb v3 p0.length) (cond (p1 == p0.getD v3.toNat ty9.dflt) (k v3) (again (.l0 v2 (IntKind.wrap .i64 (v3+1))))) none) (k (-1))
def E113 (p0:L9) (p1:LB):S113→List AV×Objs
 | .l0 v2 v3=>(mk 19 [(0,.c (.list 9 ty9 p0)),(1,.c (.str p1)),(7,.c (.int .i64 v2)),(8,.c (.int .i64 v3))],[])
def I113:S113→Nat
 | .l0 _ _=>0
noncomputable abbrev A113 {R:Type} (B:Ops) (p0:L9) (p1:LB) (k:AV→Objs→Option R) (s:S113) (n:Nat):Option R:=aloop tau B gl0 X113 gnil ow [] Tryd.f113 k (I113 s) (E113 p0 p1 s) n
theorem eq113 {R:Type} (B:Ops) (p0:L9) (p1:LB) (k:AV→Objs→Option R) (n:Nat):afun tau B gl0 X113 gnil ow Tryd.f113 [.c (.list 9 ty9 p0),.c (.str p1)] [] k n=T113 B p0 p1 (fun s=>A113 B p0 p1 k s n) (K1 k) none:=by kernel_rfl
theorem el113 {R:Type} (B:Ops) (p0:L9) (p1:LB) (k:AV→Objs→Option R) (n:Nat):∀ s,A113 B p0 p1 k s (n+1)=T113 B p0 p1 (fun s=>A113 B p0 p1 k s n) (K1 k) (some s):=by
 intro s
 cases s<;>kernel_rfl
theorem nt113 {R R':Type} (B:Ops) (p0:L9) (p1:LB) (again:S113→Option R) (again':S113→Option R') (k0:(Int)→Option R') (k:R'→Option R) (h:∀ s,again s=ob (again' s) k):∀ s,T113 B p0 p1 again (fun y=>ob (k0 y) k) s=ob (T113 B p0 p1 again' k0 s) k:=by
 rintro (_ | x)
 all_goals try cases x
 all_goals (unfold T113;repeat' first | exact rfl | exact h _ | apply qab | (apply qaf;intro))
def R113 (p0:L9) (p1:LB):Nat→S113→Option (Int)
 | 0,_=>none
 | n+1,s=>T113 Ops.std p0 p1 (R113 p0 p1 n) some (some s)
theorem rr113 {R:Type} (p0:L9) (p1:LB) (k:AV→Objs→Option R):∀ (n:Nat) (s:S113),A113 Ops.std p0 p1 k s n=ob (R113 p0 p1 n s) (K1 k)
 | 0,s=>by cases s<;>rfl
 | n+1,s=>by rw [el113];exact nt113 Ops.std p0 p1 _ _ some (K1 k) (rr113 p0 p1 k n) (some s)
def F113 (p0:L9) (p1:LB):Option (Int):=T113 Ops.std p0 p1 (R113 p0 p1 1000000) some none
abbrev C113:Type:=L9→LB→Option (Int)
def e113 {R:Type} (c:C113):Ent R:=eG [.aC (.cL 9 ty9),.aC .cS] [] fun v k=>ob (c v.1 v.2.1) (K1 k)
abbrev Sp113 (c:C113):Prop:=∀ (p0:L9) (p1:LB) (y:Int),c p0 p1=some y→Spec Tryd.prog gl0 113 [.c (.list 9 ty9 p0),.c (.str p1)] [] (.c (.int .i64 y)) []
theorem ek113 {R:Type} {c:C113} (hs:Sp113 c):EOk 113 (e113 (R:=R) c):=qaj fun v=>hs v.1 v.2.1
theorem sf113:Sp113 (F113):=fun p0 p1 y hy=>by
 refine qad qac 1000000 (fn:=Tryd.f113) (by kernel_rfl) (by kernel_rfl) (X:=X113) (by kernel_rfl) ?_
 rw [eq113]
 exact (nt113 Ops.std p0 p1 _ _ some (K1 k0) (rr113 p0 p1 k0 1000000) none).trans (by show ob (F113 p0 p1) _=_;rw [hy];rfl)
noncomputable def M113:C113:=F113
theorem sm113:Sp113 M113:=sf113
def X69:Aux:=⟨[],[]⟩
def T69 {R:Type} (B:Ops) (c112:C112) (c111:C111) (c113:C113) (p0:L108) (p1:L73) (p2:L193) (p3 p4:LB) (k:(Int×Int)→Option R):Option R:=ob (c111 p1 p3) fun y0=>cond (B.lt y0.1 0) (k (-1,-1)) (cond (B.inb y0.1 p1.length) (ob (c113 (p1.getD (Int.toNat y0.1) ty73.dflt).2 p4) fun y1=>k (y0.1,y1)) none)
theorem eq69 {R:Type} (B:Ops) (c112:C112) (c111:C111) (c113:C113) (p0:L108) (p1:L73) (p2:L193) (p3 p4:LB) (k:AV→Objs→Option R) (n:Nat):afun tau B gl0 X69 (ent 112 (e112 c112) (ent 111 (e111 c111) (ent 113 (e113 c113) gnil))) ow Tryd.f69 [.agg [.list 108 ty108 p0,.list 73 ty73 p1,.list 193 ty193 p2],.c (.str p3),.c (.str p4)] [] k n=T69 B c112 c111 c113 p0 p1 p2 p3 p4 (K12 k):=by kernel_rfl
theorem nt69 {R R':Type} (B:Ops) (c112:C112) (c111:C111) (c113:C113) (p0:L108) (p1:L73) (p2:L193) (p3 p4:LB) (k0:(Int×Int)→Option R') (k:R'→Option R):T69 B c112 c111 c113 p0 p1 p2 p3 p4 (fun y=>ob (k0 y) k)=ob (T69 B c112 c111 c113 p0 p1 p2 p3 p4 k0) k:=by
 unfold T69
 repeat' first | exact rfl | apply qab | (apply qaf;intro)
def F69 (c112:C112) (c111:C111) (c113:C113) (p0:L108) (p1:L73) (p2:L193) (p3 p4:LB):Option (Int×Int):=T69 Ops.std c112 c111 c113 p0 p1 p2 p3 p4 some
abbrev C69:Type:=L108→L73→L193→LB→LB→Option (Int×Int)
def e69 {R:Type} (c:C69):Ent R:=eG [.aG [.cL 108 ty108,.cL 73 ty73,.cL 193 ty193],.aC .cS,.aC .cS] [] fun v k=>ob (c v.1 v.2.1 v.2.2.1 v.2.2.2.1 v.2.2.2.2.1) (K12 k)
abbrev Sp69 (c:C69):Prop:=∀ (p0:L108) (p1:L73) (p2:L193) (p3 p4:LB) (y:Int×Int),c p0 p1 p2 p3 p4=some y→Spec Tryd.prog gl0 69 [.agg [.list 108 ty108 p0,.list 73 ty73 p1,.list 193 ty193 p2],.c (.str p3),.c (.str p4)] [] (.tup [(false,[.int .i64 y.1]),(false,[.int .i64 y.2])]) []
theorem ek69 {R:Type} {c:C69} (hs:Sp69 c):EOk 69 (e69 (R:=R) c):=qaj fun v=>hs v.1 v.2.1 v.2.2.1 v.2.2.2.1 v.2.2.2.2.1
theorem sf69 {c112:C112} {c111:C111} {c113:C113} (h112:Sp112 c112) (h111:Sp111 c111) (h113:Sp113 c113):Sp69 (F69 c112 c111 c113):=fun p0 p1 p2 p3 p4 y hy=>by
 refine qad (qaa (ek112 h112) (qaa (ek111 h111) (qaa (ek113 h113) qac))) 1000000 (fn:=Tryd.f69) (by kernel_rfl) (by kernel_rfl) (X:=X69) (by kernel_rfl) ?_
 rw [eq69]
 exact (nt69 Ops.std c112 c111 c113 p0 p1 p2 p3 p4 some (K12 k0)).trans (by show ob (F69 c112 c111 c113 p0 p1 p2 p3 p4) _=_;rw [hy];rfl)
noncomputable def M69:C69:=F69 M112 M111 M113
theorem sm69:Sp69 M69:=sf69 sm112 sm111 sm113
def X32:Aux:=⟨[(2,([0,3,4,5,6,7,8]++rg 12 28))],[]⟩
inductive S32 where
 | l0 (v2 v3:Int)
def T32 {R:Type} (B:Ops) (c68:C68) (c69:C69) (c22:C22) (p0:L108) (p1:L73) (p2:L193) (p3:L56) (again:S32→Option R) (k:(Bool)→Option R):Option S32→Option R | none=>again (.l0 (↑p3.length) 0) | some (.l0 v2 v3)=>cond (B.lt v3 v2) (cond (B.inb v3 p3.length) (cond (B.eq (p3.getD v3.toNat ty56.dflt).1 2) (ob (c68 p0 p1 p2 (((p3.getD v3.toNat ty56.dflt).2).2).1) fun y0=>cond (B.lt y0 0) (k false) (again (.l0 v2 (IntKind.wrap .i64 (v3+1))))) (cond (B.eq (p3.getD v3.toNat ty56.dflt).1 3) (ob (c69 p0 p1 p2 (((p3.getD v3.toNat ty56.dflt).2).2).1 (((p3.getD v3.toNat ty56.dflt).2).2).2) fun y0=>cond (B.lt y0.2 0) (k false) (again (.l0 v2 (IntKind.wrap .i64 (v3+1))))) (again (.l0 v2 (IntKind.wrap .i64 (v3+1)))))) none) (ob (c22 p3) fun y0=>k y0)
def E32 (p0:L108) (p1:L73) (p2:L193) (p3:L56):S32→List AV×Objs
 | .l0 v2 v3=>(mk 40 [(1,.c (.list 56 ty56 p3)),(2,.c (.ptr 2 0)),(9,.c (.list 56 ty56 p3)),(10,.c (.int .i64 v2)),(11,.c (.int .i64 v3))],[(2,.box 46 [.list 108 ty108 p0,.list 73 ty73 p1,.list 193 ty193 p2])])
def I32:S32→Nat
 | .l0 _ _=>0
noncomputable abbrev A32 {R:Type} (B:Ops) (c68:C68) (c69:C69) (c22:C22) (p0:L108) (p1:L73) (p2:L193) (p3:L56) (k:AV→Objs→Option R) (s:S32) (n:Nat):Option R:=aloop tau B gl0 X32 (ent 68 (e68 c68) (ent 69 (e69 c69) (ent 22 (e22 c22) gnil))) ow [] Tryd.f32 k (I32 s) (E32 p0 p1 p2 p3 s) n
theorem eq32 {R:Type} (B:Ops) (c68:C68) (c69:C69) (c22:C22) (p0:L108) (p1:L73) (p2:L193) (p3:L56) (k:AV→Objs→Option R) (n:Nat):afun tau B gl0 X32 (ent 68 (e68 c68) (ent 69 (e69 c69) (ent 22 (e22 c22) gnil))) ow Tryd.f32 [.agg [.list 108 ty108 p0,.list 73 ty73 p1,.list 193 ty193 p2],.c (.list 56 ty56 p3)] [] k n=T32 B c68 c69 c22 p0 p1 p2 p3 (fun s=>A32 B c68 c69 c22 p0 p1 p2 p3 k s n) (K2 k) none:=by kernel_rfl
theorem el32 {R:Type} (B:Ops) (c68:C68) (c69:C69) (c22:C22) (p0:L108) (p1:L73) (p2:L193) (p3:L56) (k:AV→Objs→Option R) (n:Nat):∀ s,A32 B c68 c69 c22 p0 p1 p2 p3 k s (n+1)=T32 B c68 c69 c22 p0 p1 p2 p3 (fun s=>A32 B c68 c69 c22 p0 p1 p2 p3 k s n) (K2 k) (some s):=by
 intro s
 cases s<;>kernel_rfl
theorem nt32 {R R':Type} (B:Ops) (c68:C68) (c69:C69) (c22:C22) (p0:L108) (p1:L73) (p2:L193) (p3:L56) (again:S32→Option R) (again':S32→Option R') (k0:(Bool)→Option R') (k:R'→Option R) (h:∀ s,again s=ob (again' s) k):∀ s,T32 B c68 c69 c22 p0 p1 p2 p3 again (fun y=>ob (k0 y) k) s=ob (T32 B c68 c69 c22 p0 p1 p2 p3 again' k0 s) k:=by
 rintro (_ | x)
 all_goals try cases x
 all_goals (unfold T32;repeat' first | exact rfl | exact h _ | apply qab | (apply qaf;intro))
def R32 (c68:C68) (c69:C69) (c22:C22) (p0:L108) (p1:L73) (p2:L193) (p3:L56):Nat→S32→Option (Bool)
 | 0,_=>none
 | n+1,s=>T32 Ops.std c68 c69 c22 p0 p1 p2 p3 (R32 c68 c69 c22 p0 p1 p2 p3 n) some (some s)
theorem rr32 {R:Type} (c68:C68) (c69:C69) (c22:C22) (p0:L108) (p1:L73) (p2:L193) (p3:L56) (k:AV→Objs→Option R):∀ (n:Nat) (s:S32),A32 Ops.std c68 c69 c22 p0 p1 p2 p3 k s n=ob (R32 c68 c69 c22 p0 p1 p2 p3 n s) (K2 k)
 | 0,s=>by cases s<;>rfl
 | n+1,s=>by rw [el32];exact nt32 Ops.std c68 c69 c22 p0 p1 p2 p3 _ _ some (K2 k) (rr32 c68 c69 c22 p0 p1 p2 p3 k n) (some s)
def F32 (c68:C68) (c69:C69) (c22:C22) (p0:L108) (p1:L73) (p2:L193) (p3:L56):Option (Bool):=T32 Ops.std c68 c69 c22 p0 p1 p2 p3 (R32 c68 c69 c22 p0 p1 p2 p3 1000000) some none
abbrev C32:Type:=L108→L73→L193→L56→Option (Bool)
def e32 {R:Type} (c:C32):Ent R:=eG [.aG [.cL 108 ty108,.cL 73 ty73,.cL 193 ty193],.aC (.cL 56 ty56)] [] fun v k=>ob (c v.1 v.2.1 v.2.2.1 v.2.2.2.1) (K2 k)
abbrev Sp32 (c:C32):Prop:=∀ (p0:L108) (p1:L73) (p2:L193) (p3:L56) (y:Bool),c p0 p1 p2 p3=some y→Spec Tryd.prog gl0 32 [.agg [.list 108 ty108 p0,.list 73 ty73 p1,.list 193 ty193 p2],.c (.list 56 ty56 p3)] [] (.c (.bool y)) []
theorem ek32 {R:Type} {c:C32} (hs:Sp32 c):EOk 32 (e32 (R:=R) c):=qaj fun v=>hs v.1 v.2.1 v.2.2.1 v.2.2.2.1
theorem sf32 {c68:C68} {c69:C69} {c22:C22} (h68:Sp68 c68) (h69:Sp69 c69) (h22:Sp22 c22):Sp32 (F32 c68 c69 c22):=fun p0 p1 p2 p3 y hy=>by
 refine qad (qaa (ek68 h68) (qaa (ek69 h69) (qaa (ek22 h22) qac))) 1000000 (fn:=Tryd.f32) (by kernel_rfl) (by kernel_rfl) (X:=X32) (by kernel_rfl) ?_
 rw [eq32]
 exact (nt32 Ops.std c68 c69 c22 p0 p1 p2 p3 _ _ some (K2 k0) (rr32 c68 c69 c22 p0 p1 p2 p3 k0 1000000) none).trans (by show ob (F32 c68 c69 c22 p0 p1 p2 p3) _=_;rw [hy];rfl)
noncomputable def M32:C32:=F32 M68 M69 M22
theorem sm32:Sp32 M32:=sf32 sm68 sm69 sm22
def X70:Aux:=⟨[],[]⟩
def T70 {R:Type} (B:Ops) (p0:Int) (k:(Int)→Option R):Option R:=k (bif true then bif B.lt (-99999) (bif false then bif B.lt p0 99999 then 99999 else p0 else bif B.lt 99999 p0 then 99999 else p0) then bif false then bif B.lt p0 99999 then 99999 else p0 else bif B.lt 99999 p0 then 99999 else p0 else -99999 else bif B.lt (bif false then bif B.lt p0 99999 then 99999 else p0 else bif B.lt 99999 p0 then 99999 else p0) (-99999) then bif false then bif B.lt p0 99999 then 99999 else p0 else bif B.lt 99999 p0 then 99999 else p0 else -99999)
theorem eq70 {R:Type} (B:Ops) (p0:Int) (k:AV→Objs→Option R) (n:Nat):afun tau B gl0 X70 gnil ow Tryd.f70 [.c (.int .i64 p0)] [] k n=T70 B p0 (K1 k):=by kernel_rfl
theorem nt70 {R R':Type} (B:Ops) (p0:Int) (k0:(Int)→Option R') (k:R'→Option R):T70 B p0 (fun y=>ob (k0 y) k)=ob (T70 B p0 k0) k:=by
 unfold T70
 repeat' first | exact rfl | apply qab | (apply qaf;intro)
def F70 (p0:Int):Option (Int):=T70 Ops.std p0 some
abbrev C70:Type:=Int→Option (Int)
def e70 {R:Type} (c:C70):Ent R:=eG [.aC (.cI .i64)] [] fun v k=>ob (c v.1) (K1 k)
abbrev Sp70 (c:C70):Prop:=∀ (p0 y:Int),c p0=some y→Spec Tryd.prog gl0 70 [.c (.int .i64 p0)] [] (.c (.int .i64 y)) []
theorem ek70 {R:Type} {c:C70} (hs:Sp70 c):EOk 70 (e70 (R:=R) c):=qaj fun v=>hs v.1
theorem sf70:Sp70 (F70):=fun p0 y hy=>by
 refine qad qac 1000000 (fn:=Tryd.f70) (by kernel_rfl) (by kernel_rfl) (X:=X70) (by kernel_rfl) ?_
 rw [eq70]
 exact (nt70 Ops.std p0 some (K1 k0)).trans (by show ob (F70 p0) _=_;rw [hy];rfl)
noncomputable def M70:C70:=F70
theorem sm70:Sp70 M70:=sf70
def X71:Aux:=⟨[],[]⟩
def T71 {R:Type} (B:Ops) (p0:Bool) (k:(Int)→Option R):Option R:=cond (p0) (k 1) (k 0)
theorem eq71 {R:Type} (B:Ops) (p0:Bool) (k:AV→Objs→Option R) (n:Nat):afun tau B gl0 X71 gnil ow Tryd.f71 [.c (.bool p0)] [] k n=T71 B p0 (K1 k):=by kernel_rfl
theorem nt71 {R R':Type} (B:Ops) (p0:Bool) (k0:(Int)→Option R') (k:R'→Option R):T71 B p0 (fun y=>ob (k0 y) k)=ob (T71 B p0 k0) k:=by
 unfold T71
 repeat' first | exact rfl | apply qab | (apply qaf;intro)
def F71 (p0:Bool):Option (Int):=T71 Ops.std p0 some
abbrev C71:Type:=Bool→Option (Int)
def e71 {R:Type} (c:C71):Ent R:=eG [.aC .cB] [] fun v k=>ob (c v.1) (K1 k)
abbrev Sp71 (c:C71):Prop:=∀ (p0:Bool) (y:Int),c p0=some y→Spec Tryd.prog gl0 71 [.c (.bool p0)] [] (.c (.int .i64 y)) []
theorem ek71 {R:Type} {c:C71} (hs:Sp71 c):EOk 71 (e71 (R:=R) c):=qaj fun v=>hs v.1
theorem sf71:Sp71 (F71):=fun p0 y hy=>by
 refine qad qac 1000000 (fn:=Tryd.f71) (by kernel_rfl) (by kernel_rfl) (X:=X71) (by kernel_rfl) ?_
 rw [eq71]
 exact (nt71 Ops.std p0 some (K1 k0)).trans (by show ob (F71 p0) _=_;rw [hy];rfl)
noncomputable def M71:C71:=F71
theorem sm71:Sp71 M71:=sf71
def X72:Aux:=⟨[],[]⟩
def T72 {R:Type} (B:Ops) (c70:C70) (c71:C71) (p0 p1 p2:Int) (k:(Int)→Option R):Option R:=cond (B.eq p0 6) (ob (c70 (IntKind.wrap .i64 (p1*p2))) fun y0=>k y0) (cond (B.eq p0 7) (ob (c70 (IntKind.wrap .i64 (p1+p2))) fun y0=>k y0) (cond (B.eq p0 8) (ob (c70 (IntKind.wrap .i64 (p1-p2))) fun y0=>k y0) (cond (B.eq p0 9) (ob (c71 (B.lt p1 p2)) fun y0=>k y0) (cond (B.eq p0 10) (ob (c71 (B.le p1 p2)) fun y0=>k y0) (cond (B.eq p0 11) (ob (c71 (B.lt p2 p1)) fun y0=>k y0) (cond (B.eq p0 12) (ob (c71 (B.le p2 p1)) fun y0=>k y0) (cond (B.eq p0 13) (ob (c71 (B.eq p1 p2)) fun y0=>k y0) (cond (B.eq p0 14) (ob (c71 !B.eq p1 p2) fun y0=>k y0) (cond (B.eq p0 15) (cond (!B.eq p1 0) (ob (c71 !B.eq p2 0) fun y0=>k y0) (ob (c71 false) fun y0=>k y0)) (cond (!B.eq p1 0) (ob (c71 true) fun y0=>k y0) (ob (c71 !B.eq p2 0) fun y0=>k y0)))))))))))
theorem eq72 {R:Type} (B:Ops) (c70:C70) (c71:C71) (p0 p1 p2:Int) (k:AV→Objs→Option R) (n:Nat):afun tau B gl0 X72 (ent 70 (e70 c70) (ent 71 (e71 c71) gnil)) ow Tryd.f72 [.c (.int .i64 p0),.c (.int .i64 p1),.c (.int .i64 p2)] [] k n=T72 B c70 c71 p0 p1 p2 (K1 k):=by kernel_rfl
theorem nt72 {R R':Type} (B:Ops) (c70:C70) (c71:C71) (p0 p1 p2:Int) (k0:(Int)→Option R') (k:R'→Option R):T72 B c70 c71 p0 p1 p2 (fun y=>ob (k0 y) k)=ob (T72 B c70 c71 p0 p1 p2 k0) k:=by
 unfold T72
 repeat' first | exact rfl | apply qab | (apply qaf;intro)
def F72 (c70:C70) (c71:C71) (p0 p1 p2:Int):Option (Int):=T72 Ops.std c70 c71 p0 p1 p2 some
abbrev C72:Type:=Int→Int→Int→Option (Int)
def e72 {R:Type} (c:C72):Ent R:=eG [.aC (.cI .i64),.aC (.cI .i64),.aC (.cI .i64)] [] fun v k=>ob (c v.1 v.2.1 v.2.2.1) (K1 k)
abbrev Sp72 (c:C72):Prop:=∀ (p0 p1 p2 y:Int),c p0 p1 p2=some y→Spec Tryd.prog gl0 72 [.c (.int .i64 p0),.c (.int .i64 p1),.c (.int .i64 p2)] [] (.c (.int .i64 y)) []
theorem ek72 {R:Type} {c:C72} (hs:Sp72 c):EOk 72 (e72 (R:=R) c):=qaj fun v=>hs v.1 v.2.1 v.2.2.1
theorem sf72 {c70:C70} {c71:C71} (h70:Sp70 c70) (h71:Sp71 c71):Sp72 (F72 c70 c71):=fun p0 p1 p2 y hy=>by
 refine qad (qaa (ek70 h70) (qaa (ek71 h71) qac)) 1000000 (fn:=Tryd.f72) (by kernel_rfl) (by kernel_rfl) (X:=X72) (by kernel_rfl) ?_
 rw [eq72]
 exact (nt72 Ops.std c70 c71 p0 p1 p2 some (K1 k0)).trans (by show ob (F72 c70 c71 p0 p1 p2) _=_;rw [hy];rfl)
noncomputable def M72:C72:=F72 M70 M71
theorem sm72:Sp72 M72:=sf72 sm70 sm71
def X33:Aux:=⟨[(5,([0,1,2,5,6]++rg 8 28++rg 39 83))],[(14,.lin (rg 0 10)),(10,.lin (rg 0 13))]⟩
inductive S33 where
 | l0 (v1 v2:Int) (v8:L3)
def T33 {R:Type} (B:Ops) (c32:C32) (c50:C50) (c68:C68) (c70:C70) (c69:C69) (c71:C71) (c72:C72) (p0:L108) (p1:L73) (p2:L193) (p3 p4:L3) (p5:L56) (again:S33→Option R) (k:(Int)→Option R):Option S33→Option R | none=>ob (c32 p0 p1 p2 p5) fun y0=>cond (!y0) (k 0) (cond (!B.eq (↑p3.length) (↑p1.length)) (k 0) (cond (!B.eq (↑p4.length) (↑p0.length)) (k 0) (again (.l0 (↑p5.length) 0 (mt (Ty.den (Ty.int .i64))))))) | some (.l0 v1 v2 v8)=>cond (B.lt v2 v1) (cond (B.inb v2 p5.length) (ob (c50 (p5.getD v2.toNat ty56.dflt).1) fun y0=>cond (B.eq (p5.getD v2.toNat ty56.dflt).1 1) (cond (B.inb (IntKind.wrap .i64 (Nat.cast v8.length-y0)) (List.length v8+1)) (cond (B.lim (List.length (List.take (Int.toNat (IntKind.wrap .i64 (Nat.cast v8.length-y0))) v8)+List.length (((p5.getD v2.toNat ty56.dflt).2).1::mt (Ty.den (Ty.int .i64)))) 8) (again (.l0 v1 (IntKind.wrap .i64 (v2+1)) (List.take (Int.toNat (IntKind.wrap .i64 (Nat.cast v8.length-y0))) v8++((p5.getD v2.toNat ty56.dflt).2).1::mt (Ty.den (Ty.int .i64))))) none) none) (cond (B.eq (p5.getD v2.toNat ty56.dflt).1 2) (ob (c68 p0 p1 p2 (((p5.getD v2.toNat ty56.dflt).2).2).1) fun y1=>cond (B.inb y1 p4.length) (ob (c70 (p4.getD y1.toNat ty3.dflt)) fun y2=>cond (B.inb (IntKind.wrap .i64 (Nat.cast v8.length-y0)) (List.length v8+1)) (cond (B.lim (List.length (List.take (Int.toNat (IntKind.wrap .i64 (Nat.cast v8.length-y0))) v8)+List.length (y2::mt (Ty.den (Ty.int .i64)))) 8) (again (.l0 v1 (IntKind.wrap .i64 (v2+1)) (List.take (Int.toNat (IntKind.wrap .i64 (Nat.cast v8.length-y0))) v8++y2::mt (Ty.den (Ty.int .i64))))) none) none) none) (cond (B.eq (p5.getD v2.toNat ty56.dflt).1 3) (ob (c69 p0 p1 p2 (((p5.getD v2.toNat ty56.dflt).2).2).1 (((p5.getD v2.toNat ty56.dflt).2).2).2) fun y1=>cond (B.inb y1.1 p3.length) (ob (c71 (B.eq (p3.getD (Int.toNat y1.1) ty3.dflt) y1.2)) fun y2=>cond (B.inb (IntKind.wrap .i64 (Nat.cast v8.length-y0)) (List.length v8+1)) (cond (B.lim (List.length (List.take (Int.toNat (IntKind.wrap .i64 (Nat.cast v8.length-y0))) v8)+List.length (y2::mt (Ty.den (Ty.int .i64)))) 8) (again (.l0 v1 (IntKind.wrap .i64 (v2+1)) (List.take (Int.toNat (IntKind.wrap .i64 (Nat.cast v8.length-y0))) v8++y2::mt (Ty.den (Ty.int .i64))))) none) none) none) (cond (B.eq (p5.getD v2.toNat ty56.dflt).1 4) (cond (B.inb (IntKind.wrap .i64 (Nat.cast v8.length-y0)) v8.length) (ob (c71 (B.eq (v8.getD (Int.toNat (IntKind.wrap .i64 (Nat.cast v8.length-y0))) ty3.dflt) 0)) fun y1=>cond (B.inb (IntKind.wrap .i64 (Nat.cast v8.length-y0)) (List.length v8+1)) (cond (B.lim (List.length (List.take (Int.toNat (IntKind.wrap .i64 (Nat.cast v8.length-y0))) v8)+List.length (y1::mt (Ty.den (Ty.int .i64)))) 8) (again (.l0 v1 (IntKind.wrap .i64 (v2+1)) (List.take (Int.toNat (IntKind.wrap .i64 (Nat.cast v8.length-y0))) v8++y1::mt (Ty.den (Ty.int .i64))))) none) none) none) (cond (B.eq (p5.getD v2.toNat ty56.dflt).1 5) (cond (B.inb (IntKind.wrap .i64 (Nat.cast v8.length-y0)) v8.length) (ob (c70 (IntKind.wrap .i64 (0-v8.getD (Int.toNat (IntKind.wrap .i64 (Nat.cast v8.length-y0))) ty3.dflt))) fun y1=>cond (B.inb (IntKind.wrap .i64 (Nat.cast v8.length-y0)) (List.length v8+1)) (cond (B.lim (List.length (List.take (Int.toNat (IntKind.wrap .i64 (Nat.cast v8.length-y0))) v8)+List.length (y1::mt (Ty.den (Ty.int .i64)))) 8) (again (.l0 v1 (IntKind.wrap .i64 (v2+1)) (List.take (Int.toNat (IntKind.wrap .i64 (Nat.cast v8.length-y0))) v8++y1::mt (Ty.den (Ty.int .i64))))) none) none) none) (cond (B.inb (IntKind.wrap .i64 (Nat.cast v8.length-y0)) v8.length) (cond (B.inb (IntKind.wrap .i64 (IntKind.wrap .i64 (Nat.cast v8.length-y0)+1)) v8.length) (ob (c72 (p5.getD v2.toNat ty56.dflt).1 (v8.getD (Int.toNat (IntKind.wrap .i64 (Nat.cast v8.length-y0))) ty3.dflt) (v8.getD (Int.toNat (IntKind.wrap .i64 (IntKind.wrap .i64 (Nat.cast v8.length-y0)+1))) ty3.dflt)) fun y1=>cond (B.inb (IntKind.wrap .i64 (Nat.cast v8.length-y0)) (List.length v8+1)) (cond (B.lim (List.length (List.take (Int.toNat (IntKind.wrap .i64 (Nat.cast v8.length-y0))) v8)+List.length (y1::mt (Ty.den (Ty.int .i64)))) 8) (again (.l0 v1 (IntKind.wrap .i64 (v2+1)) (List.take (Int.toNat (IntKind.wrap .i64 (Nat.cast v8.length-y0))) v8++y1::mt (Ty.den (Ty.int .i64))))) none) none) none) none)))))) none) (cond (B.inb 0 v8.length) (k (v8.getD (Int.toNat 0) ty3.dflt)) none)
def E33 (p0:L108) (p1:L73) (p2:L193) (p3 p4:L3) (p5:L56):S33→List AV×Objs
 | .l0 v1 v2 v8=>(mk 122 [(3,.c (.ptr 3 0)),(4,.c (.ptr 4 0)),(7,.c (.own 7)),(36,.c (.list 56 ty56 p5)),(37,.c (.int .i64 v1)),(38,.c (.int .i64 v2))],[(3,.box 46 [.list 108 ty108 p0,.list 73 ty73 p1,.list 193 ty193 p2]),(4,.box 48 [.list 3 ty3 p3,.list 3 ty3 p4]),(7,.row 3 ty3 v8)])
def I33:S33→Nat
 | .l0 _ _ _=>0
noncomputable abbrev A33 {R:Type} (B:Ops) (c32:C32) (c50:C50) (c68:C68) (c70:C70) (c69:C69) (c71:C71) (c72:C72) (p0:L108) (p1:L73) (p2:L193) (p3 p4:L3) (p5:L56) (k:AV→Objs→Option R) (s:S33) (n:Nat):Option R:=aloop tau B gl0 X33 (ent 32 (e32 c32) (ent 50 (e50 c50) (ent 68 (e68 c68) (ent 70 (e70 c70) (ent 69 (e69 c69) (ent 71 (e71 c71) (ent 72 (e72 c72) gnil))))))) ow [] Tryd.f33 k (I33 s) (E33 p0 p1 p2 p3 p4 p5 s) n
theorem eq33 {R:Type} (B:Ops) (c32:C32) (c50:C50) (c68:C68) (c70:C70) (c69:C69) (c71:C71) (c72:C72) (p0:L108) (p1:L73) (p2:L193) (p3 p4:L3) (p5:L56) (k:AV→Objs→Option R) (n:Nat):afun tau B gl0 X33 (ent 32 (e32 c32) (ent 50 (e50 c50) (ent 68 (e68 c68) (ent 70 (e70 c70) (ent 69 (e69 c69) (ent 71 (e71 c71) (ent 72 (e72 c72) gnil))))))) ow Tryd.f33 [.agg [.list 108 ty108 p0,.list 73 ty73 p1,.list 193 ty193 p2],.agg [.list 3 ty3 p3,.list 3 ty3 p4],.c (.list 56 ty56 p5)] [] k n=T33 B c32 c50 c68 c70 c69 c71 c72 p0 p1 p2 p3 p4 p5 (fun s=>A33 B c32 c50 c68 c70 c69 c71 c72 p0 p1 p2 p3 p4 p5 k s n) (K1 k) none:=by kernel_rfl
theorem el33 {R:Type} (B:Ops) (c32:C32) (c50:C50) (c68:C68) (c70:C70) (c69:C69) (c71:C71) (c72:C72) (p0:L108) (p1:L73) (p2:L193) (p3 p4:L3) (p5:L56) (k:AV→Objs→Option R) (n:Nat):∀ s,A33 B c32 c50 c68 c70 c69 c71 c72 p0 p1 p2 p3 p4 p5 k s (n+1)=T33 B c32 c50 c68 c70 c69 c71 c72 p0 p1 p2 p3 p4 p5 (fun s=>A33 B c32 c50 c68 c70 c69 c71 c72 p0 p1 p2 p3 p4 p5 k s n) (K1 k) (some s):=by
 intro s
 cases s<;>kernel_rfl
theorem nt33 {R R':Type} (B:Ops) (c32:C32) (c50:C50) (c68:C68) (c70:C70) (c69:C69) (c71:C71) (c72:C72) (p0:L108) (p1:L73) (p2:L193) (p3 p4:L3) (p5:L56) (again:S33→Option R) (again':S33→Option R') (k0:(Int)→Option R') (k:R'→Option R) (h:∀ s,again s=ob (again' s) k):∀ s,T33 B c32 c50 c68 c70 c69 c71 c72 p0 p1 p2 p3 p4 p5 again (fun y=>ob (k0 y) k) s=ob (T33 B c32 c50 c68 c70 c69 c71 c72 p0 p1 p2 p3 p4 p5 again' k0 s) k:=by
 rintro (_ | x)
 all_goals try cases x
 all_goals (unfold T33;repeat' first | exact rfl | exact h _ | apply qab | (apply qaf;intro))
def R33 (c32:C32) (c50:C50) (c68:C68) (c70:C70) (c69:C69) (c71:C71) (c72:C72) (p0:L108) (p1:L73) (p2:L193) (p3 p4:L3) (p5:L56):Nat→S33→Option (Int)
 | 0,_=>none
 | n+1,s=>T33 Ops.std c32 c50 c68 c70 c69 c71 c72 p0 p1 p2 p3 p4 p5 (R33 c32 c50 c68 c70 c69 c71 c72 p0 p1 p2 p3 p4 p5 n) some (some s)
theorem rr33 {R:Type} (c32:C32) (c50:C50) (c68:C68) (c70:C70) (c69:C69) (c71:C71) (c72:C72) (p0:L108) (p1:L73) (p2:L193) (p3 p4:L3) (p5:L56) (k:AV→Objs→Option R):∀ (n:Nat) (s:S33),A33 Ops.std c32 c50 c68 c70 c69 c71 c72 p0 p1 p2 p3 p4 p5 k s n=ob (R33 c32 c50 c68 c70 c69 c71 c72 p0 p1 p2 p3 p4 p5 n s) (K1 k)
 | 0,s=>by cases s<;>rfl
 | n+1,s=>by rw [el33];exact nt33 Ops.std c32 c50 c68 c70 c69 c71 c72 p0 p1 p2 p3 p4 p5 _ _ some (K1 k) (rr33 c32 c50 c68 c70 c69 c71 c72 p0 p1 p2 p3 p4 p5 k n) (some s)
def F33 (c32:C32) (c50:C50) (c68:C68) (c70:C70) (c69:C69) (c71:C71) (c72:C72) (p0:L108) (p1:L73) (p2:L193) (p3 p4:L3) (p5:L56):Option (Int):=T33 Ops.std c32 c50 c68 c70 c69 c71 c72 p0 p1 p2 p3 p4 p5 (R33 c32 c50 c68 c70 c69 c71 c72 p0 p1 p2 p3 p4 p5 1000000) some none
abbrev C33:Type:=L108→L73→L193→L3→L3→L56→Option (Int)
def e33 {R:Type} (c:C33):Ent R:=eG [.aG [.cL 108 ty108,.cL 73 ty73,.cL 193 ty193],.aG [.cL 3 ty3,.cL 3 ty3],.aC (.cL 56 ty56)] [] fun v k=>ob (c v.1 v.2.1 v.2.2.1 v.2.2.2.1 v.2.2.2.2.1 v.2.2.2.2.2.1) (K1 k)
abbrev Sp33 (c:C33):Prop:=∀ (p0:L108) (p1:L73) (p2:L193) (p3 p4:L3) (p5:L56) (y:Int),c p0 p1 p2 p3 p4 p5=some y→Spec Tryd.prog gl0 33 [.agg [.list 108 ty108 p0,.list 73 ty73 p1,.list 193 ty193 p2],.agg [.list 3 ty3 p3,.list 3 ty3 p4],.c (.list 56 ty56 p5)] [] (.c (.int .i64 y)) []
theorem ek33 {R:Type} {c:C33} (hs:Sp33 c):EOk 33 (e33 (R:=R) c):=qaj fun v=>hs v.1 v.2.1 v.2.2.1 v.2.2.2.1 v.2.2.2.2.1 v.2.2.2.2.2.1
theorem sf33 {c32:C32} {c50:C50} {c68:C68} {c70:C70} {c69:C69} {c71:C71} {c72:C72} (h32:Sp32 c32) (h50:Sp50 c50) (h68:Sp68 c68) (h70:Sp70 c70) (h69:Sp69 c69) (h71:Sp71 c71) (h72:Sp72 c72):Sp33 (F33 c32 c50 c68 c70 c69 c71 c72):=fun p0 p1 p2 p3 p4 p5 y hy=>by
 refine qad (qaa (ek32 h32) (qaa (ek50 h50) (qaa (ek68 h68) (qaa (ek70 h70) (qaa (ek69 h69) (qaa (ek71 h71) (qaa (ek72 h72) qac))))))) 1000000 (fn:=Tryd.f33) (by kernel_rfl) (by kernel_rfl) (X:=X33) (by kernel_rfl) ?_
 rw [eq33]
 exact (nt33 Ops.std c32 c50 c68 c70 c69 c71 c72 p0 p1 p2 p3 p4 p5 _ _ some (K1 k0) (rr33 c32 c50 c68 c70 c69 c71 c72 p0 p1 p2 p3 p4 p5 k0 1000000) none).trans (by show ob (F33 c32 c50 c68 c70 c69 c71 c72 p0 p1 p2 p3 p4 p5) _=_;rw [hy];rfl)
noncomputable def M33:C33:=F33 M32 M50 M68 M70 M69 M71 M72
theorem sm33:Sp33 M33:=sf33 sm32 sm50 sm68 sm70 sm69 sm71 sm72
def X30:Aux:=⟨[],[]⟩
def T30 {R:Type} (B:Ops) (c28:C28) (c17:C17) (c32:C32) (c33:C33) (p0:LB) (p1:Int) (k:(Bool)→Option R):Option R:=ob (c28 3 (-4) 1) fun y0=>ob (c17 p0) fun y1=>cond (B.eq y1.1 0) (ob (c32 y0.1 y0.2.1 y0.2.2.1 y1.2.2) fun y2=>cond (y2) (ob (c33 y0.1 y0.2.1 y0.2.2.1 y0.2.2.2.1 y0.2.2.2.2 y1.2.2) fun y3=>k (B.eq y3 p1)) (k false)) (k false)
theorem eq30 {R:Type} (B:Ops) (c28:C28) (c17:C17) (c32:C32) (c33:C33) (p0:LB) (p1:Int) (k:AV→Objs→Option R) (n:Nat):afun tau B gl0 X30 (ent 28 (e28 c28) (ent 17 (e17 c17) (ent 32 (e32 c32) (ent 33 (e33 c33) gnil)))) ow Tryd.f30 [.c (.str p0),.c (.int .i64 p1)] [] k n=T30 B c28 c17 c32 c33 p0 p1 (K2 k):=by kernel_rfl
theorem nt30 {R R':Type} (B:Ops) (c28:C28) (c17:C17) (c32:C32) (c33:C33) (p0:LB) (p1:Int) (k0:(Bool)→Option R') (k:R'→Option R):T30 B c28 c17 c32 c33 p0 p1 (fun y=>ob (k0 y) k)=ob (T30 B c28 c17 c32 c33 p0 p1 k0) k:=by
 unfold T30
 repeat' first | exact rfl | apply qab | (apply qaf;intro)
def F30 (c28:C28) (c17:C17) (c32:C32) (c33:C33) (p0:LB) (p1:Int):Option (Bool):=T30 Ops.std c28 c17 c32 c33 p0 p1 some
abbrev C30:Type:=LB→Int→Option (Bool)
def e30 {R:Type} (c:C30):Ent R:=eG [.aC .cS,.aC (.cI .i64)] [] fun v k=>ob (c v.1 v.2.1) (K2 k)
abbrev Sp30 (c:C30):Prop:=∀ (p0:LB) (p1:Int) (y:Bool),c p0 p1=some y→Spec Tryd.prog gl0 30 [.c (.str p0),.c (.int .i64 p1)] [] (.c (.bool y)) []
theorem ek30 {R:Type} {c:C30} (hs:Sp30 c):EOk 30 (e30 (R:=R) c):=qaj fun v=>hs v.1 v.2.1
theorem sf30 {c28:C28} {c17:C17} {c32:C32} {c33:C33} (h28:Sp28 c28) (h17:Sp17 c17) (h32:Sp32 c32) (h33:Sp33 c33):Sp30 (F30 c28 c17 c32 c33):=fun p0 p1 y hy=>by
 refine qad (qaa (ek28 h28) (qaa (ek17 h17) (qaa (ek32 h32) (qaa (ek33 h33) qac)))) 1000000 (fn:=Tryd.f30) (by kernel_rfl) (by kernel_rfl) (X:=X30) (by kernel_rfl) ?_
 rw [eq30]
 exact (nt30 Ops.std c28 c17 c32 c33 p0 p1 some (K2 k0)).trans (by show ob (F30 c28 c17 c32 c33 p0 p1) _=_;rw [hy];rfl)
noncomputable def M30:C30:=F30 M28 M17 M32 M33
theorem sm30:Sp30 M30:=sf30 sm28 sm17 sm32 sm33
def X31:Aux:=⟨[],[]⟩
def T31 {R:Type} (B:Ops) (c17:C17) (p0:LB) (p1 p2:Int) (k:(Bool)→Option R):Option R:=ob (c17 p0) fun y0=>cond (B.eq y0.1 p1) (cond (B.eq y0.2.1 p2) (k (B.eq (Nat.cast (List.length y0.2.2)) 0)) (k false)) (k false)
theorem eq31 {R:Type} (B:Ops) (c17:C17) (p0:LB) (p1 p2:Int) (k:AV→Objs→Option R) (n:Nat):afun tau B gl0 X31 (ent 17 (e17 c17) gnil) ow Tryd.f31 [.c (.str p0),.c (.int .i64 p1),.c (.int .i64 p2)] [] k n=T31 B c17 p0 p1 p2 (K2 k):=by kernel_rfl
theorem nt31 {R R':Type} (B:Ops) (c17:C17) (p0:LB) (p1 p2:Int) (k0:(Bool)→Option R') (k:R'→Option R):T31 B c17 p0 p1 p2 (fun y=>ob (k0 y) k)=ob (T31 B c17 p0 p1 p2 k0) k:=by
 unfold T31
 repeat' first | exact rfl | apply qab | (apply qaf;intro)
def F31 (c17:C17) (p0:LB) (p1 p2:Int):Option (Bool):=T31 Ops.std c17 p0 p1 p2 some
abbrev C31:Type:=LB→Int→Int→Option (Bool)
def e31 {R:Type} (c:C31):Ent R:=eG [.aC .cS,.aC (.cI .i64),.aC (.cI .i64)] [] fun v k=>ob (c v.1 v.2.1 v.2.2.1) (K2 k)
abbrev Sp31 (c:C31):Prop:=∀ (p0:LB) (p1 p2:Int) (y:Bool),c p0 p1 p2=some y→Spec Tryd.prog gl0 31 [.c (.str p0),.c (.int .i64 p1),.c (.int .i64 p2)] [] (.c (.bool y)) []
theorem ek31 {R:Type} {c:C31} (hs:Sp31 c):EOk 31 (e31 (R:=R) c):=qaj fun v=>hs v.1 v.2.1 v.2.2.1
theorem sf31 {c17:C17} (h17:Sp17 c17):Sp31 (F31 c17):=fun p0 p1 p2 y hy=>by
 refine qad (qaa (ek17 h17) qac) 1000000 (fn:=Tryd.f31) (by kernel_rfl) (by kernel_rfl) (X:=X31) (by kernel_rfl) ?_
 rw [eq31]
 exact (nt31 Ops.std c17 p0 p1 p2 some (K2 k0)).trans (by show ob (F31 c17 p0 p1 p2) _=_;rw [hy];rfl)
noncomputable def M31:C31:=F31 M17
theorem sm31:Sp31 M31:=sf31 sm17
def X6:Aux:=⟨[(5,([0]++rg 3 138))],[]⟩
inductive S6 where
 | l0 (v0:LB) (v1:Int)
def T6 {R:Type} (B:Ops) (c14:C14) (c28:C28) (c17:C17) (c29:C29) (c25:C25) (c30:C30) (c31:C31) (c32:C32) (c33:C33) (c22:C22) (c20:C20) (again:S6→Option R) (k:(Bool)→Option R):Option S6→Option R | none=>ob (c14) fun y0=>cond (!y0) (k false) (again (.l0 ([120]:LB) 0)) | some (.l0 v0 v1)=>cond (B.lt v1 15) (cond (B.lim (List.length v0+2) 1) (again (.l0 (v0++([43,120]:LB)) (IntKind.wrap .i64 (v1+1)))) none) (ob (c28 3 (-4) 1) fun y0=>ob (c17 ([122]:LB)) fun y1=>ob (c29 ([91,120,43,49,93,121]:LB)) fun y2=>ob (c25 y2.2.2 1) fun y3=>ob (c14) fun y4=>cond (y4) (ob (c30 ([120,43,121,42,50]:LB) (-5)) fun y5=>cond (y5) (ob (c30 ([45,120,45,121,45,49]:LB) 0) fun y6=>cond (y6) (ob (c30 ([112,64,98]:LB) 1) fun y7=>cond (y7) (ob (c30 ([113,64,98]:LB) 0) fun y8=>cond (y8) (ob (c30 ([33,112,64,97,38,38,120,62,61,51]:LB) 1) fun y9=>cond (y9) (ob (c30 ([120,60,121,124,124,120,33,61,121]:LB) 1) fun y10=>cond (y10) (ob (c30 ([40,120,61,61,51,41,43,40,121,60,61,45,52,41]:LB) 2) fun y11=>cond (y11) (ob (c30 ([57,57,57,42,57,57,57,42,57,57,57]:LB) 99999) fun y12=>cond (y12) (ob (c30 ([45,40,57,57,57,42,57,57,57,42,57,57,57,41]:LB) (-99999)) fun y13=>cond (y13) (ob (c30 ([33,33,53]:LB) 1) fun y14=>cond (y14) (ob (c31 (mt UInt8) 2 0) fun y15=>cond (y15) (ob (c31 ([120,60,121,60,50]:LB) 2 3) fun y16=>cond (y16) (ob (c31 ([120,32,43]:LB) 2 3) fun y17=>cond (y17) (ob (c31 ([120,32,64,32,53]:LB) 2 4) fun y18=>cond (y18) (ob (c31 ([40,120]:LB) 2 2) fun y19=>cond (y19) (ob (c31 ([120,32,121]:LB) 2 2) fun y20=>cond (y20) (ob (c31 v0 13 0) fun y21=>cond (y21) (ob (c32 y0.1 y0.2.1 y0.2.2.1 y1.2.2) fun y22=>cond (!y22) (ob (c33 y0.1 y0.2.1 y0.2.2.1 y0.2.2.2.1 y0.2.2.2.2 y1.2.2) fun y23=>cond (B.eq y23 0) (cond (B.eq y3.2.1 0) (cond (B.eq y3.1 4) (cond (B.eq (Nat.cast (List.length y3.2.2)) 3) (ob (c22 (mt (Ty.den ty56))) fun y24=>cond (!y24) (ob (c22 ((1,1000,mt UInt8,mt UInt8)::mt (Ty.den ty56))) fun y25=>cond (!y25) (ob (c22 ((4,0,mt UInt8,mt UInt8)::mt (Ty.den ty56))) fun y26=>cond (!y26) (ob (c20 (mt (Ty.den ty56))) fun y27=>k (y27 == mt UInt8)) (k false)) (k false)) (k false)) (k false)) (k false)) (k false)) (k false)) (k false)) (k false)) (k false)) (k false)) (k false)) (k false)) (k false)) (k false)) (k false)) (k false)) (k false)) (k false)) (k false)) (k false)) (k false)) (k false)) (k false)) (k false)) (k false))
def E6:S6→List AV×Objs
 | .l0 v0 v1=>(mk 141 [(1,.c (.str v0)),(2,.c (.int .i64 v1))],[])
def I6:S6→Nat
 | .l0 _ _=>0
noncomputable abbrev A6 {R:Type} (B:Ops) (c14:C14) (c28:C28) (c17:C17) (c29:C29) (c25:C25) (c30:C30) (c31:C31) (c32:C32) (c33:C33) (c22:C22) (c20:C20) (k:AV→Objs→Option R) (s:S6) (n:Nat):Option R:=aloop tau B gl0 X6 (ent 14 (e14 c14) (ent 28 (e28 c28) (ent 17 (e17 c17) (ent 29 (e29 c29) (ent 25 (e25 c25) (ent 30 (e30 c30) (ent 31 (e31 c31) (ent 32 (e32 c32) (ent 33 (e33 c33) (ent 22 (e22 c22) (ent 20 (e20 c20) gnil))))))))))) ow [] Tryd.f6 k (I6 s) (E6 s) n
theorem eq6 {R:Type} (B:Ops) (c14:C14) (c28:C28) (c17:C17) (c29:C29) (c25:C25) (c30:C30) (c31:C31) (c32:C32) (c33:C33) (c22:C22) (c20:C20) (k:AV→Objs→Option R) (n:Nat):afun tau B gl0 X6 (ent 14 (e14 c14) (ent 28 (e28 c28) (ent 17 (e17 c17) (ent 29 (e29 c29) (ent 25 (e25 c25) (ent 30 (e30 c30) (ent 31 (e31 c31) (ent 32 (e32 c32) (ent 33 (e33 c33) (ent 22 (e22 c22) (ent 20 (e20 c20) gnil))))))))))) ow Tryd.f6 [] [] k n=T6 B c14 c28 c17 c29 c25 c30 c31 c32 c33 c22 c20 (fun s=>A6 B c14 c28 c17 c29 c25 c30 c31 c32 c33 c22 c20 k s n) (K2 k) none:=by kernel_rfl
theorem el6 {R:Type} (B:Ops) (c14:C14) (c28:C28) (c17:C17) (c29:C29) (c25:C25) (c30:C30) (c31:C31) (c32:C32) (c33:C33) (c22:C22) (c20:C20) (k:AV→Objs→Option R) (n:Nat):∀ s,A6 B c14 c28 c17 c29 c25 c30 c31 c32 c33 c22 c20 k s (n+1)=T6 B c14 c28 c17 c29 c25 c30 c31 c32 c33 c22 c20 (fun s=>A6 B c14 c28 c17 c29 c25 c30 c31 c32 c33 c22 c20 k s n) (K2 k) (some s):=by
 intro s
 cases s<;>kernel_rfl
theorem nt6 {R R':Type} (B:Ops) (c14:C14) (c28:C28) (c17:C17) (c29:C29) (c25:C25) (c30:C30) (c31:C31) (c32:C32) (c33:C33) (c22:C22) (c20:C20) (again:S6→Option R) (again':S6→Option R') (k0:(Bool)→Option R') (k:R'→Option R) (h:∀ s,again s=ob (again' s) k):∀ s,T6 B c14 c28 c17 c29 c25 c30 c31 c32 c33 c22 c20 again (fun y=>ob (k0 y) k) s=ob (T6 B c14 c28 c17 c29 c25 c30 c31 c32 c33 c22 c20 again' k0 s) k:=by
 rintro (_ | x)
 all_goals try cases x
 all_goals (unfold T6;repeat' first | exact rfl | exact h _ | apply qab | (apply qaf;intro))
def R6 (c14:C14) (c28:C28) (c17:C17) (c29:C29) (c25:C25) (c30:C30) (c31:C31) (c32:C32) (c33:C33) (c22:C22) (c20:C20):Nat→S6→Option (Bool)
 | 0,_=>none
 | n+1,s=>T6 Ops.std c14 c28 c17 c29 c25 c30 c31 c32 c33 c22 c20 (R6 c14 c28 c17 c29 c25 c30 c31 c32 c33 c22 c20 n) some (some s)
theorem rr6 {R:Type} (c14:C14) (c28:C28) (c17:C17) (c29:C29) (c25:C25) (c30:C30) (c31:C31) (c32:C32) (c33:C33) (c22:C22) (c20:C20) (k:AV→Objs→Option R):∀ (n:Nat) (s:S6),A6 Ops.std c14 c28 c17 c29 c25 c30 c31 c32 c33 c22 c20 k s n=ob (R6 c14 c28 c17 c29 c25 c30 c31 c32 c33 c22 c20 n s) (K2 k)
 | 0,s=>by cases s<;>rfl
 | n+1,s=>by rw [el6];exact nt6 Ops.std c14 c28 c17 c29 c25 c30 c31 c32 c33 c22 c20 _ _ some (K2 k) (rr6 c14 c28 c17 c29 c25 c30 c31 c32 c33 c22 c20 k n) (some s)
def F6 (c14:C14) (c28:C28) (c17:C17) (c29:C29) (c25:C25) (c30:C30) (c31:C31) (c32:C32) (c33:C33) (c22:C22) (c20:C20):Option (Bool):=T6 Ops.std c14 c28 c17 c29 c25 c30 c31 c32 c33 c22 c20 (R6 c14 c28 c17 c29 c25 c30 c31 c32 c33 c22 c20 1000000) some none
abbrev C6:Type:=Option (Bool)
abbrev Sp6 (c:C6):Prop:=∀ (y:Bool),c=some y→Spec Tryd.prog gl0 6 [] [] (.c (.bool y)) []
theorem sf6 {c14:C14} {c28:C28} {c17:C17} {c29:C29} {c25:C25} {c30:C30} {c31:C31} {c32:C32} {c33:C33} {c22:C22} {c20:C20} (h14:Sp14 c14) (h28:Sp28 c28) (h17:Sp17 c17) (h29:Sp29 c29) (h25:Sp25 c25) (h30:Sp30 c30) (h31:Sp31 c31) (h32:Sp32 c32) (h33:Sp33 c33) (h22:Sp22 c22) (h20:Sp20 c20):Sp6 (F6 c14 c28 c17 c29 c25 c30 c31 c32 c33 c22 c20):=fun y hy=>by
 refine qad (qaa (ek14 h14) (qaa (ek28 h28) (qaa (ek17 h17) (qaa (ek29 h29) (qaa (ek25 h25) (qaa (ek30 h30) (qaa (ek31 h31) (qaa (ek32 h32) (qaa (ek33 h33) (qaa (ek22 h22) (qaa (ek20 h20) qac))))))))))) 1000000 (fn:=Tryd.f6) (by kernel_rfl) (by kernel_rfl) (X:=X6) (by kernel_rfl) ?_
 rw [eq6]
 exact (nt6 Ops.std c14 c28 c17 c29 c25 c30 c31 c32 c33 c22 c20 _ _ some (K2 k0) (rr6 c14 c28 c17 c29 c25 c30 c31 c32 c33 c22 c20 k0 1000000) none).trans (by show ob (F6 c14 c28 c17 c29 c25 c30 c31 c32 c33 c22 c20) _=_;rw [hy];rfl)
noncomputable def M6:C6:=F6 M14 M28 M17 M29 M25 M30 M31 M32 M33 M22 M20
theorem sm6:Sp6 M6:=sf6 sm14 sm28 sm17 sm29 sm25 sm30 sm31 sm32 sm33 sm22 sm20
end Go.Proofs.YtkmpkebaloejhaaDoor.Av
