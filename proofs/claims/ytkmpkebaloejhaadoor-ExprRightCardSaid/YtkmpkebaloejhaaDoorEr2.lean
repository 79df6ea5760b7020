/- Twins of functions,printed by gen.py. Conditions: none. -/
import Derived.Test.YtkmpkebaloejhaaDoorEr1
import Derived.KernelRfl
set_option linter.unusedSimpArgs false
set_option linter.unusedVariables false
set_option maxRecDepth 100000
set_option maxHeartbeats 8000000
namespace Go.Proofs.YtkmpkebaloejhaaDoor.Av
open Go
def X109:Aux:=⟨[(2,([2,3,4,5,6]++rg 9 10))],[]⟩
inductive S109 where
 | l0 (v1 v2:Int) (v3:LB)
def T109 {R:Type} (B:Ops) (c110:C110) (p0:L108) (p1:LB) (again:S109→Option R) (k:(Int×LB)→Option R):Option S109→Option R | none=>again (.l0 (↑p0.length) 0 p1) | some (.l0 v1 v2 v3)=>cond (B.lt v2 v1) (cond (B.inb v2 p0.length) (ob (c110 (p0.getD v2.toNat ty108.dflt).1 ((p0.getD v2.toNat ty108.dflt).2).1 (((p0.getD v2.toNat ty108.dflt).2).2).1 (((p0.getD v2.toNat ty108.dflt).2).2).2 v3) fun y0=>cond y0.1 (k (v2,y0.2)) (again (.l0 v1 (IntKind.wrap .i64 (v2+1)) y0.2))) none) (k (-1,v3))
def E109 (p0:L108) (p1:LB):S109→List AV×Objs
 | .l0 v1 v2 v3=>(mk 19 [(0,.c (.list 108 ty108 p0)),(1,.fn 110 [.ptr 2500 0]),(7,.c (.int .i64 v1)),(8,.c (.int .i64 v2))],[(2500,.box 9 [.str v3])])
def I109:S109→Nat
 | .l0 _ _ _=>0
abbrev K17 {R:Type} (k:AV→Objs→Option R) (y:(Int×LB)):Option R:=k (.c (.int .i64 y.1)) [(2500,.box 9 [.str y.2])]
noncomputable abbrev A109 {R:Type} (B:Ops) (c110:C110) (p0:L108) (p1:LB) (k:AV→Objs→Option R) (s:S109) (n:Nat):Option R:=aloop tau B gl0 X109 (ent 110 (e110 c110) gnil) ow [2500] Tryd.f109 k (I109 s) (E109 p0 p1 s) n
theorem eq109 {R:Type} (B:Ops) (c110:C110) (p0:L108) (p1:LB) (k:AV→Objs→Option R) (n:Nat):afun tau B gl0 X109 (ent 110 (e110 c110) gnil) ow Tryd.f109 [.c (.list 108 ty108 p0),.fn 110 [.ptr 2500 0]] [(2500,.box 9 [.str p1])] k n=T109 B c110 p0 p1 (fun s=>A109 B c110 p0 p1 k s n) (K17 k) none:=by kernel_rfl
theorem el109 {R:Type} (B:Ops) (c110:C110) (p0:L108) (p1:LB) (k:AV→Objs→Option R) (n:Nat):∀ s,A109 B c110 p0 p1 k s (n+1)=T109 B c110 p0 p1 (fun s=>A109 B c110 p0 p1 k s n) (K17 k) (some s):=by
 intro s
 cases s<;>kernel_rfl
theorem nt109 {R R':Type} (B:Ops) (c110:C110) (p0:L108) (p1:LB) (again:S109→Option R) (again':S109→Option R') (k0:(Int×LB)→Option R') (k:R'→Option R) (h:∀ s,again s=ob (again' s) k):∀ s,T109 B c110 p0 p1 again (fun y=>ob (k0 y) k) s=ob (T109 B c110 p0 p1 again' k0 s) k:=by
 rintro (_ | x)
 all_goals try cases x
 all_goals (unfold T109;repeat' first | exact rfl | exact h _ | apply qab | (apply qah;intro))
def R109 (c110:C110) (p0:L108) (p1:LB):Nat→S109→Option (Int×LB)
 | 0,_=>none
 | n+1,s=>T109 Ops.std c110 p0 p1 (R109 c110 p0 p1 n) some (some s)
theorem rr109 {R:Type} (c110:C110) (p0:L108) (p1:LB) (k:AV→Objs→Option R):∀ (n:Nat) (s:S109),A109 Ops.std c110 p0 p1 k s n=ob (R109 c110 p0 p1 n s) (K17 k)
 | 0,s=>by cases s<;>rfl
 | n+1,s=>by rw [el109];exact nt109 Ops.std c110 p0 p1 _ _ some (K17 k) (rr109 c110 p0 p1 k n) (some s)
def F109 (c110:C110) (p0:L108) (p1:LB):Option (Int×LB):=T109 Ops.std c110 p0 p1 (R109 c110 p0 p1 1000000) some none
abbrev C109:Type:=L108→LB→Option (Int×LB)
def e109 {R:Type} (c:C109):Ent R:=eG [.aC (.cL 108 ty108),.aF 110 [.cP 2500]] [.oB 2500 9 [.cS]] fun v k=>ob (c v.1 v.2.1) (K17 k)
abbrev Sp109 (c:C109):Prop:=∀ (p0:L108) (p1:LB) (y:Int×LB),c p0 p1=some y→Spec Tryd.prog gl0 109 [.c (.list 108 ty108 p0),.fn 110 [.ptr 2500 0]] [(2500,.box 9 [.str p1])] (.c (.int .i64 y.1)) [(2500,.box 9 [.str y.2])]
theorem ek109 {R:Type} {c:C109} (hs:Sp109 c):EOk 109 (e109 (R:=R) c):=qam fun v=>hs v.1 v.2.1
theorem sf109 {c110:C110} (h110:Sp110 c110):Sp109 (F109 c110):=fun p0 p1 y hy=>by
 refine qae (qac (ek110 h110) qad) 1000000 (fn:=Tryd.f109) (by kernel_rfl) (by kernel_rfl) (X:=X109) (by kernel_rfl) ?_
 rw [eq109]
 exact (nt109 Ops.std c110 p0 p1 _ _ some (K17 k0) (rr109 c110 p0 p1 k0 1000000) none).trans (by show ob (F109 c110 p0 p1) _=_;rw [hy];rfl)
noncomputable def M109:C109:=F109 M110
theorem sm109:Sp109 M109:=sf109 sm110
def X68:Aux:=⟨[],[]⟩
def T68 {R:Type} (B:Ops) (c110:C110) (c109:C109) (p0:L108) (p1:L73) (p2:L193) (p3:LB) (k:(Int)→Option R):Option R:=ob (c109 p0 p3) fun y0=>k y0.1
theorem eq68 {R:Type} (B:Ops) (c110:C110) (c109:C109) (p0:L108) (p1:L73) (p2:L193) (p3:LB) (k:AV→Objs→Option R) (n:Nat):afun tau B gl0 X68 (ent 110 (e110 c110) (ent 109 (e109 c109) gnil)) ow Tryd.f68 [.agg [.list 108 ty108 p0,.list 73 ty73 p1,.list 193 ty193 p2],.c (.str p3)] [] k n=T68 B c110 c109 p0 p1 p2 p3 (K1 k):=by kernel_rfl
theorem nt68 {R R':Type} (B:Ops) (c110:C110) (c109:C109) (p0:L108) (p1:L73) (p2:L193) (p3:LB) (k0:(Int)→Option R') (k:R'→Option R):T68 B c110 c109 p0 p1 p2 p3 (fun y=>ob (k0 y) k)=ob (T68 B c110 c109 p0 p1 p2 p3 k0) k:=by
 unfold T68
 repeat' first | exact rfl | apply qab | (apply qah;intro)
def F68 (c110:C110) (c109:C109) (p0:L108) (p1:L73) (p2:L193) (p3:LB):Option (Int):=T68 Ops.std c110 c109 p0 p1 p2 p3 some
abbrev C68:Type:=L108→L73→L193→LB→Option (Int)
def e68 {R:Type} (c:C68):Ent R:=eG [.aG [.cL 108 ty108,.cL 73 ty73,.cL 193 ty193],.aC .cS] [] fun v k=>ob (c v.1 v.2.1 v.2.2.1 v.2.2.2.1) (K1 k)
abbrev Sp68 (c:C68):Prop:=∀ (p0:L108) (p1:L73) (p2:L193) (p3:LB) (y:Int),c p0 p1 p2 p3=some y→Spec Tryd.prog gl0 68 [.agg [.list 108 ty108 p0,.list 73 ty73 p1,.list 193 ty193 p2],.c (.str p3)] [] (.c (.int .i64 y)) []
theorem ek68 {R:Type} {c:C68} (hs:Sp68 c):EOk 68 (e68 (R:=R) c):=qam fun v=>hs v.1 v.2.1 v.2.2.1 v.2.2.2.1
theorem sf68 {c110:C110} {c109:C109} (h110:Sp110 c110) (h109:Sp109 c109):Sp68 (F68 c110 c109):=fun p0 p1 p2 p3 y hy=>by
 refine qae (qac (ek110 h110) (qac (ek109 h109) qad)) 1000000 (fn:=Tryd.f68) (by kernel_rfl) (by kernel_rfl) (X:=X68) (by kernel_rfl) ?_
 rw [eq68]
 exact (nt68 Ops.std c110 c109 p0 p1 p2 p3 some (K1 k0)).trans (by show ob (F68 c110 c109 p0 p1 p2 p3) _=_;rw [hy];rfl)
noncomputable def M68:C68:=F68 M110 M109
theorem sm68:Sp68 M68:=sf68 sm110 sm109
def X112:Aux:=⟨[],[]⟩
def T112 {R:Type} (B:Ops) (p0:LB) (p1:L9) (p2:LB) (k:(Bool×LB)→Option R):Option R:=k (p0 == p2,p2)
theorem eq112 {R:Type} (B:Ops) (p0:LB) (p1:L9) (p2:LB) (k:AV→Objs→Option R) (n:Nat):afun tau B gl0 X112 gnil ow Tryd.f112 [.agg [.str p0,.list 9 ty9 p1],.c (.ptr 1 0)] [(1,.box 9 [.str p2])] k n=T112 B p0 p1 p2 (K16 k):=by kernel_rfl
theorem nt112 {R R':Type} (B:Ops) (p0:LB) (p1:L9) (p2:LB) (k0:(Bool×LB)→Option R') (k:R'→Option R):T112 B p0 p1 p2 (fun y=>ob (k0 y) k)=ob (T112 B p0 p1 p2 k0) k:=by
 unfold T112
 repeat' first | exact rfl | apply qab | (apply qah;intro)
def F112 (p0:LB) (p1:L9) (p2:LB):Option (Bool×LB):=T112 Ops.std p0 p1 p2 some
abbrev C112:Type:=LB→L9→LB→Option (Bool×LB)
def e112 {R:Type} (c:C112):Ent R:=eG [.aG [.cS,.cL 9 ty9],.aC (.cP 1)] [.oB 1 9 [.cS]] fun v k=>ob (c v.1 v.2.1 v.2.2.1) (K16 k)
abbrev Sp112 (c:C112):Prop:=∀ (p0:LB) (p1:L9) (p2:LB) (y:Bool×LB),c p0 p1 p2=some y→Spec Tryd.prog gl0 112 [.agg [.str p0,.list 9 ty9 p1],.c (.ptr 1 0)] [(1,.box 9 [.str p2])] (.c (.bool y.1)) [(1,.box 9 [.str y.2])]
theorem ek112 {R:Type} {c:C112} (hs:Sp112 c):EOk 112 (e112 (R:=R) c):=qam fun v=>hs v.1 v.2.1 v.2.2.1
theorem sf112:Sp112 (F112):=fun p0 p1 p2 y hy=>by
 refine qae qad 1000000 (fn:=Tryd.f112) (by kernel_rfl) (by kernel_rfl) (X:=X112) (by kernel_rfl) ?_
 rw [eq112]
 exact (nt112 Ops.std p0 p1 p2 some (K16 k0)).trans (by show ob (F112 p0 p1 p2) _=_;rw [hy];rfl)
noncomputable def M112:C112:=F112
theorem sm112:Sp112 M112:=sf112
def X111:Aux:=⟨[(2,([2,3,4,5,6]++rg 9 10))],[]⟩
inductive S111 where
 | l0 (v1 v2:Int) (v3:LB)
def T111 {R:Type} (B:Ops) (c112:C112) (p0:L73) (p1:LB) (again:S111→Option R) (k:(Int×LB)→Option R):Option S111→Option R | none=>again (.l0 (↑p0.length) 0 p1) | some (.l0 v1 v2 v3)=>cond (B.lt v2 v1) (cond (B.inb v2 p0.length) (ob (c112 (p0.getD v2.toNat ty73.dflt).1 (p0.getD v2.toNat ty73.dflt).2 v3) fun y0=>cond y0.1 (k (v2,y0.2)) (again (.l0 v1 (IntKind.wrap .i64 (v2+1)) y0.2))) none) (k (-1,v3))
def E111 (p0:L73) (p1:LB):S111→List AV×Objs
 | .l0 v1 v2 v3=>(mk 19 [(0,.c (.list 73 ty73 p0)),(1,.fn 112 [.ptr 2500 0]),(7,.c (.int .i64 v1)),(8,.c (.int .i64 v2))],[(2500,.box 9 [.str v3])])
def I111:S111→Nat
 | .l0 _ _ _=>0
noncomputable abbrev A111 {R:Type} (B:Ops) (c112:C112) (p0:L73) (p1:LB) (k:AV→Objs→Option R) (s:S111) (n:Nat):Option R:=aloop tau B gl0 X111 (ent 112 (e112 c112) gnil) ow [2500] Tryd.f111 k (I111 s) (E111 p0 p1 s) n
theorem eq111 {R:Type} (B:Ops) (c112:C112) (p0:L73) (p1:LB) (k:AV→Objs→Option R) (n:Nat):afun tau B gl0 X111 (ent 112 (e112 c112) gnil) ow Tryd.f111 [.c (.list 73 ty73 p0),.fn 112 [.ptr 2500 0]] [(2500,.box 9 [.str p1])] k n=T111 B c112 p0 p1 (fun s=>A111 B c112 p0 p1 k s n) (K17 k) none:=by kernel_rfl
theorem el111 {R:Type} (B:Ops) (c112:C112) (p0:L73) (p1:LB) (k:AV→Objs→Option R) (n:Nat):∀ s,A111 B c112 p0 p1 k s (n+1)=T111 B c112 p0 p1 (fun s=>A111 B c112 p0 p1 k s n) (K17 k) (some s):=by
 intro s
 cases s<;>kernel_rfl
theorem nt111 {R R':Type} (B:Ops) (c112:C112) (p0:L73) (p1:LB) (again:S111→Option R) (again':S111→Option R') (k0:(Int×LB)→Option R') (k:R'→Option R) (h:∀ s,again s=ob (again' s) k):∀ s,T111 B c112 p0 p1 again (fun y=>ob (k0 y) k) s=ob (T111 B c112 p0 p1 again' k0 s) k:=by
 rintro (_ | x)
 all_goals try cases x
 all_goals (unfold T111;repeat' first | exact rfl | exact h _ | apply qab | (apply qah;intro))
def R111 (c112:C112) (p0:L73) (p1:LB):Nat→S111→Option (Int×LB)
 | 0,_=>none
 | n+1,s=>T111 Ops.std c112 p0 p1 (R111 c112 p0 p1 n) some (some s)
theorem rr111 {R:Type} (c112:C112) (p0:L73) (p1:LB) (k:AV→Objs→Option R):∀ (n:Nat) (s:S111),A111 Ops.std c112 p0 p1 k s n=ob (R111 c112 p0 p1 n s) (K17 k)
 | 0,s=>by cases s<;>rfl
 | n+1,s=>by rw [el111];exact nt111 Ops.std c112 p0 p1 _ _ some (K17 k) (rr111 c112 p0 p1 k n) (some s)
def F111 (c112:C112) (p0:L73) (p1:LB):Option (Int×LB):=T111 Ops.std c112 p0 p1 (R111 c112 p0 p1 1000000) some none
abbrev C111:Type:=L73→LB→Option (Int×LB)
def e111 {R:Type} (c:C111):Ent R:=eG [.aC (.cL 73 ty73),.aF 112 [.cP 2500]] [.oB 2500 9 [.cS]] fun v k=>ob (c v.1 v.2.1) (K17 k)
abbrev Sp111 (c:C111):Prop:=∀ (p0:L73) (p1:LB) (y:Int×LB),c p0 p1=some y→Spec Tryd.prog gl0 111 [.c (.list 73 ty73 p0),.fn 112 [.ptr 2500 0]] [(2500,.box 9 [.str p1])] (.c (.int .i64 y.1)) [(2500,.box 9 [.str y.2])]
theorem ek111 {R:Type} {c:C111} (hs:Sp111 c):EOk 111 (e111 (R:=R) c):=qam fun v=>hs v.1 v.2.1
theorem sf111 {c112:C112} (h112:Sp112 c112):Sp111 (F111 c112):=fun p0 p1 y hy=>by
 refine qae (qac (ek112 h112) qad) 1000000 (fn:=Tryd.f111) (by kernel_rfl) (by kernel_rfl) (X:=X111) (by kernel_rfl) ?_
 rw [eq111]
 exact (nt111 Ops.std c112 p0 p1 _ _ some (K17 k0) (rr111 c112 p0 p1 k0 1000000) none).trans (by show ob (F111 c112 p0 p1) _=_;rw [hy];rfl)
noncomputable def M111:C111:=F111 M112
theorem sm111:Sp111 M111:=sf111 sm112
def X113:Aux:=⟨[(2,([2,3,4,5,6]++rg 9 10))],[]⟩
inductive S113 where
 | l0 (v2 v3:Int)
def T113 {R:Type} (B:Ops) (p0:L9) (p1:LB) (again:S113→Option R) (k:(Int)→Option R):Option S113→Option R | none=>again (.l0 (↑p0.length) 0) | some (.l0 v2 v3)=>cond (B.lt v3 v2) (cond (B.inb v3 p0.length) (cond (p1 == p0.getD v3.toNat ty9.dflt) (k v3) (again (.l0 v2 (IntKind.wrap .i64 (v3+1))))) none) (k (-1))
def E113 (p0:L9) (p1:LB):S113→List AV×Objs
 | .l0 v2 v3=>(mk 19 [(0,.c (.list 9 ty9 p0)),(1,.c (.str p1)),(7,.c (.int .i64 v2)),(8,.c (.int .i64 v3))],[])
def I113:S113→Nat
 | .l0 _ _=>0
noncomputable abbrev A113 {R:Type} (B:Ops) (p0:L9) (p1:LB) (k:AV→Objs→Option R) (s:S113) (n:Nat):Option R:=aloop tau B gl0 X113 gnil ow [] Tryd.f113 k (I113 s) (E113 p0 p1 s) n
theorem eq113 {R:Type} (B:Ops) (p0:L9) (p1:LB) (k:AV→Objs→Option R) (n:Nat):afun tau B gl0 X113 gnil ow Tryd.f113 [.c (.list 9 ty9 p0),.c (.str p1)] [] k n=T113 B p0 p1 (fun s=>A113 B p0 p1 k s n) (K1 k) none:=by kernel_rfl
theorem el113 {R:Type} (B:Ops) (p0:L9) (p1:LB) (k:AV→Objs→Option R) (n:Nat):∀ s,A113 B p0 p1 k s (n+1)=T113 B p0 p1 (fun s=>A113 B p0 p1 k s n) (K1 k) (some s):=by
 intro s
 cases s<;>kernel_rfl
theorem nt113 {R R':Type} (B:Ops) (p0:L9) (p1:LB) (again:S113→Option R) (again':S113→Option R') (k0:(Int)→Option R') (k:R'→Option R) (h:∀ s,again s=ob (again' s) k):∀ s,T113 B p0 p1 again (fun y=>ob (k0 y) k) s=ob (T113 B p0 p1 again' k0 s) k:=by
 rintro (_ | x)
 all_goals try cases x
 all_goals (unfold T113;repeat' first | exact rfl | exact h _ | apply qab | (apply qah;intro))
def R113 (p0:L9) (p1:LB):Nat→S113→Option (Int)
 | 0,_=>none
 | n+1,s=>T113 Ops.std p0 p1 (R113 p0 p1 n) some (some s)
theorem rr113 {R:Type} (p0:L9) (p1:LB) (k:AV→Objs→Option R):∀ (n:Nat) (s:S113),A113 Ops.std p0 p1 k s n=ob (R113 p0 p1 n s) (K1 k)
 | 0,s=>by cases s<;>rfl
 | n+1,s=>by rw [el113];exact nt113 Ops.std p0 p1 _ _ some (K1 k) (rr113 p0 p1 k n) (some s)
def F113 (p0:L9) (p1:LB):Option (Int):=T113 Ops.std p0 p1 (R113 p0 p1 1000000) some none
abbrev C113:Type:=L9→LB→Option (Int)
def e113 {R:Type} (c:C113):Ent R:=eG [.aC (.cL 9 ty9),.aC .cS] [] fun v k=>ob (c v.1 v.2.1) (K1 k)
abbrev Sp113 (c:C113):Prop:=∀ (p0:L9) (p1:LB) (y:Int),c p0 p1=some y→Spec Tryd.prog gl0 113 [.c (.list 9 ty9 p0),.c (.str p1)] [] (.c (.int .i64 y)) []
theorem ek113 {R:Type} {c:C113} (hs:Sp113 c):EOk 113 (e113 (R:=R) c):=qam fun v=>hs v.1 v.2.1
theorem sf113:Sp113 (F113):=fun p0 p1 y hy=>by
 refine qae qad 1000000 (fn:=Tryd.f113) (by kernel_rfl) (by kernel_rfl) (X:=X113) (by kernel_rfl) ?_
 rw [eq113]
 exact (nt113 Ops.std p0 p1 _ _ some (K1 k0) (rr113 p0 p1 k0 1000000) none).trans (by show ob (F113 p0 p1) _=_;rw [hy];rfl)
noncomputable def M113:C113:=F113
theorem sm113:Sp113 M113:=sf113
def X69:Aux:=⟨[],[]⟩
def T69 {R:Type} (B:Ops) (c112:C112) (c111:C111) (c113:C113) (p0:L108) (p1:L73) (p2:L193) (p3 p4:LB) (k:(Int×Int)→Option R):Option R:=ob (c111 p1 p3) fun y0=>cond (B.lt y0.1 0) (k (-1,-1)) (cond (B.inb y0.1 p1.length) (ob (c113 (p1.getD (Int.toNat y0.1) ty73.dflt).2 p4) fun y1=>k (y0.1,y1)) none)
theorem eq69 {R:Type} (B:Ops) (c112:C112) (c111:C111) (c113:C113) (p0:L108) (p1:L73) (p2:L193) (p3 p4:LB) (k:AV→Objs→Option R) (n:Nat):afun tau B gl0 X69 (ent 112 (e112 c112) (ent 111 (e111 c111) (ent 113 (e113 c113) gnil))) ow Tryd.f69 [.agg [.list 108 ty108 p0,.list 73 ty73 p1,.list 193 ty193 p2],.c (.str p3),.c (.str p4)] [] k n=T69 B c112 c111 c113 p0 p1 p2 p3 p4 (K12 k):=by kernel_rfl
theorem nt69 {R R':Type} (B:Ops) (c112:C112) (c111:C111) (c113:C113) (p0:L108) (p1:L73) (p2:L193) (p3 p4:LB) (k0:(Int×Int)→Option R') (k:R'→Option R):T69 B c112 c111 c113 p0 p1 p2 p3 p4 (fun y=>ob (k0 y) k)=ob (T69 B c112 c111 c113 p0 p1 p2 p3 p4 k0) k:=by
 unfold T69
 repeat' first | exact rfl | apply qab | (apply qah;intro)
def F69 (c112:C112) (c111:C111) (c113:C113) (p0:L108) (p1:L73) (p2:L193) (p3 p4:LB):Option (Int×Int):=T69 Ops.std c112 c111 c113 p0 p1 p2 p3 p4 some
abbrev C69:Type:=L108→L73→L193→LB→LB→Option (Int×Int)
def e69 {R:Type} (c:C69):Ent R:=eG [.aG [.cL 108 ty108,.cL 73 ty73,.cL 193 ty193],.aC .cS,.aC .cS] [] fun v k=>ob (c v.1 v.2.1 v.2.2.1 v.2.2.2.1 v.2.2.2.2.1) (K12 k)
abbrev Sp69 (c:C69):Prop:=∀ (p0:L108) (p1:L73) (p2:L193) (p3 p4:LB) (y:Int×Int),c p0 p1 p2 p3 p4=some y→Spec Tryd.prog gl0 69 [.agg [.list 108 ty108 p0,.list 73 ty73 p1,.list 193 ty193 p2],.c (.str p3),.c (.str p4)] [] (.tup [(false,[.int .i64 y.1]),(false,[.int .i64 y.2])]) []
theorem ek69 {R:Type} {c:C69} (hs:Sp69 c):EOk 69 (e69 (R:=R) c):=qam fun v=>hs v.1 v.2.1 v.2.2.1 v.2.2.2.1 v.2.2.2.2.1
theorem sf69 {c112:C112} {c111:C111} {c113:C113} (h112:Sp112 c112) (h111:Sp111 c111) (h113:Sp113 c113):Sp69 (F69 c112 c111 c113):=fun p0 p1 p2 p3 p4 y hy=>by
 refine qae (qac (ek112 h112) (qac (ek111 h111) (qac (ek113 h113) qad))) 1000000 (fn:=Tryd.f69) (by kernel_rfl) (by kernel_rfl) (X:=X69) (by kernel_rfl) ?_
 rw [eq69]
 exact (nt69 Ops.std c112 c111 c113 p0 p1 p2 p3 p4 some (K12 k0)).trans (by show ob (F69 c112 c111 c113 p0 p1 p2 p3 p4) _=_;rw [hy];rfl)
noncomputable def M69:C69:=F69 M112 M111 M113
theorem sm69:Sp69 M69:=sf69 sm112 sm111 sm113
def X32:Aux:=⟨[(2,([0,3,4,5,6,7,8]++rg 12 28))],[]⟩
inductive S32 where
 | l0 (v2 v3:Int)
def T32 {R:Type} (B:Ops) (c68:C68) (c69:C69) (c22:C22) (p0:L108) (p1:L73) (p2:L193) (p3:L56) (again:S32→Option R) (k:(Bool)→Option R):Option S32→Option R | none=>again (.l0 (↑p3.length) 0) | some (.l0 v2 v3)=>cond (B.lt v3 v2) (cond (B.inb v3 p3.length) (cond (B.eq (p3.getD v3.toNat ty56.dflt).1 2) (ob (c68 p0 p1 p2 (((p3.getD v3.toNat ty56.dflt).2).2).1) fun y0=>cond (B.lt y0 0) (k false) (again (.l0 v2 (IntKind.wrap .i64 (v3+1))))) (cond (B.eq (p3.getD v3.toNat ty56.dflt).1 3) (ob (c69 p0 p1 p2 (((p3.getD v3.toNat ty56.dflt).2).2).1 (((p3.getD v3.toNat ty56.dflt).2).2).2) fun y0=>cond (B.lt y0.2 0) (k false) (again (.l0 v2 (IntKind.wrap .i64 (v3+1))))) (again (.l0 v2 (IntKind.wrap .i64 (v3+1)))))) none) (ob (c22 p3) fun y0=>k y0)
def E32 (p0:L108) (p1:L73) (p2:L193) (p3:L56):S32→List AV×Objs
 | .l0 v2 v3=>(mk 40 [(1,.c (.list 56 ty56 p3)),(2,.c (.ptr 2 0)),(9,.c (.list 56 ty56 p3)),(10,.c (.int .i64 v2)),(11,.c (.int .i64 v3))],[(2,.box 46 [.list 108 ty108 p0,.list 73 ty73 p1,.list 193 ty193 p2])])
def I32:S32→Nat
 | .l0 _ _=>0
noncomputable abbrev A32 {R:Type} (B:Ops) (c68:C68) (c69:C69) (c22:C22) (p0:L108) (p1:L73) (p2:L193) (p3:L56) (k:AV→Objs→Option R) (s:S32) (n:Nat):Option R:=aloop tau B gl0 X32 (ent 68 (e68 c68) (ent 69 (e69 c69) (ent 22 (e22 c22) gnil))) ow [] Tryd.f32 k (I32 s) (E32 p0 p1 p2 p3 s) n
theorem eq32 {R:Type} (B:Ops) (c68:C68) (c69:C69) (c22:C22) (p0:L108) (p1:L73) (p2:L193) (p3:L56) (k:AV→Objs→Option R) (n:Nat):afun tau B gl0 X32 (ent 68 (e68 c68) (ent 69 (e69 c69) (ent 22 (e22 c22) gnil))) ow Tryd.f32 [.agg [.list 108 ty108 p0,.list 73 ty73 p1,.list 193 ty193 p2],.c (.list 56 ty56 p3)] [] k n=T32 B c68 c69 c22 p0 p1 p2 p3 (fun s=>A32 B c68 c69 c22 p0 p1 p2 p3 k s n) (K2 k) none:=by kernel_rfl
theorem el32 {R:Type} (B:Ops) (c68:C68) (c69:C69) (c22:C22) (p0:L108) (p1:L73) (p2:L193) (p3:L56) (k:AV→Objs→Option R) (n:Nat):∀ s,A32 B c68 c69 c22 p0 p1 p2 p3 k s (n+1)=T32 B c68 c69 c22 p0 p1 p2 p3 (fun s=>A32 B c68 c69 c22 p0 p1 p2 p3 k s n) (K2 k) (some s):=by
 intro s
 cases s<;>kernel_rfl
theorem nt32 {R R':Type} (B:Ops) (c68:C68) (c69:C69) (c22:C22) (p0:L108) (p1:L73) (p2:L193) (p3:L56) (again:S32→Option R) (again':S32→Option R') (k0:(Bool)→Option R') (k:R'→Option R) (h:∀ s,again s=ob (again' s) k):∀ s,T32 B c68 c69 c22 p0 p1 p2 p3 again (fun y=>ob (k0 y) k) s=ob (T32 B c68 c69 c22 p0 p1 p2 p3 again' k0 s) k:=by
 rintro (_ | x)
 all_goals try cases x
 all_goals (unfold T32;repeat' first | exact rfl | exact h _ | apply qab | (apply qah;intro))
def R32 (c68:C68) (c69:C69) (c22:C22) (p0:L108) (p1:L73) (p2:L193) (p3:L56):Nat→S32→Option (Bool)
 | 0,_=>none
 | n+1,s=>T32 Ops.std c68 c69 c22 p0 p1 p2 p3 (R32 c68 c69 c22 p0 p1 p2 p3 n) some (some s)
theorem rr32 {R:Type} (c68:C68) (c69:C69) (c22:C22) (p0:L108) (p1:L73) (p2:L193) (p3:L56) (k:AV→Objs→Option R):∀ (n:Nat) (s:S32),A32 Ops.std c68 c69 c22 p0 p1 p2 p3 k s n=ob (R32 c68 c69 c22 p0 p1 p2 p3 n s) (K2 k)
 | 0,s=>by cases s<;>rfl
 | n+1,s=>by rw [el32];exact nt32 Ops.std c68 c69 c22 p0 p1 p2 p3 _ _ some (K2 k) (rr32 c68 c69 c22 p0 p1 p2 p3 k n) (some s)
def F32 (c68:C68) (c69:C69) (c22:C22) (p0:L108) (p1:L73) (p2:L193) (p3:L56):Option (Bool):=T32 Ops.std c68 c69 c22 p0 p1 p2 p3 (R32 c68 c69 c22 p0 p1 p2 p3 1000000) some none
abbrev C32:Type:=L108→L73→L193→L56→Option (Bool)
def e32 {R:Type} (c:C32):Ent R:=eG [.aG [.cL 108 ty108,.cL 73 ty73,.cL 193 ty193],.aC (.cL 56 ty56)] [] fun v k=>ob (c v.1 v.2.1 v.2.2.1 v.2.2.2.1) (K2 k)
abbrev Sp32 (c:C32):Prop:=∀ (p0:L108) (p1:L73) (p2:L193) (p3:L56) (y:Bool),c p0 p1 p2 p3=some y→Spec Tryd.prog gl0 32 [.agg [.list 108 ty108 p0,.list 73 ty73 p1,.list 193 ty193 p2],.c (.list 56 ty56 p3)] [] (.c (.bool y)) []
theorem ek32 {R:Type} {c:C32} (hs:Sp32 c):EOk 32 (e32 (R:=R) c):=qam fun v=>hs v.1 v.2.1 v.2.2.1 v.2.2.2.1
theorem sf32 {c68:C68} {c69:C69} {c22:C22} (h68:Sp68 c68) (h69:Sp69 c69) (h22:Sp22 c22):Sp32 (F32 c68 c69 c22):=fun p0 p1 p2 p3 y hy=>by
 refine qae (qac (ek68 h68) (qac (ek69 h69) (qac (ek22 h22) qad))) 1000000 (fn:=Tryd.f32) (by kernel_rfl) (by kernel_rfl) (X:=X32) (by kernel_rfl) ?_
 rw [eq32]
 exact (nt32 Ops.std c68 c69 c22 p0 p1 p2 p3 _ _ some (K2 k0) (rr32 c68 c69 c22 p0 p1 p2 p3 k0 1000000) none).trans (by show ob (F32 c68 c69 c22 p0 p1 p2 p3) _=_;rw [hy];rfl)
noncomputable def M32:C32:=F32 M68 M69 M22
theorem sm32:Sp32 M32:=sf32 sm68 sm69 sm22
def X70:Aux:=⟨[],[]⟩
def T70 {R:Type} (B:Ops) (p0:Int) (k:(Int)→Option R):Option R:=k (bif true then bif B.lt (-99999) (bif false then bif B.lt p0 99999 then 99999 else p0 else bif B.lt 99999 p0 then 99999 else p0) then bif false then bif B.lt p0 99999 then 99999 else p0 else bif B.lt 99999 p0 then 99999 else p0 else -99999 else bif B.lt (bif false then bif B.lt p0 99999 then 99999 else p0 else bif B.lt 99999 p0 then 99999 else p0) (-99999) then bif false then bif B.lt p0 99999 then 99999 else p0 else bif B.lt 99999 p0 then 99999 else p0 else -99999)
theorem eq70 {R:Type} (B:Ops) (p0:Int) (k:AV→Objs→Option R) (n:Nat):afun tau B gl0 X70 gnil ow Tryd.f70 [.c (.int .i64 p0)] [] k n=T70 B p0 (K1 k):=by kernel_rfl
theorem nt70 {R R':Type} (B:Ops) (p0:Int) (k0:(Int)→Option R') (k:R'→Option R):T70 B p0 (fun y=>ob (k0 y) k)=ob (T70 B p0 k0) k:=by
 unfold T70
 repeat' first | exact rfl | apply qab | (apply qah;intro)
def F70 (p0:Int):Option (Int):=T70 Ops.std p0 some
abbrev C70:Type:=Int→Option (Int)
def e70 {R:Type} (c:C70):Ent R:=eG [.aC (.cI .i64)] [] fun v k=>ob (c v.1) (K1 k)
abbrev Sp70 (c:C70):Prop:=∀ (p0 y:Int),c p0=some y→Spec Tryd.prog gl0 70 [.c (.int .i64 p0)] [] (.c (.int .i64 y)) []
theorem ek70 {R:Type} {c:C70} (hs:Sp70 c):EOk 70 (e70 (R:=R) c):=qam fun v=>hs v.1
theorem sf70:Sp70 (F70):=fun p0 y hy=>by
 refine qae qad 1000000 (fn:=Tryd.f70) (by kernel_rfl) (by kernel_rfl) (X:=X70) (by kernel_rfl) ?_
 rw [eq70]
 exact (nt70 Ops.std p0 some (K1 k0)).trans (by show ob (F70 p0) _=_;rw [hy];rfl)
noncomputable def M70:C70:=F70
theorem sm70:Sp70 M70:=sf70
def X71:Aux:=⟨[],[]⟩
def T71 {R:Type} (B:Ops) (p0:Bool) (k:(Int)→Option R):Option R:=cond (p0) (k 1) (k 0)
theorem eq71 {R:Type} (B:Ops) (p0:Bool) (k:AV→Objs→Option R) (n:Nat):afun tau B gl0 X71 gnil ow Tryd.f71 [.c (.bool p0)] [] k n=T71 B p0 (K1 k):=by kernel_rfl
theorem nt71 {R R':Type} (B:Ops) (p0:Bool) (k0:(Int)→Option R') (k:R'→Option R):T71 B p0 (fun y=>ob (k0 y) k)=ob (T71 B p0 k0) k:=by
 unfold T71
 repeat' first | exact rfl | apply qab | (apply qah;intro)
def F71 (p0:Bool):Option (Int):=T71 Ops.std p0 some
abbrev C71:Type:=Bool→Option (Int)
def e71 {R:Type} (c:C71):Ent R:=eG [.aC .cB] [] fun v k=>ob (c v.1) (K1 k)
abbrev Sp71 (c:C71):Prop:=∀ (p0:Bool) (y:Int),c p0=some y→Spec Tryd.prog gl0 71 [.c (.bool p0)] [] (.c (.int .i64 y)) []
theorem ek71 {R:Type} {c:C71} (hs:Sp71 c):EOk 71 (e71 (R:=R) c):=qam fun v=>hs v.1
theorem sf71:Sp71 (F71):=fun p0 y hy=>by
 refine qae qad 1000000 (fn:=Tryd.f71) (by kernel_rfl) (by kernel_rfl) (X:=X71) (by kernel_rfl) ?_
 rw [eq71]
 exact (nt71 Ops.std p0 some (K1 k0)).trans (by show ob (F71 p0) _=_;rw [hy];rfl)
noncomputable def M71:C71:=F71
theorem sm71:Sp71 M71:=sf71
def X72:Aux:=⟨[],[]⟩
def T72 {R:Type} (B:Ops) (c70:C70) (c71:C71) (p0 p1 p2:Int) (k:(Int)→Option R):Option R:=cond (B.eq p0 6) (ob (c70 (IntKind.wrap .i64 (p1*p2))) fun y0=>k y0) (cond (B.eq p0 7) (ob (c70 (IntKind.wrap .i64 (p1+p2))) fun y0=>k y0) (cond (B.eq p0 8) (ob (c70 (IntKind.wrap .i64 (p1-p2))) fun y0=>k y0) (cond (B.eq p0 9) (ob (c71 (B.lt p1 p2)) fun y0=>k y0) (cond (B.eq p0 10) (ob (c71 (B.le p1 p2)) fun y0=>k y0) (cond (B.eq p0 11) (ob (c71 (B.lt p2 p1)) fun y0=>k y0) (cond (B.eq p0 12) (ob (c71 (B.le p2 p1)) fun y0=>k y0) (cond (B.eq p0 13) (ob (c71 (B.eq p1 p2)) fun y0=>k y0) (cond (B.eq p0 14) (ob (c71 !B.eq p1 p2) fun y0=>k y0) (cond (B.eq p0 15) (cond (!B.eq p1 0) (ob (c71 !B.eq p2 0) fun y0=>k y0) (ob (c71 false) fun y0=>k y0)) (cond (!B.eq p1 0) (ob (c71 true) fun y0=>k y0) (ob (c71 !B.eq p2 0) fun y0=>k y0)))))))))))
theorem eq72 {R:Type} (B:Ops) (c70:C70) (c71:C71) (p0 p1 p2:Int) (k:AV→Objs→Option R) (n:Nat):afun tau B gl0 X72 (ent 70 (e70 c70) (ent 71 (e71 c71) gnil)) ow Tryd.f72 [.c (.int .i64 p0),.c (.int .i64 p1),.c (.int .i64 p2)] [] k n=T72 B c70 c71 p0 p1 p2 (K1 k):=by kernel_rfl
theorem nt72 {R R':Type} (B:Ops) (c70:C70) (c71:C71) (p0 p1 p2:Int) (k0:(Int)→Option R') (k:R'→Option R):T72 B c70 c71 p0 p1 p2 (fun y=>ob (k0 y) k)=ob (T72 B c70 c71 p0 p1 p2 k0) k:=by
 unfold T72
 repeat' first | exact rfl | apply qab | (apply qah;intro)
def F72 (c70:C70) (c71:C71) (p0 p1 p2:Int):Option (Int):=T72 Ops.std c70 c71 p0 p1 p2 some
abbrev C72:Type:=Int→Int→Int→Option (Int)
def e72 {R:Type} (c:C72):Ent R:=eG [.aC (.cI .i64),.aC (.cI .i64),.aC (.cI .i64)] [] fun v k=>ob (c v.1 v.2.1 v.2.2.1) (K1 k)
abbrev Sp72 (c:C72):Prop:=∀ (p0 p1 p2 y:Int),c p0 p1 p2=some y→Spec Tryd.prog gl0 72 [.c (.int .i64 p0),.c (.int .i64 p1),.c (.int .i64 p2)] [] (.c (.int .i64 y)) []
theorem ek72 {R:Type} {c:C72} (hs:Sp72 c):EOk 72 (e72 (R:=R) c):=qam fun v=>hs v.1 v.2.1 v.2.2.1
theorem sf72 {c70:C70} {c71:C71} (h70:Sp70 c70) (h71:Sp71 c71):Sp72 (F72 c70 c71):=fun p0 p1 p2 y hy=>by
 refine qae (qac (ek70 h70) (qac (ek71 h71) qad)) 1000000 (fn:=Tryd.f72) (by kernel_rfl) (by kernel_rfl) (X:=X72) (by kernel_rfl) ?_
 rw [eq72]
 exact (nt72 Ops.std c70 c71 p0 p1 p2 some (K1 k0)).trans (by show ob (F72 c70 c71 p0 p1 p2) _=_;rw [hy];rfl)
noncomputable def M72:C72:=F72 M70 M71
theorem sm72:Sp72 M72:=sf72 sm70 sm71
def X33:Aux:=⟨[(5,([0,1,2,5,6]++rg 8 28++rg 39 83))],[(14,.lin (rg 0 10)),(10,.lin (rg 0 13))]⟩
inductive S33 where
 | l0 (v1 v2:Int) (v8:L3)
def T33 {R:Type} (B:Ops) (c32:C32) (c50:C50) (c68:C68) (c70:C70) (c69:C69) (c71:C71) (c72:C72) (p0:L108) (p1:L73) (p2:L193) (p3 p4:L3) (p5:L56) (again:S33→Option R) (k:(Int)→Option R):Option S33→Option R | none=>ob (c32 p0 p1 p2 p5) fun y0=>cond (!y0) (k 0) (cond (!B.eq (↑p3.length) (↑p1.length)) (k 0) (cond (!B.eq (↑p4.length) (↑p0.length)) (k 0) (again (.l0 (↑p5.length) 0 (mt (Ty.den (Ty.int .i64))))))) | some (.l0 v1 v2 v8)=>cond (B.lt v2 v1) (cond (B.inb v2 p5.length) (ob (c50 (p5.getD v2.toNat ty56.dflt).1) fun y0=>cond (B.eq (p5.getD v2.toNat ty56.dflt).1 1) (cond (B.inb (IntKind.wrap .i64 (Nat.cast v8.length-y0)) (List.length v8+1)) (cond (B.lim (List.length (List.take (Int.toNat (IntKind.wrap .i64 (Nat.cast v8.length-y0))) v8)+List.length (((p5.getD v2.toNat ty56.dflt).2).1::mt (Ty.den (Ty.int .i64)))) 8) (again (.l0 v1 (IntKind.wrap .i64 (v2+1)) (List.take (Int.toNat (IntKind.wrap .i64 (Nat.cast v8.length-y0))) v8++((p5.getD v2.toNat ty56.dflt).2).1::mt (Ty.den (Ty.int .i64))))) none) none) (cond (B.eq (p5.getD v2.toNat ty56.dflt).1 2) (ob (c68 p0 p1 p2 (((p5.getD v2.toNat ty56.dflt).2).2).1) fun y1=>cond (B.inb y1 p4.length) (ob (c70 (p4.getD y1.toNat ty3.dflt)) fun y2=>cond (B.inb (IntKind.wrap .i64 (Nat.cast v8.length-y0)) (List.length v8+1)) (cond (B.lim (List.length (List.take (Int.toNat (IntKind.wrap .i64 (Nat.cast v8.length-y0))) v8)+List.length (y2::mt (Ty.den (Ty.int .i64)))) 8) (again (.l0 v1 (IntKind.wrap .i64 (v2+1)) (List.take (Int.toNat (IntKind.wrap .i64 (Nat.cast v8.length-y0))) v8++y2::mt (Ty.den (Ty.int .i64))))) none) none) none) (cond (B.eq (p5.getD v2.toNat ty56.dflt).1 3) (ob (c69 p0 p1 p2 (((p5.getD v2.toNat ty56.dflt).2).2).1 (((p5.getD v2.toNat ty56.dflt).2).2).2) fun y1=>cond (B.inb y1.1 p3.length) (ob (c71 (B.eq (p3.getD (Int.toNat y1.1) ty3.dflt) y1.2)) fun y2=>cond (B.inb (IntKind.wrap .i64 (Nat.cast v8.length-y0)) (List.length v8+1)) (cond (B.lim (List.length (List.take (Int.toNat (IntKind.wrap .i64 (Nat.cast v8.length-y0))) v8)+List.length (y2::mt (Ty.den (Ty.int .i64)))) 8) (again (.l0 v1 (IntKind.wrap .i64 (v2+1)) (List.take (Int.toNat (IntKind.wrap .i64 (Nat.cast v8.length-y0))) v8++y2::mt (Ty.den (Ty.int .i64))))) none) none) none) (cond (B.eq (p5.getD v2.toNat ty56.dflt).1 4) (cond (B.inb (IntKind.wrap .i64 (Nat.cast v8.length-y0)) v8.length) (ob (c71 (B.eq (v8.getD (Int.toNat (IntKind.wrap .i64 (Nat.cast v8.length-y0))) ty3.dflt) 0)) fun y1=>cond (B.inb (IntKind.wrap .i64 (Nat.cast v8.length-y0)) (List.length v8+1)) (cond (B.lim (List.length (List.take (Int.toNat (IntKind.wrap .i64 (Nat.cast v8.length-y0))) v8)+List.length (y1::mt (Ty.den (Ty.int .i64)))) 8) (again (.l0 v1 (IntKind.wrap .i64 (v2+1)) (List.take (Int.toNat (IntKind.wrap .i64 (Nat.cast v8.length-y0))) v8++y1::mt (Ty.den (Ty.int .i64))))) none) none) none) (cond (B.eq (p5.getD v2.toNat ty56.dflt).1 5) (cond (B.inb (IntKind.wrap .i64 (Nat.cast v8.length-y0)) v8.length) (ob (c70 (IntKind.wrap .i64 (0-v8.getD (Int.toNat (IntKind.wrap .i64 (Nat.cast v8.length-y0))) ty3.dflt))) fun y1=>cond (B.inb (IntKind.wrap .i64 (Nat.cast v8.length-y0)) (List.length v8+1)) (cond (B.lim (List.length (List.take (Int.toNat (IntKind.wrap .i64 (Nat.cast v8.length-y0))) v8)+List.length (y1::mt (Ty.den (Ty.int .i64)))) 8) (again (.l0 v1 (IntKind.wrap .i64 (v2+1)) (List.take (Int.toNat (IntKind.wrap .i64 (Nat.cast v8.length-y0))) v8++y1::mt (Ty.den (Ty.int .i64))))) none) none) none) (cond (B.inb (IntKind.wrap .i64 (Nat.cast v8.length-y0)) v8.length) (cond (B.inb (IntKind.wrap .i64 (IntKind.wrap .i64 (Nat.cast v8.length-y0)+1)) v8.length) (ob (c72 (p5.getD v2.toNat ty56.dflt).1 (v8.getD (Int.toNat (IntKind.wrap .i64 (Nat.cast v8.length-y0))) ty3.dflt) (v8.getD (Int.toNat (IntKind.wrap .i64 (IntKind.wrap .i64 (Nat.cast v8.length-y0)+1))) ty3.dflt)) fun y1=>cond (B.inb (IntKind.wrap .i64 (Nat.cast v8.length-y0)) (List.length v8+1)) (cond (B.lim (List.length (List.take (Int.toNat (IntKind.wrap .i64 (Nat.cast v8.length-y0))) v8)+List.length (y1::mt (Ty.den (Ty.int .i64)))) 8) (again (.l0 v1 (IntKind.wrap .i64 (v2+1)) (List.take (Int.toNat (IntKind.wrap .i64 (Nat.cast v8.length-y0))) v8++y1::mt (Ty.den (Ty.int .i64))))) none) none) none) none)))))) none) (cond (B.inb 0 v8.length) (k (v8.getD (Int.toNat 0) ty3.dflt)) none)
def E33 (p0:L108) (p1:L73) (p2:L193) (p3 p4:L3) (p5:L56):S33→List AV×Objs
 | .l0 v1 v2 v8=>(mk 122 [(3,.c (.ptr 3 0)),(4,.c (.ptr 4 0)),(7,.c (.own 7)),(36,.c (.list 56 ty56 p5)),(37,.c (.int .i64 v1)),(38,.c (.int .i64 v2))],[(3,.box 46 [.list 108 ty108 p0,.list 73 ty73 p1,.list 193 ty193 p2]),(4,.box 48 [.list 3 ty3 p3,.list 3 ty3 p4]),(7,.row 3 ty3 v8)])
def I33:S33→Nat
 | .l0 _ _ _=>0
noncomputable abbrev A33 {R:Type} (B:Ops) (c32:C32) (c50:C50) (c68:C68) (c70:C70) (c69:C69) (c71:C71) (c72:C72) (p0:L108) (p1:L73) (p2:L193) (p3 p4:L3) (p5:L56) (k:AV→Objs→Option R) (s:S33) (n:Nat):Option R:=aloop tau B gl0 X33 (ent 32 (e32 c32) (ent 50 (e50 c50) (ent 68 (e68 c68) (ent 70 (e70 c70) (ent 69 (e69 c69) (ent 71 (e71 c71) (ent 72 (e72 c72) gnil))))))) ow [] Tryd.f33 k (I33 s) (E33 p0 p1 p2 p3 p4 p5 s) n
theorem eq33 {R:Type} (B:Ops) (c32:C32) (c50:C50) (c68:C68) (c70:C70) (c69:C69) (c71:C71) (c72:C72) (p0:L108) (p1:L73) (p2:L193) (p3 p4:L3) (p5:L56) (k:AV→Objs→Option R) (n:Nat):afun tau B gl0 X33 (ent 32 (e32 c32) (ent 50 (e50 c50) (ent 68 (e68 c68) (ent 70 (e70 c70) (ent 69 (e69 c69) (ent 71 (e71 c71) (ent 72 (e72 c72) gnil))))))) ow Tryd.f33 [.agg [.list 108 ty108 p0,.list 73 ty73 p1,.list 193 ty193 p2],.agg [.list 3 ty3 p3,.list 3 ty3 p4],.c (.list 56 ty56 p5)] [] k n=T33 B c32 c50 c68 c70 c69 c71 c72 p0 p1 p2 p3 p4 p5 (fun s=>A33 B c32 c50 c68 c70 c69 c71 c72 p0 p1 p2 p3 p4 p5 k s n) (K1 k) none:=by kernel_rfl
theorem el33 {R:Type} (B:Ops) (c32:C32) (c50:C50) (c68:C68) (c70:C70) (c69:C69) (c71:C71) (c72:C72) (p0:L108) (p1:L73) (p2:L193) (p3 p4:L3) (p5:L56) (k:AV→Objs→Option R) (n:Nat):∀ s,A33 B c32 c50 c68 c70 c69 c71 c72 p0 p1 p2 p3 p4 p5 k s (n+1)=T33 B c32 c50 c68 c70 c69 c71 c72 p0 p1 p2 p3 p4 p5 (fun s=>A33 B c32 c50 c68 c70 c69 c71 c72 p0 p1 p2 p3 p4 p5 k s n) (K1 k) (some s):=by
 intro s
 cases s<;>kernel_rfl
theorem nt33 {R R':Type} (B:Ops) (c32:C32) (c50:C50) (c68:C68) (c70:C70) (c69:C69) (c71:C71) (c72:C72) (p0:L108) (p1:L73) (p2:L193) (p3 p4:L3) (p5:L56) (again:S33→Option R) (again':S33→Option R') (k0:(Int)→Option R') (k:R'→Option R) (h:∀ s,again s=ob (again' s) k):∀ s,T33 B c32 c50 c68 c70 c69 c71 c72 p0 p1 p2 p3 p4 p5 again (fun y=>ob (k0 y) k) s=ob (T33 B c32 c50 c68 c70 c69 c71 c72 p0 p1 p2 p3 p4 p5 again' k0 s) k:=by
 rintro (_ | x)
 all_goals try cases x
 all_goals (unfold T33;repeat' first | exact rfl | exact h _ | apply qab | (apply qah;intro))
def R33 (c32:C32) (c50:C50) (c68:C68) (c70:C70) (c69:C69) (c71:C71) (c72:C72) (p0:L108) (p1:L73) (p2:L193) (p3 p4:L3) (p5:L56):Nat→S33→Option (Int)
 | 0,_=>none
 | n+1,s=>T33 Ops.std c32 c50 c68 c70 c69 c71 c72 p0 p1 p2 p3 p4 p5 (R33 c32 c50 c68 c70 c69 c71 c72 p0 p1 p2 p3 p4 p5 n) some (some s)
theorem rr33 {R:Type} (c32:C32) (c50:C50) (c68:C68) (c70:C70) (c69:C69) (c71:C71) (c72:C72) (p0:L108) (p1:L73) (p2:L193) (p3 p4:L3) (p5:L56) (k:AV→Objs→Option R):∀ (n:Nat) (s:S33),A33 Ops.std c32 c50 c68 c70 c69 c71 c72 p0 p1 p2 p3 p4 p5 k s n=ob (R33 c32 c50 c68 c70 c69 c71 c72 p0 p1 p2 p3 p4 p5 n s) (K1 k)
 | 0,s=>by cases s<;>rfl
 | n+1,s=>by rw [el33];exact nt33 Ops.std c32 c50 c68 c70 c69 c71 c72 p0 p1 p2 p3 p4 p5 _ _ some (K1 k) (rr33 c32 c50 c68 c70 c69 c71 c72 p0 p1 p2 p3 p4 p5 k n) (some s)
def F33 (c32:C32) (c50:C50) (c68:C68) (c70:C70) (c69:C69) (c71:C71) (c72:C72) (p0:L108) (p1:L73) (p2:L193) (p3 p4:L3) (p5:L56):Option (Int):=T33 Ops.std c32 c50 c68 c70 c69 c71 c72 p0 p1 p2 p3 p4 p5 (R33 c32 c50 c68 c70 c69 c71 c72 p0 p1 p2 p3 p4 p5 1000000) some none
abbrev C33:Type:=L108→L73→L193→L3→L3→L56→Option (Int)
def e33 {R:Type} (c:C33):Ent R:=eG [.aG [.cL 108 ty108,.cL 73 ty73,.cL 193 ty193],.aG [.cL 3 ty3,.cL 3 ty3],.aC (.cL 56 ty56)] [] fun v k=>ob (c v.1 v.2.1 v.2.2.1 v.2.2.2.1 v.2.2.2.2.1 v.2.2.2.2.2.1) (K1 k)
abbrev Sp33 (c:C33):Prop:=∀ (p0:L108) (p1:L73) (p2:L193) (p3 p4:L3) (p5:L56) (y:Int),c p0 p1 p2 p3 p4 p5=some y→Spec Tryd.prog gl0 33 [.agg [.list 108 ty108 p0,.list 73 ty73 p1,.list 193 ty193 p2],.agg [.list 3 ty3 p3,.list 3 ty3 p4],.c (.list 56 ty56 p5)] [] (.c (.int .i64 y)) []
theorem ek33 {R:Type} {c:C33} (hs:Sp33 c):EOk 33 (e33 (R:=R) c):=qam fun v=>hs v.1 v.2.1 v.2.2.1 v.2.2.2.1 v.2.2.2.2.1 v.2.2.2.2.2.1
theorem sf33 {c32:C32} {c50:C50} {c68:C68} {c70:C70} {c69:C69} {c71:C71} {c72:C72} (h32:Sp32 c32) (h50:Sp50 c50) (h68:Sp68 c68) (h70:Sp70 c70) (h69:Sp69 c69) (h71:Sp71 c71) (h72:Sp72 c72):Sp33 (F33 c32 c50 c68 c70 c69 c71 c72):=fun p0 p1 p2 p3 p4 p5 y hy=>by
 refine qae (qac (ek32 h32) (qac (ek50 h50) (qac (ek68 h68) (qac (ek70 h70) (qac (ek69 h69) (qac (ek71 h71) (qac (ek72 h72) qad))))))) 1000000 (fn:=Tryd.f33) (by kernel_rfl) (by kernel_rfl) (X:=X33) (by kernel_rfl) ?_
 rw [eq33]
 exact (nt33 Ops.std c32 c50 c68 c70 c69 c71 c72 p0 p1 p2 p3 p4 p5 _ _ some (K1 k0) (rr33 c32 c50 c68 c70 c69 c71 c72 p0 p1 p2 p3 p4 p5 k0 1000000) none).trans (by show ob (F33 c32 c50 c68 c70 c69 c71 c72 p0 p1 p2 p3 p4 p5) _=_;rw [hy];rfl)
noncomputable def M33:C33:=F33 M32 M50 M68 M70 M69 M71 M72
theorem sm33:Sp33 M33:=sf33 sm32 sm50 sm68 sm70 sm69 sm71 sm72
def X59:Aux:=⟨[],[]⟩
def T59 {R:Type} (B:Ops) (p0:Int) (k:(Bool)→Option R):Option R:=cond (B.le 48 p0) (k (B.le p0 57)) (k false)
theorem eq59 {R:Type} (B:Ops) (p0:Int) (k:AV→Objs→Option R) (n:Nat):afun tau B gl0 X59 gnil ow Tryd.f59 [.c (.int .u8 p0)] [] k n=T59 B p0 (K2 k):=by kernel_rfl
theorem nt59 {R R':Type} (B:Ops) (p0:Int) (k0:(Bool)→Option R') (k:R'→Option R):T59 B p0 (fun y=>ob (k0 y) k)=ob (T59 B p0 k0) k:=by
 unfold T59
 repeat' first | exact rfl | apply qab | (apply qah;intro)
def F59 (p0:Int):Option (Bool):=T59 Ops.std p0 some
abbrev C59:Type:=Int→Option (Bool)
def e59 {R:Type} (c:C59):Ent R:=eG [.aC (.cI .u8)] [] fun v k=>ob (c v.1) (K2 k)
abbrev Sp59 (c:C59):Prop:=∀ (p0:Int) (y:Bool),c p0=some y→Spec Tryd.prog gl0 59 [.c (.int .u8 p0)] [] (.c (.bool y)) []
theorem ek59 {R:Type} {c:C59} (hs:Sp59 c):EOk 59 (e59 (R:=R) c):=qam fun v=>hs v.1
theorem sf59:Sp59 (F59):=fun p0 y hy=>by
 refine qae qad 1000000 (fn:=Tryd.f59) (by kernel_rfl) (by kernel_rfl) (X:=X59) (by kernel_rfl) ?_
 rw [eq59]
 exact (nt59 Ops.std p0 some (K2 k0)).trans (by show ob (F59 p0) _=_;rw [hy];rfl)
noncomputable def M59:C59:=F59
theorem sm59:Sp59 M59:=sf59
def X60:Aux:=⟨[],[]⟩
def T60 {R:Type} (B:Ops) (p0:Int) (k:(Bool)→Option R):Option R:=cond (B.le 97 p0) (cond (B.le p0 122) (k true) (k (B.eq p0 95))) (k (B.eq p0 95))
theorem eq60 {R:Type} (B:Ops) (p0:Int) (k:AV→Objs→Option R) (n:Nat):afun tau B gl0 X60 gnil ow Tryd.f60 [.c (.int .u8 p0)] [] k n=T60 B p0 (K2 k):=by kernel_rfl
theorem nt60 {R R':Type} (B:Ops) (p0:Int) (k0:(Bool)→Option R') (k:R'→Option R):T60 B p0 (fun y=>ob (k0 y) k)=ob (T60 B p0 k0) k:=by
 unfold T60
 repeat' first | exact rfl | apply qab | (apply qah;intro)
def F60 (p0:Int):Option (Bool):=T60 Ops.std p0 some
abbrev C60:Type:=Int→Option (Bool)
def e60 {R:Type} (c:C60):Ent R:=eG [.aC (.cI .u8)] [] fun v k=>ob (c v.1) (K2 k)
abbrev Sp60 (c:C60):Prop:=∀ (p0:Int) (y:Bool),c p0=some y→Spec Tryd.prog gl0 60 [.c (.int .u8 p0)] [] (.c (.bool y)) []
theorem ek60 {R:Type} {c:C60} (hs:Sp60 c):EOk 60 (e60 (R:=R) c):=qam fun v=>hs v.1
theorem sf60:Sp60 (F60):=fun p0 y hy=>by
 refine qae qad 1000000 (fn:=Tryd.f60) (by kernel_rfl) (by kernel_rfl) (X:=X60) (by kernel_rfl) ?_
 rw [eq60]
 exact (nt60 Ops.std p0 some (K2 k0)).trans (by show ob (F60 p0) _=_;rw [hy];rfl)
noncomputable def M60:C60:=F60
theorem sm60:Sp60 M60:=sf60
def X61:Aux:=⟨[(3,([1,2]++rg 5 37)),(9,([1,2,3,4]++rg 7 35))],[(5,.lin (rg 0 11)),(11,.lin [0,1,2,3,4,5,6,7])]⟩
inductive S61 where
 | l0 (v1:Int)
 | l1 (v2:Int)
def T61 {R:Type} (B:Ops) (p0:LB) (again:S61→Option R) (k:(LB)→Option R):Option S61→Option R | none=>again (.l0 0) | some (.l0 v1)=>cond (B.lt v1 7) (cond (B.lt 1 (↑p0.length)) (cond (B.inb 2 (List.length p0+1)) (cond (B.inb v1 9) (cond (List.drop 0 (List.take (Int.toNat 2) p0) == List.getD (([60,61]:LB)::([62,61]:LB)::([61,61]:LB)::([33,61]:LB)::([38,38]:LB)::([124,124]:LB)::([45,62]:LB)::(mt UInt8)::(mt UInt8)::mt LB) v1.toNat (mt UInt8)) (cond (B.inb v1 9) (k (List.getD (([60,61]:LB)::([62,61]:LB)::([61,61]:LB)::([33,61]:LB)::([38,38]:LB)::([124,124]:LB)::([45,62]:LB)::(mt UInt8)::(mt UInt8)::mt LB) v1.toNat (mt UInt8))) none) (again (.l0 (IntKind.wrap .i64 (v1+1))))) none) none) (again (.l0 (IntKind.wrap .i64 (v1+1))))) (again (.l1 0)) | some (.l1 v2)=>cond (B.lt v2 (Nat.cast 13)) (cond (B.inb 1 (List.length p0+1)) (cond (B.inb (IntKind.wrap .i64 (v2+1)) (13+1)) (cond (bif B.le 0 v2 then B.le v2 (IntKind.wrap .i64 (v2+1)) else false) (cond (List.drop 0 (List.take (Int.toNat 1) p0) == List.drop v2.toNat (List.take (Int.toNat (IntKind.wrap .i64 (v2+1))) ([40,41,91,93,43,45,42,60,62,33,64,59,61]:LB))) (cond (B.inb 1 (List.length p0+1)) (k (List.drop 0 (List.take (Int.toNat 1) p0))) none) (again (.l1 (IntKind.wrap .i64 (v2+1))))) none) none) none) (k (mt UInt8))
def E61 (p0:LB):S61→List AV×Objs
 | .l0 v1=>(mk 42 [(0,.c (.str p0)),(3,.c (.ptr 3 0)),(4,.c (.int .i64 v1))],[(3,.box 139 [.str ([60,61]:LB),.str ([62,61]:LB),.str ([61,61]:LB),.str ([33,61]:LB),.str ([38,38]:LB),.str ([124,124]:LB),.str ([45,62]:LB),.str (mt UInt8),.str (mt UInt8)])])
 | .l1 v2=>(mk 42 [(0,.c (.str p0)),(5,.c (.str ([40,41,91,93,43,45,42,60,62,33,64,59,61]:LB))),(6,.c (.int .i64 v2))],[])
def I61:S61→Nat
 | .l0 _=>0
 | .l1 _=>1
noncomputable abbrev A61 {R:Type} (B:Ops) (p0:LB) (k:AV→Objs→Option R) (s:S61) (n:Nat):Option R:=aloop tau B gl0 X61 gnil ow [] Tryd.f61 k (I61 s) (E61 p0 s) n
theorem eq61 {R:Type} (B:Ops) (p0:LB) (k:AV→Objs→Option R) (n:Nat):afun tau B gl0 X61 gnil ow Tryd.f61 [.c (.str p0)] [] k n=T61 B p0 (fun s=>A61 B p0 k s n) (K3 k) none:=by kernel_rfl
theorem el61 {R:Type} (B:Ops) (p0:LB) (k:AV→Objs→Option R) (n:Nat):∀ s,A61 B p0 k s (n+1)=T61 B p0 (fun s=>A61 B p0 k s n) (K3 k) (some s):=by
 intro s
 cases s<;>kernel_rfl
theorem nt61 {R R':Type} (B:Ops) (p0:LB) (again:S61→Option R) (again':S61→Option R') (k0:(LB)→Option R') (k:R'→Option R) (h:∀ s,again s=ob (again' s) k):∀ s,T61 B p0 again (fun y=>ob (k0 y) k) s=ob (T61 B p0 again' k0 s) k:=by
 rintro (_ | x)
 all_goals try cases x
 all_goals (unfold T61;repeat' first | exact rfl | exact h _ | apply qab | (apply qah;intro))
def R61 (p0:LB):Nat→S61→Option (LB)
 | 0,_=>none
 | n+1,s=>T61 Ops.std p0 (R61 p0 n) some (some s)
theorem rr61 {R:Type} (p0:LB) (k:AV→Objs→Option R):∀ (n:Nat) (s:S61),A61 Ops.std p0 k s n=ob (R61 p0 n s) (K3 k)
 | 0,s=>by cases s<;>rfl
 | n+1,s=>by rw [el61];exact nt61 Ops.std p0 _ _ some (K3 k) (rr61 p0 k n) (some s)
def F61 (p0:LB):Option (LB):=T61 Ops.std p0 (R61 p0 1000000) some none
abbrev C61:Type:=LB→Option (LB)
def e61 {R:Type} (c:C61):Ent R:=eG [.aC .cS] [] fun v k=>ob (c v.1) (K3 k)
abbrev Sp61 (c:C61):Prop:=∀ (p0 y:LB),c p0=some y→Spec Tryd.prog gl0 61 [.c (.str p0)] [] (.c (.str y)) []
theorem ek61 {R:Type} {c:C61} (hs:Sp61 c):EOk 61 (e61 (R:=R) c):=qam fun v=>hs v.1
theorem sf61:Sp61 (F61):=fun p0 y hy=>by
 refine qae qad 1000000 (fn:=Tryd.f61) (by kernel_rfl) (by kernel_rfl) (X:=X61) (by kernel_rfl) ?_
 rw [eq61]
 exact (nt61 Ops.std p0 _ _ some (K3 k0) (rr61 p0 k0 1000000) none).trans (by show ob (F61 p0) _=_;rw [hy];rfl)
noncomputable def M61:C61:=F61
theorem sm61:Sp61 M61:=sf61
def X23:Aux:=⟨[(5,([1,2,3,4]++rg 7 144)),(17,([1,2,3,4]++rg 9 142)),(25,([1,2,3,4]++rg 9 142)),(1000020,([1,2,3,4]++rg 9 142)),(1000026,([1,2,3,4]++rg 9 142)),(1000027,([1,2,3,4]++rg 9 142)),(1000031,([1,2,3,4,7]++rg 9 142)),(1000010,([1,2,3,4,7]++rg 9 142)),(1000032,([1,2,3,4]++rg 9 142))],[(19,.lin (rg 0 13))]⟩
inductive S23 where
 | l0 (v1:Int) (v2:L85)
 | l1 (v1 v2:Int) (v3:L85) (v6 v7:Int)
 | l2 (v1 v2:Int) (v3:L85) (v7:Int)
 | l1010 (v1:Int) (v2:L85) (v6:Int)
 | l1020 (v1 v2:Int) (v3:L85) (v6 v7:Int)
 | l1026 (v1 v2:Int) (v3:L85) (v7:Int)
 | l1027 (v1 v2:Int) (v3:L85) (v7:Int)
 | l1031 (v1:Int) (v2:L85) (v6:Int)
 | l1032 (v1 v2:Int) (v3:L85) (v4 v6 v7:Int)
def T23 {R:Type} (B:Ops) (c59:C59) (c60:C60) (c61:C61) (p0:LB) (again:S23→Option R) (k:(Int×Int×L85)→Option R):Option S23→Option R | none=>cond (B.lt 60000 (↑p0.length)) (k ((14,0,mt (Ty.den ty85)))) (again (.l0 0 (mt (Ty.den ty85)))) | some (.l0 v1 v2)=>cond (B.lt v1 (↑p0.length)) (cond (B.inb v1 p0.length) (cond (B.eq (Nat.cast (UInt8.toNat (p0.getD v1.toNat 0))) 32) (again (.l0 (IntKind.wrap .i64 (v1+1)) v2)) (cond (B.eq (Nat.cast (UInt8.toNat (p0.getD v1.toNat 0))) 9) (again (.l0 (IntKind.wrap .i64 (v1+1)) v2)) (cond (B.eq (Nat.cast (UInt8.toNat (p0.getD v1.toNat 0))) 10) (again (.l0 (IntKind.wrap .i64 (v1+1)) v2)) (ob (c59 (Nat.cast (UInt8.toNat (p0.getD v1.toNat 0)))) fun y0=>cond (y0) (again (.l1 v1 0 v2 0 v1)) (ob (c60 (Nat.cast (UInt8.toNat (p0.getD v1.toNat 0)))) fun y1=>cond (y1) (again (.l2 v1 0 v2 v1)) (cond (B.eq (Nat.cast (UInt8.toNat (p0.getD v1.toNat 0))) 88) (again (.l1031 v1 v2 v1)) (cond (B.eq (Nat.cast (UInt8.toNat (p0.getD v1.toNat 0))) 70) (again (.l1031 v1 v2 v1)) (cond (B.eq (Nat.cast (UInt8.toNat (p0.getD v1.toNat 0))) 71) (again (.l1031 v1 v2 v1)) (cond (B.eq (Nat.cast (UInt8.toNat (p0.getD v1.toNat 0))) 85) (again (.l1031 v1 v2 v1)) (cond (B.eq (Nat.cast (UInt8.toNat (p0.getD v1.toNat 0))) 82) (again (.l1031 v1 v2 v1)) (again (.l1010 v1 v2 v1)))))))))))) none) (cond (B.lim (List.length v2+List.length ((5,mt UInt8,0,v1)::mt (Ty.den ty85))) 40) (k ((0,0,v2++(5,mt UInt8,0,v1)::mt (Ty.den ty85)))) none) | some (.l1 v1 v2 v3 v6 v7)=>cond (B.lt (IntKind.wrap .i64 (v1+v2)) (↑p0.length)) (cond (B.inb (IntKind.wrap .i64 (v1+v2)) p0.length) (ob (c59 (Nat.cast (UInt8.toNat (p0.getD (Int.toNat (IntKind.wrap .i64 (v1+v2))) 0)))) fun y0=>cond (y0) (cond (B.lt v2 3) (cond (B.inb (IntKind.wrap .i64 (v1+v2)) p0.length) (again (.l1020 v1 v2 v3 (IntKind.wrap .i64 (IntKind.wrap .i64 (10*v6)+IntKind.wrap .i64 (IntKind.wrap IntKind.u8 (Nat.cast (UInt8.toNat (p0.getD (Int.toNat (IntKind.wrap .i64 (v1+v2))) 0))-48)))) v7)) none) (again (.l1020 v1 v2 v3 v6 v7))) (cond (B.lt 3 v2) (k ((2,v1,mt (Ty.den ty85)))) (again (.l1032 v1 v2 v3 1 v6 v7)))) none) (cond (B.lt 3 v2) (k ((2,v1,mt (Ty.den ty85)))) (again (.l1032 v1 v2 v3 1 v6 v7))) | some (.l2 v1 v2 v3 v7)=>cond (B.lt (IntKind.wrap .i64 (v1+v2)) (↑p0.length)) (cond (B.inb (IntKind.wrap .i64 (v1+v2)) p0.length) (ob (c60 (Nat.cast (UInt8.toNat (p0.getD (Int.toNat (IntKind.wrap .i64 (v1+v2))) 0)))) fun y0=>cond (y0) (again (.l1026 v1 v2 v3 v7)) (cond (B.inb (IntKind.wrap .i64 (v1+v2)) p0.length) (ob (c59 (Nat.cast (UInt8.toNat (p0.getD (Int.toNat (IntKind.wrap .i64 (v1+v2))) 0)))) fun y1=>cond (y1) (again (.l1026 v1 v2 v3 v7)) (again (.l1027 v1 v2 v3 v7))) none)) none) (again (.l1027 v1 v2 v3 v7)) | some (.l1010 v1 v2 v6)=>cond (B.inb v1 (List.length p0+1)) (ob (c61 (List.drop v1.toNat (List.take p0.length p0))) fun y0=>cond (B.eq (↑y0.length) 0) (k ((2,v1,mt (Ty.den ty85)))) (again (.l1032 v1 (↑y0.length) v2 4 0 v6))) none | some (.l1020 v1 v2 v3 v6 v7)=>again (.l1 v1 (IntKind.wrap .i64 (v2+1)) v3 v6 v7) | some (.l1026 v1 v2 v3 v7)=>again (.l2 v1 (IntKind.wrap .i64 (v2+1)) v3 v7) | some (.l1027 v1 v2 v3 v7)=>cond (B.lt 8 v2) (k ((2,v1,mt (Ty.den ty85)))) (again (.l1032 v1 v2 v3 2 0 v7)) | some (.l1031 v1 v2 v6)=>again (.l1032 v1 1 v2 3 0 v6) | some (.l1032 v1 v2 v3 v4 v6 v7)=>cond (B.inb (IntKind.wrap .i64 (v1+v2)) (List.length p0+1)) (cond (bif B.le 0 v1 then B.le v1 (IntKind.wrap .i64 (v1+v2)) else false) (cond (B.lim (List.length v3+List.length ((v4,List.drop v1.toNat (List.take (Int.toNat (IntKind.wrap .i64 (v1+v2))) p0),v6,v7)::mt (Ty.den ty85))) 40) (again (.l0 (IntKind.wrap .i64 (v1+v2)) (v3++(v4,List.drop v1.toNat (List.take (Int.toNat (IntKind.wrap .i64 (v1+v2))) p0),v6,v7)::mt (Ty.den ty85)))) none) none) none
def E23 (p0:LB):S23→List AV×Objs
 | .l0 v1 v2=>(mk 151 [(0,.c (.str p0)),(5,.c (.own 5)),(6,.c (.int .i64 v1))],[(5,.row 85 ty85 v2)])
 | .l1 v1 v2 v3 v6 v7=>(mk 151 [(0,.c (.str p0)),(5,.c (.own 5)),(6,.c (.int .i64 v1)),(7,.c (.int .i64 v2)),(8,.c (.ptr 8 0))],[(5,.row 85 ty85 v3),(8,.box 85 [.int .i64 1,.str (mt UInt8),.int .i64 v6,.int .i64 v7])])
 | .l2 v1 v2 v3 v7=>(mk 151 [(0,.c (.str p0)),(5,.c (.own 5)),(6,.c (.int .i64 v1)),(7,.c (.int .i64 v2)),(8,.c (.ptr 8 0))],[(5,.row 85 ty85 v3),(8,.box 85 [.int .i64 2,.str (mt UInt8),.int .i64 0,.int .i64 v7])])
 | .l1010 v1 v2 v6=>(mk 151 [(0,.c (.str p0)),(5,.c (.own 5)),(6,.c (.int .i64 v1)),(8,.c (.ptr 8 0))],[(5,.row 85 ty85 v2),(8,.box 85 [.int .i64 4,.str (mt UInt8),.int .i64 0,.int .i64 v6])])
 | .l1020 v1 v2 v3 v6 v7=>(mk 151 [(0,.c (.str p0)),(5,.c (.own 5)),(6,.c (.int .i64 v1)),(7,.c (.int .i64 v2)),(8,.c (.ptr 8 0))],[(5,.row 85 ty85 v3),(8,.box 85 [.int .i64 1,.str (mt UInt8),.int .i64 v6,.int .i64 v7])])
 | .l1026 v1 v2 v3 v7=>(mk 151 [(0,.c (.str p0)),(5,.c (.own 5)),(6,.c (.int .i64 v1)),(7,.c (.int .i64 v2)),(8,.c (.ptr 8 0))],[(5,.row 85 ty85 v3),(8,.box 85 [.int .i64 2,.str (mt UInt8),.int .i64 0,.int .i64 v7])])
 | .l1027 v1 v2 v3 v7=>(mk 151 [(0,.c (.str p0)),(5,.c (.own 5)),(6,.c (.int .i64 v1)),(7,.c (.int .i64 v2)),(8,.c (.ptr 8 0))],[(5,.row 85 ty85 v3),(8,.box 85 [.int .i64 2,.str (mt UInt8),.int .i64 0,.int .i64 v7])])
 | .l1031 v1 v2 v6=>(mk 151 [(0,.c (.str p0)),(5,.c (.own 5)),(6,.c (.int .i64 v1)),(8,.c (.ptr 8 0))],[(5,.row 85 ty85 v2),(8,.box 85 [.int .i64 3,.str (mt UInt8),.int .i64 0,.int .i64 v6])])
 | .l1032 v1 v2 v3 v4 v6 v7=>(mk 151 [(0,.c (.str p0)),(5,.c (.own 5)),(6,.c (.int .i64 v1)),(7,.c (.int .i64 v2)),(8,.c (.ptr 8 0))],[(5,.row 85 ty85 v3),(8,.box 85 [.int .i64 v4,.str (mt UInt8),.int .i64 v6,.int .i64 v7])])
def I23:S23→Nat
 | .l0 _ _=>0
 | .l1 _ _ _ _ _=>1
 | .l2 _ _ _ _=>2
 | .l1010 _ _ _=>1010
 | .l1020 _ _ _ _ _=>1020
 | .l1026 _ _ _ _=>1026
 | .l1027 _ _ _ _=>1027
 | .l1031 _ _ _=>1031
 | .l1032 _ _ _ _ _ _=>1032
noncomputable abbrev A23 {R:Type} (B:Ops) (c59:C59) (c60:C60) (c61:C61) (p0:LB) (k:AV→Objs→Option R) (s:S23) (n:Nat):Option R:=aloop tau B gl0 X23 (ent 59 (e59 c59) (ent 60 (e60 c60) (ent 61 (e61 c61) gnil))) ow [] Tryd.f23 k (I23 s) (E23 p0 s) n
theorem eq23 {R:Type} (B:Ops) (c59:C59) (c60:C60) (c61:C61) (p0:LB) (k:AV→Objs→Option R) (n:Nat):afun tau B gl0 X23 (ent 59 (e59 c59) (ent 60 (e60 c60) (ent 61 (e61 c61) gnil))) ow Tryd.f23 [.c (.str p0)] [] k n=T23 B c59 c60 c61 p0 (fun s=>A23 B c59 c60 c61 p0 k s n) (K6 k) none:=by kernel_rfl
theorem el23 {R:Type} (B:Ops) (c59:C59) (c60:C60) (c61:C61) (p0:LB) (k:AV→Objs→Option R) (n:Nat):∀ s,A23 B c59 c60 c61 p0 k s (n+1)=T23 B c59 c60 c61 p0 (fun s=>A23 B c59 c60 c61 p0 k s n) (K6 k) (some s):=by
 intro s
 cases s<;>kernel_rfl
theorem nt23 {R R':Type} (B:Ops) (c59:C59) (c60:C60) (c61:C61) (p0:LB) (again:S23→Option R) (again':S23→Option R') (k0:(Int×Int×L85)→Option R') (k:R'→Option R) (h:∀ s,again s=ob (again' s) k):∀ s,T23 B c59 c60 c61 p0 again (fun y=>ob (k0 y) k) s=ob (T23 B c59 c60 c61 p0 again' k0 s) k:=by
 rintro (_ | x)
 all_goals try cases x
 all_goals (unfold T23;repeat' first | exact rfl | exact h _ | apply qab | (apply qah;intro))
def R23 (c59:C59) (c60:C60) (c61:C61) (p0:LB):Nat→S23→Option (Int×Int×L85)
 | 0,_=>none
 | n+1,s=>T23 Ops.std c59 c60 c61 p0 (R23 c59 c60 c61 p0 n) some (some s)
theorem rr23 {R:Type} (c59:C59) (c60:C60) (c61:C61) (p0:LB) (k:AV→Objs→Option R):∀ (n:Nat) (s:S23),A23 Ops.std c59 c60 c61 p0 k s n=ob (R23 c59 c60 c61 p0 n s) (K6 k)
 | 0,s=>by cases s<;>rfl
 | n+1,s=>by rw [el23];exact nt23 Ops.std c59 c60 c61 p0 _ _ some (K6 k) (rr23 c59 c60 c61 p0 k n) (some s)
def F23 (c59:C59) (c60:C60) (c61:C61) (p0:LB):Option (Int×Int×L85):=T23 Ops.std c59 c60 c61 p0 (R23 c59 c60 c61 p0 1000000) some none
abbrev C23:Type:=LB→Option (Int×Int×L85)
def e23 {R:Type} (c:C23):Ent R:=eG [.aC .cS] [] fun v k=>ob (c v.1) (K6 k)
abbrev Sp23 (c:C23):Prop:=∀ (p0:LB) (y:Int×Int×L85),c p0=some y→Spec Tryd.prog gl0 23 [.c (.str p0)] [] (.tup [(false,[.own 501000]),(false,[.int .i64 y.1]),(false,[.int .i64 y.2.1])]) [(501000,.row 85 ty85 y.2.2)]
theorem ek23 {R:Type} {c:C23} (hs:Sp23 c):EOk 23 (e23 (R:=R) c):=qam fun v=>hs v.1
theorem sf23 {c59:C59} {c60:C60} {c61:C61} (h59:Sp59 c59) (h60:Sp60 c60) (h61:Sp61 c61):Sp23 (F23 c59 c60 c61):=fun p0 y hy=>by
 refine qae (qac (ek59 h59) (qac (ek60 h60) (qac (ek61 h61) qad))) 1000000 (fn:=Tryd.f23) (by kernel_rfl) (by kernel_rfl) (X:=X23) (by kernel_rfl) ?_
 rw [eq23]
 exact (nt23 Ops.std c59 c60 c61 p0 _ _ some (K6 k0) (rr23 c59 c60 c61 p0 k0 1000000) none).trans (by show ob (F23 c59 c60 c61 p0) _=_;rw [hy];rfl)
noncomputable def M23:C23:=F23 M59 M60 M61
theorem sm23:Sp23 M23:=sf23 sm59 sm60 sm61
def X124:Aux:=⟨[],[(1,.lin (rg 0 28))]⟩
def T124 {R:Type} (B:Ops) (p0:LB) (p1:L85) (p2 p3:Int) (p4:L56) (k:(Bool×L85×Int×Int×L56)→Option R):Option R:=cond (B.inb p2 p1.length) (cond (B.eq (p1.getD p2.toNat ty85.dflt).1 4) (cond (B.inb p2 p1.length) (k ((((p1.getD p2.toNat ty85.dflt).2).1 == p0,p1,p2,p3,p4))) none) (k (false,p1,p2,p3,p4))) none
abbrev K18 {R:Type} (k:AV→Objs→Option R) (y:(Bool×L85×Int×Int×L56)):Option R:=k (.c (.bool y.1)) [(0,.box 105 [.list 85 ty85 y.2.1,.int .i64 y.2.2.1,.own 1002,.int .i64 y.2.2.2.1]),(1002,.row 56 ty56 y.2.2.2.2)]
theorem eq124 {R:Type} (B:Ops) (p0:LB) (p1:L85) (p2 p3:Int) (p4:L56) (k:AV→Objs→Option R) (n:Nat):afun tau B gl0 X124 gnil ow Tryd.f124 [.c (.ptr 0 0),.c (.str p0)] [(0,.box 105 [.list 85 ty85 p1,.int .i64 p2,.own 1002,.int .i64 p3]),(1002,.row 56 ty56 p4)] k n=T124 B p0 p1 p2 p3 p4 (K18 k):=by kernel_rfl
theorem nt124 {R R':Type} (B:Ops) (p0:LB) (p1:L85) (p2 p3:Int) (p4:L56) (k0:(Bool×L85×Int×Int×L56)→Option R') (k:R'→Option R):T124 B p0 p1 p2 p3 p4 (fun y=>ob (k0 y) k)=ob (T124 B p0 p1 p2 p3 p4 k0) k:=by
 unfold T124
 repeat' first | exact rfl | apply qab | (apply qah;intro)
def F124 (p0:LB) (p1:L85) (p2 p3:Int) (p4:L56):Option (Bool×L85×Int×Int×L56):=T124 Ops.std p0 p1 p2 p3 p4 some
abbrev C124:Type:=LB→L85→Int→Int→L56→Option (Bool×L85×Int×Int×L56)
def e124 {R:Type} (c:C124):Ent R:=eG [.aC (.cP 0),.aC .cS] [.oB 0 105 [.cL 85 ty85,.cI .i64,.cO 1002,.cI .i64],.oR 1002 56 ty56] fun v k=>ob (c v.1 v.2.1 v.2.2.1 v.2.2.2.1 v.2.2.2.2.1) (K18 k)
abbrev Sp124 (c:C124):Prop:=∀ (p0:LB) (p1:L85) (p2 p3:Int) (p4:L56) (y:Bool×L85×Int×Int×L56),c p0 p1 p2 p3 p4=some y→Spec Tryd.prog gl0 124 [.c (.ptr 0 0),.c (.str p0)] [(0,.box 105 [.list 85 ty85 p1,.int .i64 p2,.own 1002,.int .i64 p3]),(1002,.row 56 ty56 p4)] (.c (.bool y.1)) [(0,.box 105 [.list 85 ty85 y.2.1,.int .i64 y.2.2.1,.own 1002,.int .i64 y.2.2.2.1]),(1002,.row 56 ty56 y.2.2.2.2)]
theorem ek124 {R:Type} {c:C124} (hs:Sp124 c):EOk 124 (e124 (R:=R) c):=qam fun v=>hs v.1 v.2.1 v.2.2.1 v.2.2.2.1 v.2.2.2.2.1
theorem sf124:Sp124 (F124):=fun p0 p1 p2 p3 p4 y hy=>by
 refine qae qad 1000000 (fn:=Tryd.f124) (by kernel_rfl) (by kernel_rfl) (X:=X124) (by kernel_rfl) ?_
 rw [eq124]
 exact (nt124 Ops.std p0 p1 p2 p3 p4 some (K18 k0)).trans (by show ob (F124 p0 p1 p2 p3 p4) _=_;rw [hy];rfl)
noncomputable def M124:C124:=F124
theorem sm124:Sp124 M124:=sf124
def X125:Aux:=⟨[],[]⟩
def T125 {R:Type} (B:Ops) (p0:L85) (p1 p2:Int) (p3:L56) (k:(L85×Int×Int×L56)→Option R):Option R:=cond (B.lt p2 0) (k (p0,p1,p1,p3)) (k (p0,p1,p2,p3))
abbrev K19 {R:Type} (k:AV→Objs→Option R) (y:(L85×Int×Int×L56)):Option R:=k (.tup []) [(0,.box 105 [.list 85 ty85 y.1,.int .i64 y.2.1,.own 1002,.int .i64 y.2.2.1]),(1002,.row 56 ty56 y.2.2.2)]
theorem eq125 {R:Type} (B:Ops) (p0:L85) (p1 p2:Int) (p3:L56) (k:AV→Objs→Option R) (n:Nat):afun tau B gl0 X125 gnil ow Tryd.f125 [.c (.ptr 0 0)] [(0,.box 105 [.list 85 ty85 p0,.int .i64 p1,.own 1002,.int .i64 p2]),(1002,.row 56 ty56 p3)] k n=T125 B p0 p1 p2 p3 (K19 k):=by kernel_rfl
theorem nt125 {R R':Type} (B:Ops) (p0:L85) (p1 p2:Int) (p3:L56) (k0:(L85×Int×Int×L56)→Option R') (k:R'→Option R):T125 B p0 p1 p2 p3 (fun y=>ob (k0 y) k)=ob (T125 B p0 p1 p2 p3 k0) k:=by
 unfold T125
 repeat' first | exact rfl | apply qab | (apply qah;intro)
def F125 (p0:L85) (p1 p2:Int) (p3:L56):Option (L85×Int×Int×L56):=T125 Ops.std p0 p1 p2 p3 some
abbrev C125:Type:=L85→Int→Int→L56→Option (L85×Int×Int×L56)
def e125 {R:Type} (c:C125):Ent R:=eG [.aC (.cP 0)] [.oB 0 105 [.cL 85 ty85,.cI .i64,.cO 1002,.cI .i64],.oR 1002 56 ty56] fun v k=>ob (c v.1 v.2.1 v.2.2.1 v.2.2.2.1) (K19 k)
abbrev Sp125 (c:C125):Prop:=∀ (p0:L85) (p1 p2:Int) (p3:L56) (y:L85×Int×Int×L56),c p0 p1 p2 p3=some y→Spec Tryd.prog gl0 125 [.c (.ptr 0 0)] [(0,.box 105 [.list 85 ty85 p0,.int .i64 p1,.own 1002,.int .i64 p2]),(1002,.row 56 ty56 p3)] (.tup []) [(0,.box 105 [.list 85 ty85 y.1,.int .i64 y.2.1,.own 1002,.int .i64 y.2.2.1]),(1002,.row 56 ty56 y.2.2.2)]
theorem ek125 {R:Type} {c:C125} (hs:Sp125 c):EOk 125 (e125 (R:=R) c):=qam fun v=>hs v.1 v.2.1 v.2.2.1 v.2.2.2.1
theorem sf125:Sp125 (F125):=fun p0 p1 p2 p3 y hy=>by
 refine qae qad 1000000 (fn:=Tryd.f125) (by kernel_rfl) (by kernel_rfl) (X:=X125) (by kernel_rfl) ?_
 rw [eq125]
 exact (nt125 Ops.std p0 p1 p2 p3 some (K19 k0)).trans (by show ob (F125 p0 p1 p2 p3) _=_;rw [hy];rfl)
noncomputable def M125:C125:=F125
theorem sm125:Sp125 M125:=sf125
def X54:Aux:=⟨[],[]⟩
def T54 {R:Type} (B:Ops) (p0:Int) (k:(Int)→Option R):Option R:=cond (B.eq p0 16) (k 1) (cond (B.eq p0 15) (k 2) (cond (B.eq p0 9) (k 3) (cond (B.eq p0 10) (k 3) (cond (B.eq p0 11) (k 3) (cond (B.eq p0 12) (k 3) (cond (B.eq p0 13) (k 3) (cond (B.eq p0 14) (k 3) (cond (B.eq p0 7) (k 4) (cond (B.eq p0 8) (k 4) (cond (B.eq p0 6) (k 5) (cond (B.eq p0 4) (k 6) (cond (B.eq p0 5) (k 6) (k 7)))))))))))))
theorem eq54 {R:Type} (B:Ops) (p0:Int) (k:AV→Objs→Option R) (n:Nat):afun tau B gl0 X54 gnil ow Tryd.f54 [.c (.int .i64 p0)] [] k n=T54 B p0 (K1 k):=by kernel_rfl
theorem nt54 {R R':Type} (B:Ops) (p0:Int) (k0:(Int)→Option R') (k:R'→Option R):T54 B p0 (fun y=>ob (k0 y) k)=ob (T54 B p0 k0) k:=by
 unfold T54
 repeat' first | exact rfl | apply qab | (apply qah;intro)
def F54 (p0:Int):Option (Int):=T54 Ops.std p0 some
abbrev C54:Type:=Int→Option (Int)
def e54 {R:Type} (c:C54):Ent R:=eG [.aC (.cI .i64)] [] fun v k=>ob (c v.1) (K1 k)
abbrev Sp54 (c:C54):Prop:=∀ (p0 y:Int),c p0=some y→Spec Tryd.prog gl0 54 [.c (.int .i64 p0)] [] (.c (.int .i64 y)) []
theorem ek54 {R:Type} {c:C54} (hs:Sp54 c):EOk 54 (e54 (R:=R) c):=qam fun v=>hs v.1
theorem sf54:Sp54 (F54):=fun p0 y hy=>by
 refine qae qad 1000000 (fn:=Tryd.f54) (by kernel_rfl) (by kernel_rfl) (X:=X54) (by kernel_rfl) ?_
 rw [eq54]
 exact (nt54 Ops.std p0 some (K1 k0)).trans (by show ob (F54 p0) _=_;rw [hy];rfl)
noncomputable def M54:C54:=F54
theorem sm54:Sp54 M54:=sf54
def X100:Aux:=⟨[(5,([0,3,4]++rg 7 21))],[(7,.lin ([0,1,2,3,4,5,6,7,9,8,10,11]))]⟩
inductive S100 where
 | l0 (v1:Int)
def T100 {R:Type} (B:Ops) (c54:C54) (p0:Int) (p1:LB) (p2 p3 p4:Int) (again:S100→Option R) (k:(Int)→Option R):Option S100→Option R | none=>cond (!B.eq p0 4) (k 0) (again (.l0 6)) | some (.l0 v1)=>cond (B.le v1 16) (cond (B.inb v1 17) (cond (List.getD ((mt UInt8)::(mt UInt8)::(mt UInt8)::(mt UInt8)::(mt UInt8)::(mt UInt8)::([42]:LB)::([43]:LB)::([45]:LB)::([60]:LB)::([60,61]:LB)::([62]:LB)::([62,61]:LB)::([61,61]:LB)::([33,61]:LB)::([38,38]:LB)::([124,124]:LB)::mt LB) v1.toNat (mt UInt8) == p1) (ob (c54 v1) fun y0=>cond (B.eq y0 p4) (k v1) (again (.l0 (IntKind.wrap .i64 (v1+1))))) (again (.l0 (IntKind.wrap .i64 (v1+1))))) none) (k 0)
def E100 (p0:Int) (p1:LB) (p2 p3 p4:Int):S100→List AV×Objs
 | .l0 v1=>(mk 28 [(1,.c (.int .i64 p4)),(2,.c (.ptr 2 0)),(5,.c (.ptr 5 0)),(6,.c (.int .i64 v1))],[(2,.box 85 [.int .i64 p0,.str p1,.int .i64 p2,.int .i64 p3]),(5,.box 79 [.str (mt UInt8),.str (mt UInt8),.str (mt UInt8),.str (mt UInt8),.str (mt UInt8),.str (mt UInt8),.str ([42]:LB),.str ([43]:LB),.str ([45]:LB),.str ([60]:LB),.str ([60,61]:LB),.str ([62]:LB),.str ([62,61]:LB),.str ([61,61]:LB),.str ([33,61]:LB),.str ([38,38]:LB),.str ([124,124]:LB)])])
def I100:S100→Nat
 | .l0 _=>0
noncomputable abbrev A100 {R:Type} (B:Ops) (c54:C54) (p0:Int) (p1:LB) (p2 p3 p4:Int) (k:AV→Objs→Option R) (s:S100) (n:Nat):Option R:=aloop tau B gl0 X100 (ent 54 (e54 c54) gnil) ow [] Tryd.f100 k (I100 s) (E100 p0 p1 p2 p3 p4 s) n
theorem eq100 {R:Type} (B:Ops) (c54:C54) (p0:Int) (p1:LB) (p2 p3 p4:Int) (k:AV→Objs→Option R) (n:Nat):afun tau B gl0 X100 (ent 54 (e54 c54) gnil) ow Tryd.f100 [.agg [.int .i64 p0,.str p1,.int .i64 p2,.int .i64 p3],.c (.int .i64 p4)] [] k n=T100 B c54 p0 p1 p2 p3 p4 (fun s=>A100 B c54 p0 p1 p2 p3 p4 k s n) (K1 k) none:=by kernel_rfl
theorem el100 {R:Type} (B:Ops) (c54:C54) (p0:Int) (p1:LB) (p2 p3 p4:Int) (k:AV→Objs→Option R) (n:Nat):∀ s,A100 B c54 p0 p1 p2 p3 p4 k s (n+1)=T100 B c54 p0 p1 p2 p3 p4 (fun s=>A100 B c54 p0 p1 p2 p3 p4 k s n) (K1 k) (some s):=by
 intro s
 cases s<;>kernel_rfl
theorem nt100 {R R':Type} (B:Ops) (c54:C54) (p0:Int) (p1:LB) (p2 p3 p4:Int) (again:S100→Option R) (again':S100→Option R') (k0:(Int)→Option R') (k:R'→Option R) (h:∀ s,again s=ob (again' s) k):∀ s,T100 B c54 p0 p1 p2 p3 p4 again (fun y=>ob (k0 y) k) s=ob (T100 B c54 p0 p1 p2 p3 p4 again' k0 s) k:=by
 rintro (_ | x)
 all_goals try cases x
 all_goals (unfold T100;repeat' first | exact rfl | exact h _ | apply qab | (apply qah;intro))
def R100 (c54:C54) (p0:Int) (p1:LB) (p2 p3 p4:Int):Nat→S100→Option (Int)
 | 0,_=>none
 | n+1,s=>T100 Ops.std c54 p0 p1 p2 p3 p4 (R100 c54 p0 p1 p2 p3 p4 n) some (some s)
theorem rr100 {R:Type} (c54:C54) (p0:Int) (p1:LB) (p2 p3 p4:Int) (k:AV→Objs→Option R):∀ (n:Nat) (s:S100),A100 Ops.std c54 p0 p1 p2 p3 p4 k s n=ob (R100 c54 p0 p1 p2 p3 p4 n s) (K1 k)
 | 0,s=>by cases s<;>rfl
 | n+1,s=>by rw [el100];exact nt100 Ops.std c54 p0 p1 p2 p3 p4 _ _ some (K1 k) (rr100 c54 p0 p1 p2 p3 p4 k n) (some s)
def F100 (c54:C54) (p0:Int) (p1:LB) (p2 p3 p4:Int):Option (Int):=T100 Ops.std c54 p0 p1 p2 p3 p4 (R100 c54 p0 p1 p2 p3 p4 1000000) some none
abbrev C100:Type:=Int→LB→Int→Int→Int→Option (Int)
def e100 {R:Type} (c:C100):Ent R:=eG [.aG [.cI .i64,.cS,.cI .i64,.cI .i64],.aC (.cI .i64)] [] fun v k=>ob (c v.1 v.2.1 v.2.2.1 v.2.2.2.1 v.2.2.2.2.1) (K1 k)
abbrev Sp100 (c:C100):Prop:=∀ (p0:Int) (p1:LB) (p2 p3 p4 y:Int),c p0 p1 p2 p3 p4=some y→Spec Tryd.prog gl0 100 [.agg [.int .i64 p0,.str p1,.int .i64 p2,.int .i64 p3],.c (.int .i64 p4)] [] (.c (.int .i64 y)) []
theorem ek100 {R:Type} {c:C100} (hs:Sp100 c):EOk 100 (e100 (R:=R) c):=qam fun v=>hs v.1 v.2.1 v.2.2.1 v.2.2.2.1 v.2.2.2.2.1
theorem sf100 {c54:C54} (h54:Sp54 c54):Sp100 (F100 c54):=fun p0 p1 p2 p3 p4 y hy=>by
 refine qae (qac (ek54 h54) qad) 1000000 (fn:=Tryd.f100) (by kernel_rfl) (by kernel_rfl) (X:=X100) (by kernel_rfl) ?_
 rw [eq100]
 exact (nt100 Ops.std c54 p0 p1 p2 p3 p4 _ _ some (K1 k0) (rr100 c54 p0 p1 p2 p3 p4 k0 1000000) none).trans (by show ob (F100 c54 p0 p1 p2 p3 p4) _=_;rw [hy];rfl)
noncomputable def M100:C100:=F100 M54
theorem sm100:Sp100 M100:=sf100 sm54
abbrev C64:Type:=Int→L85→Int→Int→L56→Option (L85×Int×Int×L56)
def e64 {R:Type} (c:C64):Ent R:=eG [.aC (.cP 0),.aC (.cI .i64)] [.oB 0 105 [.cL 85 ty85,.cI .i64,.cO 1002,.cI .i64],.oR 1002 56 ty56] fun v k=>ob (c v.1 v.2.1 v.2.2.1 v.2.2.2.1 v.2.2.2.2.1) (K19 k)
abbrev Sp64 (c:C64):Prop:=∀ (p0:Int) (p1:L85) (p2 p3:Int) (p4:L56) (y:L85×Int×Int×L56),c p0 p1 p2 p3 p4=some y→Spec Tryd.prog gl0 64 [.c (.ptr 0 0),.c (.int .i64 p0)] [(0,.box 105 [.list 85 ty85 p1,.int .i64 p2,.own 1002,.int .i64 p3]),(1002,.row 56 ty56 p4)] (.tup []) [(0,.box 105 [.list 85 ty85 y.1,.int .i64 y.2.1,.own 1002,.int .i64 y.2.2.1]),(1002,.row 56 ty56 y.2.2.2)]
theorem ek64 {R:Type} {c:C64} (hs:Sp64 c):EOk 64 (e64 (R:=R) c):=qam fun v=>hs v.1 v.2.1 v.2.2.1 v.2.2.2.1 v.2.2.2.2.1
abbrev C99:Type:=L85→Int→Int→L56→Option (L85×Int×Int×L56)
def e99 {R:Type} (c:C99):Ent R:=eG [.aC (.cP 0)] [.oB 0 105 [.cL 85 ty85,.cI .i64,.cO 1002,.cI .i64],.oR 1002 56 ty56] fun v k=>ob (c v.1 v.2.1 v.2.2.1 v.2.2.2.1) (K19 k)
abbrev Sp99 (c:C99):Prop:=∀ (p0:L85) (p1 p2:Int) (p3:L56) (y:L85×Int×Int×L56),c p0 p1 p2 p3=some y→Spec Tryd.prog gl0 99 [.c (.ptr 0 0)] [(0,.box 105 [.list 85 ty85 p0,.int .i64 p1,.own 1002,.int .i64 p2]),(1002,.row 56 ty56 p3)] (.tup []) [(0,.box 105 [.list 85 ty85 y.1,.int .i64 y.2.1,.own 1002,.int .i64 y.2.2.1]),(1002,.row 56 ty56 y.2.2.2)]
theorem ek99 {R:Type} {c:C99} (hs:Sp99 c):EOk 99 (e99 (R:=R) c):=qam fun v=>hs v.1 v.2.1 v.2.2.1 v.2.2.2.1
def X64:Aux:=⟨[(3,(rg 2 54))],[(4,.lin (rg 0 13))]⟩
inductive S64 where
 | l0 (v1:L85) (v2 v3:Int) (v4:L56)
def T64 {R:Type} (B:Ops) (c99:C99) (c64:C64) (c100:C100) (p0:Int) (p1:L85) (p2 p3:Int) (p4:L56) (again:S64→Option R) (k:(L85×Int×Int×L56)→Option R):Option S64→Option R | none=>cond (B.lt 5 p0) (ob (c99 p1 p2 p3 p4) fun y0=>k (y0.1,y0.2.1,y0.2.2.1,y0.2.2.2)) (ob (c64 (IntKind.wrap .i64 (p0+1)) p1 p2 p3 p4) fun y0=>again (.l0 y0.1 y0.2.1 y0.2.2.1 y0.2.2.2)) | some (.l0 v1 v2 v3 v4)=>cond (B.lt v3 0) (cond (B.inb v2 v1.length) (ob (c100 (v1.getD v2.toNat ty85.dflt).1 ((v1.getD v2.toNat ty85.dflt).2).1 (((v1.getD v2.toNat ty85.dflt).2).2).1 (((v1.getD v2.toNat ty85.dflt).2).2).2 p0) fun y0=>cond (B.eq y0 0) (k (v1,v2,v3,v4)) (ob (c64 (IntKind.wrap .i64 (p0+1)) v1 (IntKind.wrap .i64 (v2+1)) v3 v4) fun y1=>cond (B.lim (List.length (y1.2.2.2)+List.length ((y0,0,mt UInt8,mt UInt8)::mt (Ty.den ty56))) 48) (cond (B.eq p0 3) (k ((y1.1,y1.2.1,y1.2.2.1,y1.2.2.2++(y0,0,mt UInt8,mt UInt8)::mt (Ty.den ty56)))) (again (.l0 y1.1 y1.2.1 y1.2.2.1 (y1.2.2.2++(y0,0,mt UInt8,mt UInt8)::mt (Ty.den ty56))))) none)) none) (k (v1,v2,v3,v4))
def E64 (p0:Int) (p1:L85) (p2 p3:Int) (p4:L56):S64→List AV×Objs
 | .l0 v1 v2 v3 v4=>(mk 56 [(0,.c (.ptr 0 0)),(1,.c (.int .i64 p0))],[(0,.box 105 [.list 85 ty85 v1,.int .i64 v2,.own 1002,.int .i64 v3]),(1002,.row 56 ty56 v4)])
def I64:S64→Nat
 | .l0 _ _ _ _=>0
noncomputable abbrev A64 {R:Type} (B:Ops) (c99:C99) (c64:C64) (c100:C100) (p0:Int) (p1:L85) (p2 p3:Int) (p4:L56) (k:AV→Objs→Option R) (s:S64) (n:Nat):Option R:=aloop tau B gl0 X64 (ent 99 (e99 c99) (ent 64 (e64 c64) (ent 100 (e100 c100) gnil))) ow [0] Tryd.f64 k (I64 s) (E64 p0 p1 p2 p3 p4 s) n
theorem eq64 {R:Type} (B:Ops) (c99:C99) (c64:C64) (c100:C100) (p0:Int) (p1:L85) (p2 p3:Int) (p4:L56) (k:AV→Objs→Option R) (n:Nat):afun tau B gl0 X64 (ent 99 (e99 c99) (ent 64 (e64 c64) (ent 100 (e100 c100) gnil))) ow Tryd.f64 [.c (.ptr 0 0),.c (.int .i64 p0)] [(0,.box 105 [.list 85 ty85 p1,.int .i64 p2,.own 1002,.int .i64 p3]),(1002,.row 56 ty56 p4)] k n=T64 B c99 c64 c100 p0 p1 p2 p3 p4 (fun s=>A64 B c99 c64 c100 p0 p1 p2 p3 p4 k s n) (K19 k) none:=by kernel_rfl
theorem el64 {R:Type} (B:Ops) (c99:C99) (c64:C64) (c100:C100) (p0:Int) (p1:L85) (p2 p3:Int) (p4:L56) (k:AV→Objs→Option R) (n:Nat):∀ s,A64 B c99 c64 c100 p0 p1 p2 p3 p4 k s (n+1)=T64 B c99 c64 c100 p0 p1 p2 p3 p4 (fun s=>A64 B c99 c64 c100 p0 p1 p2 p3 p4 k s n) (K19 k) (some s):=by
 intro s
 cases s<;>kernel_rfl
theorem nt64 {R R':Type} (B:Ops) (c99:C99) (c64:C64) (c100:C100) (p0:Int) (p1:L85) (p2 p3:Int) (p4:L56) (again:S64→Option R) (again':S64→Option R') (k0:(L85×Int×Int×L56)→Option R') (k:R'→Option R) (h:∀ s,again s=ob (again' s) k):∀ s,T64 B c99 c64 c100 p0 p1 p2 p3 p4 again (fun y=>ob (k0 y) k) s=ob (T64 B c99 c64 c100 p0 p1 p2 p3 p4 again' k0 s) k:=by
 rintro (_ | x)
 all_goals try cases x
 all_goals (unfold T64;repeat' first | exact rfl | exact h _ | apply qab | (apply qah;intro))
def R64 (c99:C99) (c64:C64) (c100:C100) (p0:Int) (p1:L85) (p2 p3:Int) (p4:L56):Nat→S64→Option (L85×Int×Int×L56)
 | 0,_=>none
 | n+1,s=>T64 Ops.std c99 c64 c100 p0 p1 p2 p3 p4 (R64 c99 c64 c100 p0 p1 p2 p3 p4 n) some (some s)
theorem rr64 {R:Type} (c99:C99) (c64:C64) (c100:C100) (p0:Int) (p1:L85) (p2 p3:Int) (p4:L56) (k:AV→Objs→Option R):∀ (n:Nat) (s:S64),A64 Ops.std c99 c64 c100 p0 p1 p2 p3 p4 k s n=ob (R64 c99 c64 c100 p0 p1 p2 p3 p4 n s) (K19 k)
 | 0,s=>by cases s<;>rfl
 | n+1,s=>by rw [el64];exact nt64 Ops.std c99 c64 c100 p0 p1 p2 p3 p4 _ _ some (K19 k) (rr64 c99 c64 c100 p0 p1 p2 p3 p4 k n) (some s)
def F64 (c99:C99) (c64:C64) (c100:C100) (p0:Int) (p1:L85) (p2 p3:Int) (p4:L56):Option (L85×Int×Int×L56):=T64 Ops.std c99 c64 c100 p0 p1 p2 p3 p4 (R64 c99 c64 c100 p0 p1 p2 p3 p4 1000000) some none
theorem sf64 {c99:C99} {c64:C64} {c100:C100} (h99:Sp99 c99) (h64:Sp64 c64) (h100:Sp100 c100):Sp64 (F64 c99 c64 c100):=fun p0 p1 p2 p3 p4 y hy=>by
 refine qae (qac (ek99 h99) (qac (ek64 h64) (qac (ek100 h100) qad))) 1000000 (fn:=Tryd.f64) (by kernel_rfl) (by kernel_rfl) (X:=X64) (by kernel_rfl) ?_
 rw [eq64]
 exact (nt64 Ops.std c99 c64 c100 p0 p1 p2 p3 p4 _ _ some (K19 k0) (rr64 c99 c64 c100 p0 p1 p2 p3 p4 k0 1000000) none).trans (by show ob (F64 c99 c64 c100 p0 p1 p2 p3 p4) _=_;rw [hy];rfl)
def X99:Aux:=⟨[(1000006,([1]++rg 3 167))],[(10,.lin (rg 0 12)),(14,.lin (rg 0 13)),(20,.lin (rg 0 12)),(23,.lin (rg 0 13)),(25,.lin (rg 0 11))]⟩
inductive S99 where
 | l1006 (v0:Int) (v1:L85) (v2 v3:Int) (v4:L56)
def T99 {R:Type} (B:Ops) (c124:C124) (c99:C99) (c125:C125) (c64:C64) (p0:L85) (p1 p2:Int) (p3:L56) (again:S99→Option R) (k:(L85×Int×Int×L56)→Option R):Option S99→Option R | none=>cond (B.le 0 p2) (k (p0,p1,p2,p3)) (ob (c124 ([33]:LB) p0 p1 p2 p3) fun y0=>cond y0.1 (again (.l1006 4 y0.2.1 y0.2.2.1 y0.2.2.2.1 y0.2.2.2.2)) (ob (c124 ([45]:LB) y0.2.1 y0.2.2.1 y0.2.2.2.1 y0.2.2.2.2) fun y1=>cond y1.1 (again (.l1006 5 y1.2.1 y1.2.2.1 y1.2.2.2.1 y1.2.2.2.2)) (again (.l1006 0 y1.2.1 y1.2.2.1 y1.2.2.2.1 y1.2.2.2.2)))) | some (.l1006 v0 v1 v2 v3 v4)=>cond (!B.eq v0 0) (ob (c99 v1 (IntKind.wrap .i64 (v2+1)) v3 v4) fun y0=>cond (B.lim (List.length (y0.2.2.2)+List.length ((v0,0,mt UInt8,mt UInt8)::mt (Ty.den ty56))) 48) (k ((y0.1,y0.2.1,y0.2.2.1,y0.2.2.2++(v0,0,mt UInt8,mt UInt8)::mt (Ty.den ty56)))) none) (cond (B.inb v2 v1.length) (cond (B.eq (v1.getD v2.toNat ty85.dflt).1 1) (cond (B.lim (List.length v4+List.length ((1,(((v1.getD v2.toNat ty85.dflt).2).2).1,mt UInt8,mt UInt8)::mt (Ty.den ty56))) 48) (k ((v1,IntKind.wrap .i64 (v2+1),v3,v4++(1,(((v1.getD v2.toNat ty85.dflt).2).2).1,mt UInt8,mt UInt8)::mt (Ty.den ty56)))) none) (cond (B.eq (v1.getD v2.toNat ty85.dflt).1 2) (ob (c124 ([64]:LB) v1 (IntKind.wrap .i64 (v2+1)) v3 v4) fun y0=>cond y0.1 (cond (B.inb (IntKind.wrap .i64 (y0.2.2.1+1)) (List.length y0.2.1)) (cond (!B.eq (List.getD y0.2.1 (Int.toNat (IntKind.wrap .i64 (y0.2.2.1+1))) ty85.dflt).1 2) (ob (c125 y0.2.1 (IntKind.wrap .i64 (y0.2.2.1+1)) y0.2.2.2.1 y0.2.2.2.2) fun y1=>k (y1.1,y1.2.1,y1.2.2.1,y1.2.2.2)) (cond (B.inb (IntKind.wrap .i64 (y0.2.2.1+1)) (List.length y0.2.1)) (cond (B.lim (List.length (y0.2.2.2.2)+List.length ((3,0,((v1.getD v2.toNat ty85.dflt).2).1,((List.getD y0.2.1 (Int.toNat (IntKind.wrap .i64 (y0.2.2.1+1))) ty85.dflt).2).1)::mt (Ty.den ty56))) 48) (k ((y0.2.1,IntKind.wrap .i64 (IntKind.wrap .i64 (y0.2.2.1+1)+1),y0.2.2.2.1,y0.2.2.2.2++(3,0,((v1.getD v2.toNat ty85.dflt).2).1,((List.getD y0.2.1 (Int.toNat (IntKind.wrap .i64 (y0.2.2.1+1))) ty85.dflt).2).1)::mt (Ty.den ty56)))) none) none)) none) (cond (B.lim (List.length (y0.2.2.2.2)+List.length ((2,0,((v1.getD v2.toNat ty85.dflt).2).1,mt UInt8)::mt (Ty.den ty56))) 48) (k ((y0.2.1,y0.2.2.1,y0.2.2.2.1,y0.2.2.2.2++(2,0,((v1.getD v2.toNat ty85.dflt).2).1,mt UInt8)::mt (Ty.den ty56)))) none)) (ob (c124 ([40]:LB) v1 v2 v3 v4) fun y0=>cond y0.1 (ob (c64 1 y0.2.1 (IntKind.wrap .i64 (y0.2.2.1+1)) y0.2.2.2.1 y0.2.2.2.2) fun y1=>cond (B.le 0 y1.2.2.1) (k (y1.1,y1.2.1,y1.2.2.1,y1.2.2.2)) (ob (c124 ([41]:LB) y1.1 y1.2.1 y1.2.2.1 y1.2.2.2) fun y2=>cond (!y2.1) (ob (c125 y2.2.1 y2.2.2.1 y2.2.2.2.1 y2.2.2.2.2) fun y3=>k (y3.1,y3.2.1,y3.2.2.1,y3.2.2.2)) (k ((y2.2.1,IntKind.wrap .i64 (y2.2.2.1+1),y2.2.2.2.1,y2.2.2.2.2))))) (ob (c125 y0.2.1 y0.2.2.1 y0.2.2.2.1 y0.2.2.2.2) fun y1=>k (y1.1,y1.2.1,y1.2.2.1,y1.2.2.2))))) none)
def E99 (p0:L85) (p1 p2:Int) (p3:L56):S99→List AV×Objs
 | .l1006 v0 v1 v2 v3 v4=>(mk 170 [(0,.c (.ptr 0 0)),(2,.c (.int .i64 v0))],[(0,.box 105 [.list 85 ty85 v1,.int .i64 v2,.own 1002,.int .i64 v3]),(1002,.row 56 ty56 v4)])
def I99:S99→Nat
 | .l1006 _ _ _ _ _=>1006
noncomputable abbrev A99 {R:Type} (B:Ops) (c124:C124) (c99:C99) (c125:C125) (c64:C64) (p0:L85) (p1 p2:Int) (p3:L56) (k:AV→Objs→Option R) (s:S99) (n:Nat):Option R:=aloop tau B gl0 X99 (ent 124 (e124 c124) (ent 99 (e99 c99) (ent 125 (e125 c125) (ent 64 (e64 c64) gnil)))) ow [0] Tryd.f99 k (I99 s) (E99 p0 p1 p2 p3 s) n
theorem eq99 {R:Type} (B:Ops) (c124:C124) (c99:C99) (c125:C125) (c64:C64) (p0:L85) (p1 p2:Int) (p3:L56) (k:AV→Objs→Option R) (n:Nat):afun tau B gl0 X99 (ent 124 (e124 c124) (ent 99 (e99 c99) (ent 125 (e125 c125) (ent 64 (e64 c64) gnil)))) ow Tryd.f99 [.c (.ptr 0 0)] [(0,.box 105 [.list 85 ty85 p0,.int .i64 p1,.own 1002,.int .i64 p2]),(1002,.row 56 ty56 p3)] k n=T99 B c124 c99 c125 c64 p0 p1 p2 p3 (fun s=>A99 B c124 c99 c125 c64 p0 p1 p2 p3 k s n) (K19 k) none:=by kernel_rfl
theorem el99 {R:Type} (B:Ops) (c124:C124) (c99:C99) (c125:C125) (c64:C64) (p0:L85) (p1 p2:Int) (p3:L56) (k:AV→Objs→Option R) (n:Nat):∀ s,A99 B c124 c99 c125 c64 p0 p1 p2 p3 k s (n+1)=T99 B c124 c99 c125 c64 p0 p1 p2 p3 (fun s=>A99 B c124 c99 c125 c64 p0 p1 p2 p3 k s n) (K19 k) (some s):=by
 intro s
 cases s<;>kernel_rfl
theorem nt99 {R R':Type} (B:Ops) (c124:C124) (c99:C99) (c125:C125) (c64:C64) (p0:L85) (p1 p2:Int) (p3:L56) (again:S99→Option R) (again':S99→Option R') (k0:(L85×Int×Int×L56)→Option R') (k:R'→Option R) (h:∀ s,again s=ob (again' s) k):∀ s,T99 B c124 c99 c125 c64 p0 p1 p2 p3 again (fun y=>ob (k0 y) k) s=ob (T99 B c124 c99 c125 c64 p0 p1 p2 p3 again' k0 s) k:=by
 rintro (_ | x)
 all_goals try cases x
 all_goals (unfold T99;repeat' first | exact rfl | exact h _ | apply qab | (apply qah;intro))
def R99 (c124:C124) (c99:C99) (c125:C125) (c64:C64) (p0:L85) (p1 p2:Int) (p3:L56):Nat→S99→Option (L85×Int×Int×L56)
 | 0,_=>none
 | n+1,s=>T99 Ops.std c124 c99 c125 c64 p0 p1 p2 p3 (R99 c124 c99 c125 c64 p0 p1 p2 p3 n) some (some s)
theorem rr99 {R:Type} (c124:C124) (c99:C99) (c125:C125) (c64:C64) (p0:L85) (p1 p2:Int) (p3:L56) (k:AV→Objs→Option R):∀ (n:Nat) (s:S99),A99 Ops.std c124 c99 c125 c64 p0 p1 p2 p3 k s n=ob (R99 c124 c99 c125 c64 p0 p1 p2 p3 n s) (K19 k)
 | 0,s=>by cases s<;>rfl
 | n+1,s=>by rw [el99];exact nt99 Ops.std c124 c99 c125 c64 p0 p1 p2 p3 _ _ some (K19 k) (rr99 c124 c99 c125 c64 p0 p1 p2 p3 k n) (some s)
def F99 (c124:C124) (c99:C99) (c125:C125) (c64:C64) (p0:L85) (p1 p2:Int) (p3:L56):Option (L85×Int×Int×L56):=T99 Ops.std c124 c99 c125 c64 p0 p1 p2 p3 (R99 c124 c99 c125 c64 p0 p1 p2 p3 1000000) some none
theorem sf99 {c124:C124} {c99:C99} {c125:C125} {c64:C64} (h124:Sp124 c124) (h99:Sp99 c99) (h125:Sp125 c125) (h64:Sp64 c64):Sp99 (F99 c124 c99 c125 c64):=fun p0 p1 p2 p3 y hy=>by
 refine qae (qac (ek124 h124) (qac (ek99 h99) (qac (ek125 h125) (qac (ek64 h64) qad)))) 1000000 (fn:=Tryd.f99) (by kernel_rfl) (by kernel_rfl) (X:=X99) (by kernel_rfl) ?_
 rw [eq99]
 exact (nt99 Ops.std c124 c99 c125 c64 p0 p1 p2 p3 _ _ some (K19 k0) (rr99 c124 c99 c125 c64 p0 p1 p2 p3 k0 1000000) none).trans (by show ob (F99 c124 c99 c125 c64 p0 p1 p2 p3) _=_;rw [hy];rfl)
noncomputable def Rec64:Nat→(Int→L85→Int→Int→L56→Option (L85×Int×Int×L56))×(L85→Int→Int→L56→Option (L85×Int×Int×L56))
 | 0=>(fun _ _ _ _ _=>none,fun _ _ _ _=>none)
 | d+1=>(F64 (Rec64 d).2 (Rec64 d).1 M100,F99 M124 (Rec64 d).2 M125 (Rec64 d).1)
theorem rec64:∀ d,Sp64 (Rec64 d).1∧Sp99 (Rec64 d).2
 | 0=>⟨(fun p0 p1 p2 p3 p4 y (h:(none:Option (L85×Int×Int×L56))=some y)=>by cases h),(fun p0 p1 p2 p3 y (h:(none:Option (L85×Int×Int×L56))=some y)=>by cases h)⟩
 | d+1=>⟨sf64 (rec64 d).2 (rec64 d).1 sm100,sf99 sm124 (rec64 d).2 sm125 (rec64 d).1⟩
noncomputable def M64:C64:=(Rec64 1000000).1
theorem sm64:Sp64 M64:=(rec64 1000000).1
def X26:Aux:=⟨[],[(4,.lin [0,1,2,3,4,5,6]),(7,.lin (rg 0 11))]⟩
def T26 {R:Type} (B:Ops) (c64:C64) (p0:L85) (p1:Int) (k:(Int×Int×L56)→Option R):Option R:=ob (c64 1 p0 p1 (-1) (mt (Ty.den ty56))) fun y0=>cond (B.le 0 y0.2.2.1) (k ((y0.2.2.1,2,mt (Ty.den ty56)))) (cond (B.lt 30 (Nat.cast (List.length y0.2.2.2))) (k ((p1,13,mt (Ty.den ty56)))) (k (y0.2.1,0,y0.2.2.2)))
theorem eq26 {R:Type} (B:Ops) (c64:C64) (p0:L85) (p1:Int) (k:AV→Objs→Option R) (n:Nat):afun tau B gl0 X26 (ent 64 (e64 c64) gnil) ow Tryd.f26 [.c (.list 85 ty85 p0),.c (.int .i64 p1)] [] k n=T26 B c64 p0 p1 (K13 k):=by kernel_rfl
theorem nt26 {R R':Type} (B:Ops) (c64:C64) (p0:L85) (p1:Int) (k0:(Int×Int×L56)→Option R') (k:R'→Option R):T26 B c64 p0 p1 (fun y=>ob (k0 y) k)=ob (T26 B c64 p0 p1 k0) k:=by
 unfold T26
 repeat' first | exact rfl | apply qab | (apply qah;intro)
def F26 (c64:C64) (p0:L85) (p1:Int):Option (Int×Int×L56):=T26 Ops.std c64 p0 p1 some
abbrev C26:Type:=L85→Int→Option (Int×Int×L56)
def e26 {R:Type} (c:C26):Ent R:=eG [.aC (.cL 85 ty85),.aC (.cI .i64)] [] fun v k=>ob (c v.1 v.2.1) (K13 k)
abbrev Sp26 (c:C26):Prop:=∀ (p0:L85) (p1:Int) (y:Int×Int×L56),c p0 p1=some y→Spec Tryd.prog gl0 26 [.c (.list 85 ty85 p0),.c (.int .i64 p1)] [] (.tup [(false,[.own 501000]),(false,[.int .i64 y.1]),(false,[.int .i64 y.2.1])]) [(501000,.row 56 ty56 y.2.2)]
theorem ek26 {R:Type} {c:C26} (hs:Sp26 c):EOk 26 (e26 (R:=R) c):=qam fun v=>hs v.1 v.2.1
theorem sf26 {c64:C64} (h64:Sp64 c64):Sp26 (F26 c64):=fun p0 p1 y hy=>by
 refine qae (qac (ek64 h64) qad) 1000000 (fn:=Tryd.f26) (by kernel_rfl) (by kernel_rfl) (X:=X26) (by kernel_rfl) ?_
 rw [eq26]
 exact (nt26 Ops.std c64 p0 p1 some (K13 k0)).trans (by show ob (F26 c64 p0 p1) _=_;rw [hy];rfl)
noncomputable def M26:C26:=F26 M64
theorem sm26:Sp26 M26:=sf26 sm64
def X18:Aux:=⟨[],[(6,.lin [0,1,2,3,4,5,6,7,8]),(8,.lin [0,1,2,3,4,5,6,7])]⟩
def T18 {R:Type} (B:Ops) (c23:C23) (c26:C26) (p0:LB) (k:(Int×Int×L56)→Option R):Option R:=ob (c23 p0) fun y0=>cond (!B.eq y0.1 0) (k ((y0.1,y0.2.1,mt (Ty.den ty56)))) (ob (c26 y0.2.2 0) fun y1=>cond (!B.eq y1.2.1 0) (cond (B.inb y1.1 (List.length y0.2.2)) (k ((y1.2.1,(((List.getD y0.2.2 (Int.toNat y1.1) ty85.dflt).2).2).2,mt (Ty.den ty56)))) none) (cond (B.inb y1.1 (List.length y0.2.2)) (cond (!B.eq (List.getD y0.2.2 (Int.toNat y1.1) ty85.dflt).1 5) (cond (B.inb y1.1 (List.length y0.2.2)) (k ((2,(((List.getD y0.2.2 (Int.toNat y1.1) ty85.dflt).2).2).2,mt (Ty.den ty56)))) none) (k (0,0,y1.2.2))) none))
theorem eq18 {R:Type} (B:Ops) (c23:C23) (c26:C26) (p0:LB) (k:AV→Objs→Option R) (n:Nat):afun tau B gl0 X18 (ent 23 (e23 c23) (ent 26 (e26 c26) gnil)) ow Tryd.f18 [.c (.str p0)] [] k n=T18 B c23 c26 p0 (K13 k):=by kernel_rfl
theorem nt18 {R R':Type} (B:Ops) (c23:C23) (c26:C26) (p0:LB) (k0:(Int×Int×L56)→Option R') (k:R'→Option R):T18 B c23 c26 p0 (fun y=>ob (k0 y) k)=ob (T18 B c23 c26 p0 k0) k:=by
 unfold T18
 repeat' first | exact rfl | apply qab | (apply qah;intro)
def F18 (c23:C23) (c26:C26) (p0:LB):Option (Int×Int×L56):=T18 Ops.std c23 c26 p0 some
abbrev C18:Type:=LB→Option (Int×Int×L56)
def e18 {R:Type} (c:C18):Ent R:=eG [.aC .cS] [] fun v k=>ob (c v.1) (K13 k)
abbrev Sp18 (c:C18):Prop:=∀ (p0:LB) (y:Int×Int×L56),c p0=some y→Spec Tryd.prog gl0 18 [.c (.str p0)] [] (.tup [(false,[.own 501000]),(false,[.int .i64 y.1]),(false,[.int .i64 y.2.1])]) [(501000,.row 56 ty56 y.2.2)]
theorem ek18 {R:Type} {c:C18} (hs:Sp18 c):EOk 18 (e18 (R:=R) c):=qam fun v=>hs v.1
theorem sf18 {c23:C23} {c26:C26} (h23:Sp23 c23) (h26:Sp26 c26):Sp18 (F18 c23 c26):=fun p0 y hy=>by
 refine qae (qac (ek23 h23) (qac (ek26 h26) qad)) 1000000 (fn:=Tryd.f18) (by kernel_rfl) (by kernel_rfl) (X:=X18) (by kernel_rfl) ?_
 rw [eq18]
 exact (nt18 Ops.std c23 c26 p0 some (K13 k0)).trans (by show ob (F18 c23 c26 p0) _=_;rw [hy];rfl)
noncomputable def M18:C18:=F18 M23 M26
theorem sm18:Sp18 M18:=sf18 sm23 sm26
def X55:Aux:=⟨[],[]⟩
def T55 {R:Type} (B:Ops) (p0:Int) (k:(Int)→Option R):Option R:=cond (B.le 1 p0) (cond (B.le p0 3) (k 0) (cond (B.eq p0 4) (k 1) (cond (B.eq p0 5) (k 1) (cond (B.le 6 p0) (cond (B.le p0 16) (k 2) (k (-1))) (k (-1)))))) (cond (B.eq p0 4) (k 1) (cond (B.eq p0 5) (k 1) (cond (B.le 6 p0) (cond (B.le p0 16) (k 2) (k (-1))) (k (-1)))))
theorem eq55 {R:Type} (B:Ops) (p0:Int) (k:AV→Objs→Option R) (n:Nat):afun tau B gl0 X55 gnil ow Tryd.f55 [.c (.int .i64 p0)] [] k n=T55 B p0 (K1 k):=by kernel_rfl
theorem nt55 {R R':Type} (B:Ops) (p0:Int) (k0:(Int)→Option R') (k:R'→Option R):T55 B p0 (fun y=>ob (k0 y) k)=ob (T55 B p0 k0) k:=by
 unfold T55
 repeat' first | exact rfl | apply qab | (apply qah;intro)
def F55 (p0:Int):Option (Int):=T55 Ops.std p0 some
abbrev C55:Type:=Int→Option (Int)
def e55 {R:Type} (c:C55):Ent R:=eG [.aC (.cI .i64)] [] fun v k=>ob (c v.1) (K1 k)
abbrev Sp55 (c:C55):Prop:=∀ (p0 y:Int),c p0=some y→Spec Tryd.prog gl0 55 [.c (.int .i64 p0)] [] (.c (.int .i64 y)) []
theorem ek55 {R:Type} {c:C55} (hs:Sp55 c):EOk 55 (e55 (R:=R) c):=qam fun v=>hs v.1
theorem sf55:Sp55 (F55):=fun p0 y hy=>by
 refine qae qad 1000000 (fn:=Tryd.f55) (by kernel_rfl) (by kernel_rfl) (X:=X55) (by kernel_rfl) ?_
 rw [eq55]
 exact (nt55 Ops.std p0 some (K1 k0)).trans (by show ob (F55 p0) _=_;rw [hy];rfl)
noncomputable def M55:C55:=F55
theorem sm55:Sp55 M55:=sf55
def X79:Aux:=⟨[(2,([1,2]++rg 4 30))],[]⟩
inductive S79 where
 | l0 (v1:Int)
def T79 {R:Type} (B:Ops) (c60:C60) (c59:C59) (p0:LB) (again:S79→Option R) (k:(Bool)→Option R):Option S79→Option R | none=>again (.l0 0) | some (.l0 v1)=>cond (B.lt v1 (↑p0.length)) (cond (B.inb v1 p0.length) (ob (c60 (Nat.cast (UInt8.toNat (p0.getD v1.toNat 0)))) fun y0=>cond (!y0) (cond (B.eq v1 0) (k false) (cond (B.inb v1 p0.length) (ob (c59 (Nat.cast (UInt8.toNat (p0.getD v1.toNat 0)))) fun y1=>cond (!y1) (k false) (again (.l0 (IntKind.wrap .i64 (v1+1))))) none)) (again (.l0 (IntKind.wrap .i64 (v1+1))))) none) (cond (B.le 1 (↑p0.length)) (k (B.le (↑p0.length) 8)) (k false))
def E79 (p0:LB):S79→List AV×Objs
 | .l0 v1=>(mk 34 [(0,.c (.str p0)),(3,.c (.int .i64 v1))],[])
def I79:S79→Nat
 | .l0 _=>0
noncomputable abbrev A79 {R:Type} (B:Ops) (c60:C60) (c59:C59) (p0:LB) (k:AV→Objs→Option R) (s:S79) (n:Nat):Option R:=aloop tau B gl0 X79 (ent 60 (e60 c60) (ent 59 (e59 c59) gnil)) ow [] Tryd.f79 k (I79 s) (E79 p0 s) n
theorem eq79 {R:Type} (B:Ops) (c60:C60) (c59:C59) (p0:LB) (k:AV→Objs→Option R) (n:Nat):afun tau B gl0 X79 (ent 60 (e60 c60) (ent 59 (e59 c59) gnil)) ow Tryd.f79 [.c (.str p0)] [] k n=T79 B c60 c59 p0 (fun s=>A79 B c60 c59 p0 k s n) (K2 k) none:=by kernel_rfl
theorem el79 {R:Type} (B:Ops) (c60:C60) (c59:C59) (p0:LB) (k:AV→Objs→Option R) (n:Nat):∀ s,A79 B c60 c59 p0 k s (n+1)=T79 B c60 c59 p0 (fun s=>A79 B c60 c59 p0 k s n) (K2 k) (some s):=by
 intro s
 cases s<;>kernel_rfl
theorem nt79 {R R':Type} (B:Ops) (c60:C60) (c59:C59) (p0:LB) (again:S79→Option R) (again':S79→Option R') (k0:(Bool)→Option R') (k:R'→Option R) (h:∀ s,again s=ob (again' s) k):∀ s,T79 B c60 c59 p0 again (fun y=>ob (k0 y) k) s=ob (T79 B c60 c59 p0 again' k0 s) k:=by
 rintro (_ | x)
 all_goals try cases x
 all_goals (unfold T79;repeat' first | exact rfl | exact h _ | apply qab | (apply qah;intro))
def R79 (c60:C60) (c59:C59) (p0:LB):Nat→S79→Option (Bool)
 | 0,_=>none
 | n+1,s=>T79 Ops.std c60 c59 p0 (R79 c60 c59 p0 n) some (some s)
theorem rr79 {R:Type} (c60:C60) (c59:C59) (p0:LB) (k:AV→Objs→Option R):∀ (n:Nat) (s:S79),A79 Ops.std c60 c59 p0 k s n=ob (R79 c60 c59 p0 n s) (K2 k)
 | 0,s=>by cases s<;>rfl
 | n+1,s=>by rw [el79];exact nt79 Ops.std c60 c59 p0 _ _ some (K2 k) (rr79 c60 c59 p0 k n) (some s)
def F79 (c60:C60) (c59:C59) (p0:LB):Option (Bool):=T79 Ops.std c60 c59 p0 (R79 c60 c59 p0 10000000000000000000) some none
abbrev C79:Type:=LB→Option (Bool)
def e79 {R:Type} (c:C79):Ent R:=eG [.aC .cS] [] fun v k=>ob (c v.1) (K2 k)
abbrev Sp79 (c:C79):Prop:=∀ (p0:LB) (y:Bool),c p0=some y→Spec Tryd.prog gl0 79 [.c (.str p0)] [] (.c (.bool y)) []
theorem ek79 {R:Type} {c:C79} (hs:Sp79 c):EOk 79 (e79 (R:=R) c):=qam fun v=>hs v.1
theorem sf79 {c60:C60} {c59:C59} (h60:Sp60 c60) (h59:Sp59 c59):Sp79 (F79 c60 c59):=fun p0 y hy=>by
 refine qae (qac (ek60 h60) (qac (ek59 h59) qad)) 10000000000000000000 (fn:=Tryd.f79) (by kernel_rfl) (by kernel_rfl) (X:=X79) (by kernel_rfl) ?_
 rw [eq79]
 exact (nt79 Ops.std c60 c59 p0 _ _ some (K2 k0) (rr79 c60 c59 p0 k0 10000000000000000000) none).trans (by show ob (F79 c60 c59 p0) _=_;rw [hy];rfl)
noncomputable def M79:C79:=F79 M60 M59
theorem sm79:Sp79 M79:=sf79 sm60 sm59
def X36:Aux:=⟨[(3,([1,2]++rg 5 99)),(1000016,([1,2]++rg 8 96)),(1000018,([1,2,5]++rg 7 97))],[]⟩
inductive S36 where
 | l0 (v1 v2:Int)
 | l1016 (v1 v2 v3 v4 v5:Int) (v6 v7:LB) (v8 v9:Int) (v10 v11:LB)
 | l1018 (v1 v2 v3:Int)
def T36 {R:Type} (B:Ops) (c55:C55) (c79:C79) (p0:L56) (again:S36→Option R) (k:(Bool)→Option R):Option S36→Option R | none=>again (.l0 0 0) | some (.l0 v1 v2)=>cond (B.lt v2 (↑p0.length)) (cond (B.inb v2 p0.length) (ob (c55 (p0.getD v2.toNat ty56.dflt).1) fun y0=>cond (B.eq (p0.getD v2.toNat ty56.dflt).1 1) (again (.l1016 v1 v2 y0 (p0.getD v2.toNat ty56.dflt).1 ((p0.getD v2.toNat ty56.dflt).2).1 (((p0.getD v2.toNat ty56.dflt).2).2).1 (((p0.getD v2.toNat ty56.dflt).2).2).2 (p0.getD v2.toNat ty56.dflt).1 ((p0.getD v2.toNat ty56.dflt).2).1 (mt UInt8) (mt UInt8))) (cond (B.eq (p0.getD v2.toNat ty56.dflt).1 2) (again (.l1016 v1 v2 y0 (p0.getD v2.toNat ty56.dflt).1 ((p0.getD v2.toNat ty56.dflt).2).1 (((p0.getD v2.toNat ty56.dflt).2).2).1 (((p0.getD v2.toNat ty56.dflt).2).2).2 (p0.getD v2.toNat ty56.dflt).1 0 (((p0.getD v2.toNat ty56.dflt).2).2).1 (mt UInt8))) (cond (B.eq (p0.getD v2.toNat ty56.dflt).1 3) (again (.l1016 v1 v2 y0 (p0.getD v2.toNat ty56.dflt).1 ((p0.getD v2.toNat ty56.dflt).2).1 (((p0.getD v2.toNat ty56.dflt).2).2).1 (((p0.getD v2.toNat ty56.dflt).2).2).2 (p0.getD v2.toNat ty56.dflt).1 0 (((p0.getD v2.toNat ty56.dflt).2).2).1 (((p0.getD v2.toNat ty56.dflt).2).2).2)) (again (.l1016 v1 v2 y0 (p0.getD v2.toNat ty56.dflt).1 ((p0.getD v2.toNat ty56.dflt).2).1 (((p0.getD v2.toNat ty56.dflt).2).2).1 (((p0.getD v2.toNat ty56.dflt).2).2).2 (p0.getD v2.toNat ty56.dflt).1 0 (mt UInt8) (mt UInt8)))))) none) (cond (B.eq v1 1) (k (B.le (↑p0.length) 30)) (k false)) | some (.l1016 v1 v2 v3 v4 v5 v6 v7 v8 v9 v10 v11)=>cond (B.lt v3 0) (k false) (cond (B.lt v1 v3) (k false) (cond (!(B.eq v4 v8 && (B.eq v5 v9 && (v6 == v10 && (v7 == v11 && true))))) (k false) (cond (B.lt v5 0) (k false) (cond (B.lt 999 v5) (k false) (cond (B.eq v4 2) (ob (c79 v6) fun y0=>cond (!y0) (k false) (cond (B.eq v4 3) (ob (c79 v7) fun y1=>cond (!y1) (k false) (again (.l1018 v1 v2 v3))) (again (.l1018 v1 v2 v3)))) (cond (B.eq v4 3) (ob (c79 v6) fun y0=>cond (!y0) (k false) (cond (B.eq v4 3) (ob (c79 v7) fun y1=>cond (!y1) (k false) (again (.l1018 v1 v2 v3))) (again (.l1018 v1 v2 v3)))) (cond (B.eq v4 3) (ob (c79 v7) fun y0=>cond (!y0) (k false) (again (.l1018 v1 v2 v3))) (again (.l1018 v1 v2 v3))))))))) | some (.l1018 v1 v2 v3)=>again (.l0 (IntKind.wrap .i64 (IntKind.wrap .i64 (v1-v3)+1)) (IntKind.wrap .i64 (v2+1)))
def E36 (p0:L56):S36→List AV×Objs
 | .l0 v1 v2=>(mk 104 [(0,.c (.list 56 ty56 p0)),(3,.c (.int .i64 v1)),(4,.c (.int .i64 v2))],[])
 | .l1016 v1 v2 v3 v4 v5 v6 v7 v8 v9 v10 v11=>(mk 104 [(0,.c (.list 56 ty56 p0)),(3,.c (.int .i64 v1)),(4,.c (.int .i64 v2)),(5,.c (.ptr 5 0)),(6,.c (.int .i64 v3)),(7,.c (.ptr 7 0))],[(5,.box 56 [.int .i64 v4,.int .i64 v5,.str v6,.str v7]),(7,.box 56 [.int .i64 v8,.int .i64 v9,.str v10,.str v11])])
 | .l1018 v1 v2 v3=>(mk 104 [(0,.c (.list 56 ty56 p0)),(3,.c (.int .i64 v1)),(4,.c (.int .i64 v2)),(6,.c (.int .i64 v3))],[])
def I36:S36→Nat
 | .l0 _ _=>0
 | .l1016 _ _ _ _ _ _ _ _ _ _ _=>1016
 | .l1018 _ _ _=>1018
noncomputable abbrev A36 {R:Type} (B:Ops) (c55:C55) (c79:C79) (p0:L56) (k:AV→Objs→Option R) (s:S36) (n:Nat):Option R:=aloop tau B gl0 X36 (ent 55 (e55 c55) (ent 79 (e79 c79) gnil)) ow [] Tryd.f36 k (I36 s) (E36 p0 s) n
theorem eq36 {R:Type} (B:Ops) (c55:C55) (c79:C79) (p0:L56) (k:AV→Objs→Option R) (n:Nat):afun tau B gl0 X36 (ent 55 (e55 c55) (ent 79 (e79 c79) gnil)) ow Tryd.f36 [.c (.list 56 ty56 p0)] [] k n=T36 B c55 c79 p0 (fun s=>A36 B c55 c79 p0 k s n) (K2 k) none:=by kernel_rfl
theorem el36 {R:Type} (B:Ops) (c55:C55) (c79:C79) (p0:L56) (k:AV→Objs→Option R) (n:Nat):∀ s,A36 B c55 c79 p0 k s (n+1)=T36 B c55 c79 p0 (fun s=>A36 B c55 c79 p0 k s n) (K2 k) (some s):=by
 intro s
 cases s<;>kernel_rfl
theorem nt36 {R R':Type} (B:Ops) (c55:C55) (c79:C79) (p0:L56) (again:S36→Option R) (again':S36→Option R') (k0:(Bool)→Option R') (k:R'→Option R) (h:∀ s,again s=ob (again' s) k):∀ s,T36 B c55 c79 p0 again (fun y=>ob (k0 y) k) s=ob (T36 B c55 c79 p0 again' k0 s) k:=by
 rintro (_ | x)
 all_goals try cases x
 all_goals (unfold T36;repeat' first | exact rfl | exact h _ | apply qab | (apply qah;intro))
def R36 (c55:C55) (c79:C79) (p0:L56):Nat→S36→Option (Bool)
 | 0,_=>none
 | n+1,s=>T36 Ops.std c55 c79 p0 (R36 c55 c79 p0 n) some (some s)
theorem rr36 {R:Type} (c55:C55) (c79:C79) (p0:L56) (k:AV→Objs→Option R):∀ (n:Nat) (s:S36),A36 Ops.std c55 c79 p0 k s n=ob (R36 c55 c79 p0 n s) (K2 k)
 | 0,s=>by cases s<;>rfl
 | n+1,s=>by rw [el36];exact nt36 Ops.std c55 c79 p0 _ _ some (K2 k) (rr36 c55 c79 p0 k n) (some s)
def F36 (c55:C55) (c79:C79) (p0:L56):Option (Bool):=T36 Ops.std c55 c79 p0 (R36 c55 c79 p0 1000000) some none
abbrev C36:Type:=L56→Option (Bool)
def e36 {R:Type} (c:C36):Ent R:=eG [.aC (.cL 56 ty56)] [] fun v k=>ob (c v.1) (K2 k)
abbrev Sp36 (c:C36):Prop:=∀ (p0:L56) (y:Bool),c p0=some y→Spec Tryd.prog gl0 36 [.c (.list 56 ty56 p0)] [] (.c (.bool y)) []
theorem ek36 {R:Type} {c:C36} (hs:Sp36 c):EOk 36 (e36 (R:=R) c):=qam fun v=>hs v.1
theorem sf36 {c55:C55} {c79:C79} (h55:Sp55 c55) (h79:Sp79 c79):Sp36 (F36 c55 c79):=fun p0 y hy=>by
 refine qae (qac (ek55 h55) (qac (ek79 h79) qad)) 1000000 (fn:=Tryd.f36) (by kernel_rfl) (by kernel_rfl) (X:=X36) (by kernel_rfl) ?_
 rw [eq36]
 exact (nt36 Ops.std c55 c79 p0 _ _ some (K2 k0) (rr36 c55 c79 p0 k0 1000000) none).trans (by show ob (F36 c55 c79 p0) _=_;rw [hy];rfl)
noncomputable def M36:C36:=F36 M55 M79
theorem sm36:Sp36 M36:=sf36 sm55 sm79
abbrev C94:Type:=Int→Option (LB)
def e94 {R:Type} (c:C94):Ent R:=eG [.aC (.cI .u64)] [] fun v k=>ob (c v.1) (K3 k)
abbrev Sp94 (c:C94):Prop:=∀ (p0:Int) (y:LB),c p0=some y→Spec Tryd.prog gl0 94 [.c (.int .u64 p0)] [] (.c (.str y)) []
theorem ek94 {R:Type} {c:C94} (hs:Sp94 c):EOk 94 (e94 (R:=R) c):=qam fun v=>hs v.1
def X94:Aux:=⟨[],[]⟩
def T94 {R:Type} (B:Ops) (c94:C94) (p0:Int) (k:(LB)→Option R):Option R:=cond (B.eq 10 0) none (cond (B.eq 10 0) none (cond (B.inb (IntKind.wrap IntKind.u64 (Int.tmod p0 (10)+1)) (10+1)) (cond (bif B.le 0 (Int.tmod p0 10) then B.le (Int.tmod p0 10) (IntKind.wrap IntKind.u64 (Int.tmod p0 (10)+1)) else false) (cond (B.lt p0 10) (k (List.drop (Int.toNat (Int.tmod p0 10)) (List.take (Int.toNat (IntKind.wrap IntKind.u64 (Int.tmod p0 (10)+1))) ([48,49,50,51,52,53,54,55,56,57]:LB)))) (cond (B.eq 10 0) none (ob (c94 (IntKind.wrap IntKind.u64 (Int.tdiv p0 10))) fun y0=>cond (B.lim (List.length y0+List.length (List.drop (Int.toNat (Int.tmod p0 10)) (List.take (Int.toNat (IntKind.wrap IntKind.u64 (Int.tmod p0 (10)+1))) ([48,49,50,51,52,53,54,55,56,57]:LB)))) 1) (k (y0++List.drop (Int.toNat (Int.tmod p0 10)) (List.take (Int.toNat (IntKind.wrap IntKind.u64 (Int.tmod p0 (10)+1))) ([48,49,50,51,52,53,54,55,56,57]:LB)))) none))) none) none))
theorem eq94 {R:Type} (B:Ops) (c94:C94) (p0:Int) (k:AV→Objs→Option R) (n:Nat):afun tau B gl0 X94 (ent 94 (e94 c94) gnil) ow Tryd.f94 [.c (.int .u64 p0)] [] k n=T94 B c94 p0 (K3 k):=by kernel_rfl
theorem nt94 {R R':Type} (B:Ops) (c94:C94) (p0:Int) (k0:(LB)→Option R') (k:R'→Option R):T94 B c94 p0 (fun y=>ob (k0 y) k)=ob (T94 B c94 p0 k0) k:=by
 unfold T94
 repeat' first | exact rfl | apply qab | (apply qah;intro)
def F94 (c94:C94) (p0:Int):Option (LB):=T94 Ops.std c94 p0 some
theorem sf94 {c94:C94} (h94:Sp94 c94):Sp94 (F94 c94):=fun p0 y hy=>by
 refine qae (qac (ek94 h94) qad) 1000000 (fn:=Tryd.f94) (by kernel_rfl) (by kernel_rfl) (X:=X94) (by kernel_rfl) ?_
 rw [eq94]
 exact (nt94 Ops.std c94 p0 some (K3 k0)).trans (by show ob (F94 c94 p0) _=_;rw [hy];rfl)
noncomputable def Rec94:Nat→(Int→Option (LB))
 | 0=>fun _=>none
 | d+1=>F94 (Rec94 d)
theorem rec94:∀ d,Sp94 (Rec94 d)
 | 0=>fun p0 y (h:(none:Option (LB))=some y)=>by cases h
 | d+1=>sf94 (rec94 d)
noncomputable def M94:C94:=(Rec94 1000000)
theorem sm94:Sp94 M94:=(rec94 1000000)
def X56:Aux:=⟨[],[]⟩
def T56 {R:Type} (B:Ops) (c94:C94) (p0:Int) (k:(LB)→Option R):Option R:=cond (B.lt p0 0) (ob (c94 (IntKind.wrap IntKind.u64 (IntKind.wrap IntKind.u64 (IntKind.wrap .i64 (0-IntKind.wrap .i64 (p0+1)))+1))) fun y0=>cond (B.lim (1+List.length y0) 1) (k (([45]:LB)++y0)) none) (ob (c94 (IntKind.wrap IntKind.u64 p0)) fun y0=>k y0)
theorem eq56 {R:Type} (B:Ops) (c94:C94) (p0:Int) (k:AV→Objs→Option R) (n:Nat):afun tau B gl0 X56 (ent 94 (e94 c94) gnil) ow Tryd.f56 [.c (.int .i64 p0)] [] k n=T56 B c94 p0 (K3 k):=by kernel_rfl
theorem nt56 {R R':Type} (B:Ops) (c94:C94) (p0:Int) (k0:(LB)→Option R') (k:R'→Option R):T56 B c94 p0 (fun y=>ob (k0 y) k)=ob (T56 B c94 p0 k0) k:=by
 unfold T56
 repeat' first | exact rfl | apply qab | (apply qah;intro)
def F56 (c94:C94) (p0:Int):Option (LB):=T56 Ops.std c94 p0 some
abbrev C56:Type:=Int→Option (LB)
def e56 {R:Type} (c:C56):Ent R:=eG [.aC (.cI .i64)] [] fun v k=>ob (c v.1) (K3 k)
abbrev Sp56 (c:C56):Prop:=∀ (p0:Int) (y:LB),c p0=some y→Spec Tryd.prog gl0 56 [.c (.int .i64 p0)] [] (.c (.str y)) []
theorem ek56 {R:Type} {c:C56} (hs:Sp56 c):EOk 56 (e56 (R:=R) c):=qam fun v=>hs v.1
theorem sf56 {c94:C94} (h94:Sp94 c94):Sp56 (F56 c94):=fun p0 y hy=>by
 refine qae (qac (ek94 h94) qad) 1000000 (fn:=Tryd.f56) (by kernel_rfl) (by kernel_rfl) (X:=X56) (by kernel_rfl) ?_
 rw [eq56]
 exact (nt56 Ops.std c94 p0 some (K3 k0)).trans (by show ob (F56 c94 p0) _=_;rw [hy];rfl)
noncomputable def M56:C56:=F56 M94
theorem sm56:Sp56 M56:=sf56 sm94
def X57:Aux:=⟨[],[]⟩
def T57 {R:Type} (B:Ops) (p0:LB) (p1 p2:Int) (k:(LB)→Option R):Option R:=cond (B.lt p1 p2) (cond (B.lim (1+List.length p0) 1) (cond (B.lim (List.length (([40]:LB)++p0)+1) 1) (k (([40]:LB)++p0++([41]:LB))) none) none) (k p0)
theorem eq57 {R:Type} (B:Ops) (p0:LB) (p1 p2:Int) (k:AV→Objs→Option R) (n:Nat):afun tau B gl0 X57 gnil ow Tryd.f57 [.agg [.str p0,.int .i64 p1],.c (.int .i64 p2)] [] k n=T57 B p0 p1 p2 (K3 k):=by kernel_rfl
theorem nt57 {R R':Type} (B:Ops) (p0:LB) (p1 p2:Int) (k0:(LB)→Option R') (k:R'→Option R):T57 B p0 p1 p2 (fun y=>ob (k0 y) k)=ob (T57 B p0 p1 p2 k0) k:=by
 unfold T57
 repeat' first | exact rfl | apply qab | (apply qah;intro)
def F57 (p0:LB) (p1 p2:Int):Option (LB):=T57 Ops.std p0 p1 p2 some
abbrev C57:Type:=LB→Int→Int→Option (LB)
def e57 {R:Type} (c:C57):Ent R:=eG [.aG [.cS,.cI .i64],.aC (.cI .i64)] [] fun v k=>ob (c v.1 v.2.1 v.2.2.1) (K3 k)
abbrev Sp57 (c:C57):Prop:=∀ (p0:LB) (p1 p2:Int) (y:LB),c p0 p1 p2=some y→Spec Tryd.prog gl0 57 [.agg [.str p0,.int .i64 p1],.c (.int .i64 p2)] [] (.c (.str y)) []
theorem ek57 {R:Type} {c:C57} (hs:Sp57 c):EOk 57 (e57 (R:=R) c):=qam fun v=>hs v.1 v.2.1 v.2.2.1
theorem sf57:Sp57 (F57):=fun p0 p1 p2 y hy=>by
 refine qae qad 1000000 (fn:=Tryd.f57) (by kernel_rfl) (by kernel_rfl) (X:=X57) (by kernel_rfl) ?_
 rw [eq57]
 exact (nt57 Ops.std p0 p1 p2 some (K3 k0)).trans (by show ob (F57 p0 p1 p2) _=_;rw [hy];rfl)
noncomputable def M57:C57:=F57
theorem sm57:Sp57 M57:=sf57
def X21:Aux:=⟨[(6,([1,2]++rg 6 120))],[(31,.lin (rg 0 14)),(32,.lin [0,1,2,3,4,5,6,7]),(18,.lin ([0,1,2,3,4,5,7,8,9,10,12,13,14,15,16,17,18,6,11,19,20,21,22])),(19,.lin [0,1,2,3,4,5,6,7])]⟩
inductive S21 where
 | l0 (v1:Int) (v2:L93)
def T21 {R:Type} (B:Ops) (c36:C36) (c54:C54) (c55:C55) (c56:C56) (c57:C57) (p0:L56) (again:S21→Option R) (k:(LB)→Option R):Option S21→Option R | none=>ob (c36 p0) fun y0=>cond (!y0) (k (mt UInt8)) (again (.l0 0 (mt (Ty.den ty88)))) | some (.l0 v1 v2)=>cond (B.lt v1 (↑p0.length)) (cond (B.inb v1 p0.length) (ob (c54 (p0.getD v1.toNat ty56.dflt).1) fun y0=>ob (c55 (p0.getD v1.toNat ty56.dflt).1) fun y1=>cond (B.eq y1 0) (cond (B.eq (p0.getD v1.toNat ty56.dflt).1 1) (ob (c56 ((p0.getD v1.toNat ty56.dflt).2).1) fun y2=>cond (B.lim (List.length v2+List.length ((y2,y0)::mt (Ty.den ty88))) 24) (again (.l0 (IntKind.wrap .i64 (v1+1)) (v2++(y2,y0)::mt (Ty.den ty88)))) none) (cond (B.eq (p0.getD v1.toNat ty56.dflt).1 2) (cond (B.lim (List.length v2+List.length (((((p0.getD v1.toNat ty56.dflt).2).2).1,y0)::mt (Ty.den ty88))) 24) (again (.l0 (IntKind.wrap .i64 (v1+1)) (v2++((((p0.getD v1.toNat ty56.dflt).2).2).1,y0)::mt (Ty.den ty88)))) none) (cond (B.lim (List.length ((((p0.getD v1.toNat ty56.dflt).2).2).1)+1) 1) (cond (B.lim (List.length ((((p0.getD v1.toNat ty56.dflt).2).2).1++([64]:LB))+List.length (((p0.getD v1.toNat ty56.dflt).2).2).2) 1) (cond (B.lim (List.length v2+List.length (((((p0.getD v1.toNat ty56.dflt).2).2).1++([64]:LB)++(((p0.getD v1.toNat ty56.dflt).2).2).2,y0)::mt (Ty.den ty88))) 24) (again (.l0 (IntKind.wrap .i64 (v1+1)) (v2++((((p0.getD v1.toNat ty56.dflt).2).2).1++([64]:LB)++(((p0.getD v1.toNat ty56.dflt).2).2).2,y0)::mt (Ty.den ty88)))) none) none) none))) (cond (B.eq y1 1) (cond (B.lt (↑v2.length) 1) (k (mt UInt8)) (cond (B.inb (p0.getD v1.toNat ty56.dflt).1 17) (cond (B.inb (IntKind.wrap .i64 (Nat.cast v2.length-1)) v2.length) (ob (c57 (v2.getD (Int.toNat (IntKind.wrap .i64 (Nat.cast v2.length-1))) ty93.dflt).1 (v2.getD (Int.toNat (IntKind.wrap .i64 (Nat.cast v2.length-1))) ty93.dflt).2 y0) fun y2=>cond (B.lim (List.length (List.getD ((mt UInt8)::(mt UInt8)::(mt UInt8)::(mt UInt8)::([33]:LB)::([45]:LB)::([42]:LB)::([43]:LB)::([45]:LB)::([60]:LB)::([60,61]:LB)::([62]:LB)::([62,61]:LB)::([61,61]:LB)::([33,61]:LB)::([38,38]:LB)::([124,124]:LB)::mt LB) (Int.toNat (p0.getD v1.toNat ty56.dflt).1) (mt UInt8))+List.length y2) 1) (cond (B.inb (IntKind.wrap .i64 (Nat.cast v2.length-1)) (List.length v2+1)) (cond (B.lim (List.length (List.take (Int.toNat (IntKind.wrap .i64 (Nat.cast v2.length-1))) v2)+List.length ((List.getD ((mt UInt8)::(mt UInt8)::(mt UInt8)::(mt UInt8)::([33]:LB)::([45]:LB)::([42]:LB)::([43]:LB)::([45]:LB)::([60]:LB)::([60,61]:LB)::([62]:LB)::([62,61]:LB)::([61,61]:LB)::([33,61]:LB)::([38,38]:LB)::([124,124]:LB)::mt LB) (Int.toNat (p0.getD v1.toNat ty56.dflt).1) (mt UInt8)++y2,y0)::mt (Ty.den ty88))) 24) (again (.l0 (IntKind.wrap .i64 (v1+1)) (List.take (Int.toNat (IntKind.wrap .i64 (Nat.cast v2.length-1))) v2++(List.getD ((mt UInt8)::(mt UInt8)::(mt UInt8)::(mt UInt8)::([33]:LB)::([45]:LB)::([42]:LB)::([43]:LB)::([45]:LB)::([60]:LB)::([60,61]:LB)::([62]:LB)::([62,61]:LB)::([61,61]:LB)::([33,61]:LB)::([38,38]:LB)::([124,124]:LB)::mt LB) (Int.toNat (p0.getD v1.toNat ty56.dflt).1) (mt UInt8)++y2,y0)::mt (Ty.den ty88)))) none) none) none) none) none)) (cond (B.lt (↑v2.length) 2) (k (mt UInt8)) (cond (B.eq y0 3) (cond (B.inb (IntKind.wrap .i64 (Nat.cast v2.length-2)) v2.length) (cond (B.inb (p0.getD v1.toNat ty56.dflt).1 17) (cond (B.inb (IntKind.wrap .i64 (Nat.cast v2.length-1)) v2.length) (ob (c57 (v2.getD (Int.toNat (IntKind.wrap .i64 (Nat.cast v2.length-2))) ty93.dflt).1 (v2.getD (Int.toNat (IntKind.wrap .i64 (Nat.cast v2.length-2))) ty93.dflt).2 4) fun y2=>cond (B.lim (List.length y2+List.length (List.getD ((mt UInt8)::(mt UInt8)::(mt UInt8)::(mt UInt8)::([33]:LB)::([45]:LB)::([42]:LB)::([43]:LB)::([45]:LB)::([60]:LB)::([60,61]:LB)::([62]:LB)::([62,61]:LB)::([61,61]:LB)::([33,61]:LB)::([38,38]:LB)::([124,124]:LB)::mt LB) (Int.toNat (p0.getD v1.toNat ty56.dflt).1) (mt UInt8))) 1) (ob (c57 (v2.getD (Int.toNat (IntKind.wrap .i64 (Nat.cast v2.length-1))) ty93.dflt).1 (v2.getD (Int.toNat (IntKind.wrap .i64 (Nat.cast v2.length-1))) ty93.dflt).2 (IntKind.wrap .i64 (y0+1))) fun y3=>cond (B.lim (List.length (y2++List.getD ((mt UInt8)::(mt UInt8)::(mt UInt8)::(mt UInt8)::([33]:LB)::([45]:LB)::([42]:LB)::([43]:LB)::([45]:LB)::([60]:LB)::([60,61]:LB)::([62]:LB)::([62,61]:LB)::([61,61]:LB)::([33,61]:LB)::([38,38]:LB)::([124,124]:LB)::mt LB) (Int.toNat (p0.getD v1.toNat ty56.dflt).1) (mt UInt8))+List.length y3) 1) (cond (B.inb (IntKind.wrap .i64 (Nat.cast v2.length-2)) (List.length v2+1)) (cond (B.lim (List.length (List.take (Int.toNat (IntKind.wrap .i64 (Nat.cast v2.length-2))) v2)+List.length ((y2++List.getD ((mt UInt8)::(mt UInt8)::(mt UInt8)::(mt UInt8)::([33]:LB)::([45]:LB)::([42]:LB)::([43]:LB)::([45]:LB)::([60]:LB)::([60,61]:LB)::([62]:LB)::([62,61]:LB)::([61,61]:LB)::([33,61]:LB)::([38,38]:LB)::([124,124]:LB)::mt LB) (Int.toNat (p0.getD v1.toNat ty56.dflt).1) (mt UInt8)++y3,y0)::mt (Ty.den ty88))) 24) (again (.l0 (IntKind.wrap .i64 (v1+1)) (List.take (Int.toNat (IntKind.wrap .i64 (Nat.cast v2.length-2))) v2++(y2++List.getD ((mt UInt8)::(mt UInt8)::(mt UInt8)::(mt UInt8)::([33]:LB)::([45]:LB)::([42]:LB)::([43]:LB)::([45]:LB)::([60]:LB)::([60,61]:LB)::([62]:LB)::([62,61]:LB)::([61,61]:LB)::([33,61]:LB)::([38,38]:LB)::([124,124]:LB)::mt LB) (Int.toNat (p0.getD v1.toNat ty56.dflt).1) (mt UInt8)++y3,y0)::mt (Ty.den ty88)))) none) none) none) none) none) none) none) (cond (B.inb (IntKind.wrap .i64 (Nat.cast v2.length-2)) v2.length) (cond (B.inb (p0.getD v1.toNat ty56.dflt).1 17) (cond (B.inb (IntKind.wrap .i64 (Nat.cast v2.length-1)) v2.length) (ob (c57 (v2.getD (Int.toNat (IntKind.wrap .i64 (Nat.cast v2.length-2))) ty93.dflt).1 (v2.getD (Int.toNat (IntKind.wrap .i64 (Nat.cast v2.length-2))) ty93.dflt).2 y0) fun y2=>cond (B.lim (List.length y2+List.length (List.getD ((mt UInt8)::(mt UInt8)::(mt UInt8)::(mt UInt8)::([33]:LB)::([45]:LB)::([42]:LB)::([43]:LB)::([45]:LB)::([60]:LB)::([60,61]:LB)::([62]:LB)::([62,61]:LB)::([61,61]:LB)::([33,61]:LB)::([38,38]:LB)::([124,124]:LB)::mt LB) (Int.toNat (p0.getD v1.toNat ty56.dflt).1) (mt UInt8))) 1) (ob (c57 (v2.getD (Int.toNat (IntKind.wrap .i64 (Nat.cast v2.length-1))) ty93.dflt).1 (v2.getD (Int.toNat (IntKind.wrap .i64 (Nat.cast v2.length-1))) ty93.dflt).2 (IntKind.wrap .i64 (y0+1))) fun y3=>cond (B.lim (List.length (y2++List.getD ((mt UInt8)::(mt UInt8)::(mt UInt8)::(mt UInt8)::([33]:LB)::([45]:LB)::([42]:LB)::([43]:LB)::([45]:LB)::([60]:LB)::([60,61]:LB)::([62]:LB)::([62,61]:LB)::([61,61]:LB)::([33,61]:LB)::([38,38]:LB)::([124,124]:LB)::mt LB) (Int.toNat (p0.getD v1.toNat ty56.dflt).1) (mt UInt8))+List.length y3) 1) (cond (B.inb (IntKind.wrap .i64 (Nat.cast v2.length-2)) (List.length v2+1)) (cond (B.lim (List.length (List.take (Int.toNat (IntKind.wrap .i64 (Nat.cast v2.length-2))) v2)+List.length ((y2++List.getD ((mt UInt8)::(mt UInt8)::(mt UInt8)::(mt UInt8)::([33]:LB)::([45]:LB)::([42]:LB)::([43]:LB)::([45]:LB)::([60]:LB)::([60,61]:LB)::([62]:LB)::([62,61]:LB)::([61,61]:LB)::([33,61]:LB)::([38,38]:LB)::([124,124]:LB)::mt LB) (Int.toNat (p0.getD v1.toNat ty56.dflt).1) (mt UInt8)++y3,y0)::mt (Ty.den ty88))) 24) (again (.l0 (IntKind.wrap .i64 (v1+1)) (List.take (Int.toNat (IntKind.wrap .i64 (Nat.cast v2.length-2))) v2++(y2++List.getD ((mt UInt8)::(mt UInt8)::(mt UInt8)::(mt UInt8)::([33]:LB)::([45]:LB)::([42]:LB)::([43]:LB)::([45]:LB)::([60]:LB)::([60,61]:LB)::([62]:LB)::([62,61]:LB)::([61,61]:LB)::([33,61]:LB)::([38,38]:LB)::([124,124]:LB)::mt LB) (Int.toNat (p0.getD v1.toNat ty56.dflt).1) (mt UInt8)++y3,y0)::mt (Ty.den ty88)))) none) none) none) none) none) none) none))))) none) (cond (B.eq (↑v2.length) 0) (k (mt UInt8)) (cond (B.inb 0 v2.length) (k (v2.getD (Int.toNat 0) ty93.dflt).1) none))
def E21 (p0:L56):S21→List AV×Objs
 | .l0 v1 v2=>(mk 126 [(0,.c (.list 56 ty56 p0)),(3,.c (.own 3)),(4,.c (.ptr 4 0)),(5,.c (.int .i64 v1))],[(3,.row 93 ty93 v2),(4,.box 79 [.str (mt UInt8),.str (mt UInt8),.str (mt UInt8),.str (mt UInt8),.str ([33]:LB),.str ([45]:LB),.str ([42]:LB),.str ([43]:LB),.str ([45]:LB),.str ([60]:LB),.str ([60,61]:LB),.str ([62]:LB),.str ([62,61]:LB),.str ([61,61]:LB),.str ([33,61]:LB),.str ([38,38]:LB),.str ([124,124]:LB)])])
def I21:S21→Nat
 | .l0 _ _=>0
noncomputable abbrev A21 {R:Type} (B:Ops) (c36:C36) (c54:C54) (c55:C55) (c56:C56) (c57:C57) (p0:L56) (k:AV→Objs→Option R) (s:S21) (n:Nat):Option R:=aloop tau B gl0 X21 (ent 36 (e36 c36) (ent 54 (e54 c54) (ent 55 (e55 c55) (ent 56 (e56 c56) (ent 57 (e57 c57) gnil))))) ow [] Tryd.f21 k (I21 s) (E21 p0 s) n
theorem eq21 {R:Type} (B:Ops) (c36:C36) (c54:C54) (c55:C55) (c56:C56) (c57:C57) (p0:L56) (k:AV→Objs→Option R) (n:Nat):afun tau B gl0 X21 (ent 36 (e36 c36) (ent 54 (e54 c54) (ent 55 (e55 c55) (ent 56 (e56 c56) (ent 57 (e57 c57) gnil))))) ow Tryd.f21 [.c (.list 56 ty56 p0)] [] k n=T21 B c36 c54 c55 c56 c57 p0 (fun s=>A21 B c36 c54 c55 c56 c57 p0 k s n) (K3 k) none:=by kernel_rfl
theorem el21 {R:Type} (B:Ops) (c36:C36) (c54:C54) (c55:C55) (c56:C56) (c57:C57) (p0:L56) (k:AV→Objs→Option R) (n:Nat):∀ s,A21 B c36 c54 c55 c56 c57 p0 k s (n+1)=T21 B c36 c54 c55 c56 c57 p0 (fun s=>A21 B c36 c54 c55 c56 c57 p0 k s n) (K3 k) (some s):=by
 intro s
 cases s<;>kernel_rfl
theorem nt21 {R R':Type} (B:Ops) (c36:C36) (c54:C54) (c55:C55) (c56:C56) (c57:C57) (p0:L56) (again:S21→Option R) (again':S21→Option R') (k0:(LB)→Option R') (k:R'→Option R) (h:∀ s,again s=ob (again' s) k):∀ s,T21 B c36 c54 c55 c56 c57 p0 again (fun y=>ob (k0 y) k) s=ob (T21 B c36 c54 c55 c56 c57 p0 again' k0 s) k:=by
 rintro (_ | x)
 all_goals try cases x
 all_goals (unfold T21;repeat' first | exact rfl | exact h _ | apply qab | (apply qah;intro))
def R21 (c36:C36) (c54:C54) (c55:C55) (c56:C56) (c57:C57) (p0:L56):Nat→S21→Option (LB)
 | 0,_=>none
 | n+1,s=>T21 Ops.std c36 c54 c55 c56 c57 p0 (R21 c36 c54 c55 c56 c57 p0 n) some (some s)
theorem rr21 {R:Type} (c36:C36) (c54:C54) (c55:C55) (c56:C56) (c57:C57) (p0:L56) (k:AV→Objs→Option R):∀ (n:Nat) (s:S21),A21 Ops.std c36 c54 c55 c56 c57 p0 k s n=ob (R21 c36 c54 c55 c56 c57 p0 n s) (K3 k)
 | 0,s=>by cases s<;>rfl
 | n+1,s=>by rw [el21];exact nt21 Ops.std c36 c54 c55 c56 c57 p0 _ _ some (K3 k) (rr21 c36 c54 c55 c56 c57 p0 k n) (some s)
def F21 (c36:C36) (c54:C54) (c55:C55) (c56:C56) (c57:C57) (p0:L56):Option (LB):=T21 Ops.std c36 c54 c55 c56 c57 p0 (R21 c36 c54 c55 c56 c57 p0 1000000) some none
abbrev C21:Type:=L56→Option (LB)
def e21 {R:Type} (c:C21):Ent R:=eG [.aC (.cL 56 ty56)] [] fun v k=>ob (c v.1) (K3 k)
abbrev Sp21 (c:C21):Prop:=∀ (p0:L56) (y:LB),c p0=some y→Spec Tryd.prog gl0 21 [.c (.list 56 ty56 p0)] [] (.c (.str y)) []
theorem ek21 {R:Type} {c:C21} (hs:Sp21 c):EOk 21 (e21 (R:=R) c):=qam fun v=>hs v.1
theorem sf21 {c36:C36} {c54:C54} {c55:C55} {c56:C56} {c57:C57} (h36:Sp36 c36) (h54:Sp54 c54) (h55:Sp55 c55) (h56:Sp56 c56) (h57:Sp57 c57):Sp21 (F21 c36 c54 c55 c56 c57):=fun p0 y hy=>by
 refine qae (qac (ek36 h36) (qac (ek54 h54) (qac (ek55 h55) (qac (ek56 h56) (qac (ek57 h57) qad))))) 1000000 (fn:=Tryd.f21) (by kernel_rfl) (by kernel_rfl) (X:=X21) (by kernel_rfl) ?_
 rw [eq21]
 exact (nt21 Ops.std c36 c54 c55 c56 c57 p0 _ _ some (K3 k0) (rr21 c36 c54 c55 c56 c57 p0 k0 1000000) none).trans (by show ob (F21 c36 c54 c55 c56 c57 p0) _=_;rw [hy];rfl)
noncomputable def M21:C21:=F21 M36 M54 M55 M56 M57
theorem sm21:Sp21 M21:=sf21 sm36 sm54 sm55 sm56 sm57
end Go.Proofs.YtkmpkebaloejhaaDoor.Av
