/- Twins of functions,printed by gen.py. Conditions: none. -/
import Derived.Test.YtkmpkebaloejhaaDoorEw1
import Derived.KernelRfl
set_option linter.unusedSimpArgs false
set_option linter.unusedVariables false
set_option maxRecDepth 100000
set_option maxHeartbeats 8000000
namespace Go.Proofs.YtkmpkebaloejhaaDoor.Av
open Go
def X109:Aux:=⟨[(2,([2,3,4,5,6]++rg 9 10))],[]⟩
inductive S109 where
 | l0 (v1 v2:Int) (v3:LB)
def T109 {R:Type} (B:Ops) (c110:C110) (p0:L108) (p1:LB) (again:S109→Option R) (k:(Int×LB)→Option R):Option S109→Option R | none=>again (.l0 (↑p0.length) 0 p1) | some (.l0 v1 v2 v3)=>cond (B.lt v2 v1) (cond (B.inb v2 p0.length) (ob (c110 (p0.getD v2.toNat ty108.dflt).1 ((p0.getD v2.toNat ty108.dflt).2).1 (((p0.getD v2.toNat ty108.dflt).2).2).1 (((p0.getD v2.toNat ty108.dflt).2).2).2 v3) fun y0=>cond y0.1 (k (v2,y0.2)) (again (.l0 v1 (IntKind.wrap .i64 (v2+1)) y0.2))) none) (k (-1,v3))
def E109 (p0:L108) (p1:LB):S109→List AV×Objs
 | .l0 v1 v2 v3=>(mk 19 [(0,.c (.list 108 ty108 p0)),(1,.fn 110 [.ptr 2500 0]),(7,.c (.int .i64 v1)),(8,.c (.int .i64 v2))],[(2500,.box 9 [.str v3])])
def I109:S109→Nat
 | .l0 _ _ _=>0
abbrev K17 {R:Type} (k:AV→Objs→Option R) (y:(Int×LB)):Option R:=k (.c (.int .i64 y.1)) [(2500,.box 9 [.str y.2])]
noncomputable abbrev A109 {R:Type} (B:Ops) (c110:C110) (p0:L108) (p1:LB) (k:AV→Objs→Option R) (s:S109) (n:Nat):Option R:=aloop tau B gl0 X109 (ent 110 (e110 c110) gnil) ow [2500] Tryd.f109 k (I109 s) (E109 p0 p1 s) n
theorem eq109 {R:Type} (B:Ops) (c110:C110) (p0:L108) (p1:LB) (k:AV→Objs→Option R) (n:Nat):afun tau B gl0 X109 (ent 110 (e110 c110) gnil) ow Tryd.f109 [.c (.list 108 ty108 p0),.fn 110 [.ptr 2500 0]] [(2500,.box 9 [.str p1])] k n=T109 B c110 p0 p1 (fun s=>A109 B c110 p0 p1 k s n) (K17 k) none:=by kernel_rfl
theorem el109 {R:Type} (B:Ops) (c110:C110) (p0:L108) (p1:LB) (k:AV→Objs→Option R) (n:Nat):∀ s,A109 B c110 p0 p1 k s (n+1)=T109 B c110 p0 p1 (fun s=>A109 B c110 p0 p1 k s n) (K17 k) (some s):=by
 intro s
 cases s<;>kernel_rfl
theorem nt109 {R R':Type} (B:Ops) (c110:C110) (p0:L108) (p1:LB) (again:S109→Option R) (again':S109→Option R') (k0:(Int×LB)→Option R') (k:R'→Option R) (h:∀ s,again s=ob (again' s) k):∀ s,T109 B c110 p0 p1 again (fun y=>ob (k0 y) k) s=ob (T109 B c110 p0 p1 again' k0 s) k:=by
 rintro (_ | x)
 all_goals try cases x
 all_goals (unfold T109;repeat' first | exact rfl | exact h _ | apply qac | (apply qam;intro))
def R109 (c110:C110) (p0:L108) (p1:LB):Nat→S109→Option (Int×LB)
 | 0,_=>none
 | n+1,s=>T109 Ops.std c110 p0 p1 (R109 c110 p0 p1 n) some (some s)
theorem rr109 {R:Type} (c110:C110) (p0:L108) (p1:LB) (k:AV→Objs→Option R):∀ (n:Nat) (s:S109),A109 Ops.std c110 p0 p1 k s n=ob (R109 c110 p0 p1 n s) (K17 k)
 | 0,s=>by cases s<;>rfl
 | n+1,s=>by rw [el109];exact nt109 Ops.std c110 p0 p1 _ _ some (K17 k) (rr109 c110 p0 p1 k n) (some s)
def F109 (c110:C110) (p0:L108) (p1:LB):Option (Int×LB):=T109 Ops.std c110 p0 p1 (R109 c110 p0 p1 1000000) some none
abbrev C109:Type:=L108→LB→Option (Int×LB)
def e109 {R:Type} (c:C109):Ent R:=eG [.aC (.cL 108 ty108),.aF 110 [.cP 2500]] [.oB 2500 9 [.cS]] fun v k=>ob (c v.1 v.2.1) (K17 k)
abbrev Sp109 (c:C109):Prop:=∀ (p0:L108) (p1:LB) (y:Int×LB),c p0 p1=some y→Spec Tryd.prog gl0 109 [.c (.list 108 ty108 p0),.fn 110 [.ptr 2500 0]] [(2500,.box 9 [.str p1])] (.c (.int .i64 y.1)) [(2500,.box 9 [.str y.2])]
theorem ek109 {R:Type} {c:C109} (hs:Sp109 c):EOk 109 (e109 (R:=R) c):=qap fun v=>hs v.1 v.2.1
theorem sf109 {c110:C110} (h110:Sp110 c110):Sp109 (F109 c110):=fun p0 p1 y hy=>by
 refine qag (qad (ek110 h110) qaf) 1000000 (fn:=Tryd.f109) (by kernel_rfl) (by kernel_rfl) (X:=X109) (by kernel_rfl) ?_
 rw [eq109]
 exact (nt109 Ops.std c110 p0 p1 _ _ some (K17 k0) (rr109 c110 p0 p1 k0 1000000) none).trans (by show ob (F109 c110 p0 p1) _=_;rw [hy];rfl)
noncomputable def M109:C109:=F109 M110
theorem sm109:Sp109 M109:=sf109 sm110
def X68:Aux:=⟨[],[]⟩
def T68 {R:Type} (B:Ops) (c110:C110) (c109:C109) (p0:L108) (p1:L73) (p2:L193) (p3:LB) (k:(Int)→Option R):Option R:=ob (c109 p0 p3) fun y0=>k y0.1
theorem eq68 {R:Type} (B:Ops) (c110:C110) (c109:C109) (p0:L108) (p1:L73) (p2:L193) (p3:LB) (k:AV→Objs→Option R) (n:Nat):afun tau B gl0 X68 (ent 110 (e110 c110) (ent 109 (e109 c109) gnil)) ow Tryd.f68 [.agg [.list 108 ty108 p0,.list 73 ty73 p1,.list 193 ty193 p2],.c (.str p3)] [] k n=T68 B c110 c109 p0 p1 p2 p3 (K1 k):=by kernel_rfl
theorem nt68 {R R':Type} (B:Ops) (c110:C110) (c109:C109) (p0:L108) (p1:L73) (p2:L193) (p3:LB) (k0:(Int)→Option R') (k:R'→Option R):T68 B c110 c109 p0 p1 p2 p3 (fun y=>ob (k0 y) k)=ob (T68 B c110 c109 p0 p1 p2 p3 k0) k:=by
 unfold T68
 repeat' first | exact rfl | apply qac | (apply qam;intro)
def F68 (c110:C110) (c109:C109) (p0:L108) (p1:L73) (p2:L193) (p3:LB):Option (Int):=T68 Ops.std c110 c109 p0 p1 p2 p3 some
abbrev C68:Type:=L108→L73→L193→LB→Option (Int)
def e68 {R:Type} (c:C68):Ent R:=eG [.aG [.cL 108 ty108,.cL 73 ty73,.cL 193 ty193],.aC .cS] [] fun v k=>ob (c v.1 v.2.1 v.2.2.1 v.2.2.2.1) (K1 k)
abbrev Sp68 (c:C68):Prop:=∀ (p0:L108) (p1:L73) (p2:L193) (p3:LB) (y:Int),c p0 p1 p2 p3=some y→Spec Tryd.prog gl0 68 [.agg [.list 108 ty108 p0,.list 73 ty73 p1,.list 193 ty193 p2],.c (.str p3)] [] (.c (.int .i64 y)) []
theorem ek68 {R:Type} {c:C68} (hs:Sp68 c):EOk 68 (e68 (R:=R) c):=qap fun v=>hs v.1 v.2.1 v.2.2.1 v.2.2.2.1
theorem sf68 {c110:C110} {c109:C109} (h110:Sp110 c110) (h109:Sp109 c109):Sp68 (F68 c110 c109):=fun p0 p1 p2 p3 y hy=>by
 refine qag (qad (ek110 h110) (qad (ek109 h109) qaf)) 1000000 (fn:=Tryd.f68) (by kernel_rfl) (by kernel_rfl) (X:=X68) (by kernel_rfl) ?_
 rw [eq68]
 exact (nt68 Ops.std c110 c109 p0 p1 p2 p3 some (K1 k0)).trans (by show ob (F68 c110 c109 p0 p1 p2 p3) _=_;rw [hy];rfl)
noncomputable def M68:C68:=F68 M110 M109
theorem sm68:Sp68 M68:=sf68 sm110 sm109
def X112:Aux:=⟨[],[]⟩
def T112 {R:Type} (B:Ops) (p0:LB) (p1:L9) (p2:LB) (k:(Bool×LB)→Option R):Option R:=k (p0 == p2,p2)
theorem eq112 {R:Type} (B:Ops) (p0:LB) (p1:L9) (p2:LB) (k:AV→Objs→Option R) (n:Nat):afun tau B gl0 X112 gnil ow Tryd.f112 [.agg [.str p0,.list 9 ty9 p1],.c (.ptr 1 0)] [(1,.box 9 [.str p2])] k n=T112 B p0 p1 p2 (K16 k):=by kernel_rfl
theorem nt112 {R R':Type} (B:Ops) (p0:LB) (p1:L9) (p2:LB) (k0:(Bool×LB)→Option R') (k:R'→Option R):T112 B p0 p1 p2 (fun y=>ob (k0 y) k)=ob (T112 B p0 p1 p2 k0) k:=by
 unfold T112
 repeat' first | exact rfl | apply qac | (apply qam;intro)
def F112 (p0:LB) (p1:L9) (p2:LB):Option (Bool×LB):=T112 Ops.std p0 p1 p2 some
abbrev C112:Type:=LB→L9→LB→Option (Bool×LB)
def e112 {R:Type} (c:C112):Ent R:=eG [.aG [.cS,.cL 9 ty9],.aC (.cP 1)] [.oB 1 9 [.cS]] fun v k=>ob (c v.1 v.2.1 v.2.2.1) (K16 k)
abbrev Sp112 (c:C112):Prop:=∀ (p0:LB) (p1:L9) (p2:LB) (y:Bool×LB),c p0 p1 p2=some y→Spec Tryd.prog gl0 112 [.agg [.str p0,.list 9 ty9 p1],.c (.ptr 1 0)] [(1,.box 9 [.str p2])] (.c (.bool y.1)) [(1,.box 9 [.str y.2])]
theorem ek112 {R:Type} {c:C112} (hs:Sp112 c):EOk 112 (e112 (R:=R) c):=qap fun v=>hs v.1 v.2.1 v.2.2.1
theorem sf112:Sp112 (F112):=fun p0 p1 p2 y hy=>by
 refine qag qaf 1000000 (fn:=Tryd.f112) (by kernel_rfl) (by kernel_rfl) (X:=X112) (by kernel_rfl) ?_
 rw [eq112]
 exact (nt112 Ops.std p0 p1 p2 some (K16 k0)).trans (by show ob (F112 p0 p1 p2) _=_;rw [hy];rfl)
noncomputable def M112:C112:=F112
theorem sm112:Sp112 M112:=sf112
def X111:Aux:=⟨[(2,([2,3,4,5,6]++rg 9 10))],[]⟩
inductive S111 where
 | l0 (v1 v2:Int) (v3:LB)
def T111 {R:Type} (B:Ops) (c112:C112) (p0:L73) (p1:LB) (again:S111→Option R) (k:(Int×LB)→Option R):Option S111→Option R | none=>again (.l0 (↑p0.length) 0 p1) | some (.l0 v1 v2 v3)=>cond (B.lt v2 v1) (cond (B.inb v2 p0.length) (ob (c112 (p0.getD v2.toNat ty73.dflt).1 (p0.getD v2.toNat ty73.dflt).2 v3) fun y0=>cond y0.1 (k (v2,y0.2)) (again (.l0 v1 (IntKind.wrap .i64 (v2+1)) y0.2))) none) (k (-1,v3))
def E111 (p0:L73) (p1:LB):S111→List AV×Objs
 | .l0 v1 v2 v3=>(mk 19 [(0,.c (.list 73 ty73 p0)),(1,.fn 112 [.ptr 2500 0]),(7,.c (.int .i64 v1)),(8,.c (.int .i64 v2))],[(2500,.box 9 [.str v3])])
def I111:S111→Nat
 | .l0 _ _ _=>0
noncomputable abbrev A111 {R:Type} (B:Ops) (c112:C112) (p0:L73) (p1:LB) (k:AV→Objs→Option R) (s:S111) (n:Nat):Option R:=aloop tau B gl0 X111 (ent 112 (e112 c112) gnil) ow [2500] Tryd.f111 k (I111 s) (E111 p0 p1 s) n
theorem eq111 {R:Type} (B:Ops) (c112:C112) (p0:L73) (p1:LB) (k:AV→Objs→Option R) (n:Nat):afun tau B gl0 X111 (ent 112 (e112 c112) gnil) ow Tryd.f111 [.c (.list 73 ty73 p0),.fn 112 [.ptr 2500 0]] [(2500,.box 9 [.str p1])] k n=T111 B c112 p0 p1 (fun s=>A111 B c112 p0 p1 k s n) (K17 k) none:=by kernel_rfl
theorem el111 {R:Type} (B:Ops) (c112:C112) (p0:L73) (p1:LB) (k:AV→Objs→Option R) (n:Nat):∀ s,A111 B c112 p0 p1 k s (n+1)=T111 B c112 p0 p1 (fun s=>A111 B c112 p0 p1 k s n) (K17 k) (some s):=by
 intro s
 cases s<;>kernel_rfl
theorem nt111 {R R':Type} (B:Ops) (c112:C112) (p0:L73) (p1:LB) (again:S111→Option R) (again':S111→Option R') (k0:(Int×LB)→Option R') (k:R'→Option R) (h:∀ s,again s=ob (again' s) k):∀ s,T111 B c112 p0 p1 again (fun y=>ob (k0 y) k) s=ob (T111 B c112 p0 p1 again' k0 s) k:=by
 rintro (_ | x)
 all_goals try cases x
 all_goals (unfold T111;repeat' first | exact rfl | exact h _ | apply qac | (apply qam;intro))
def R111 (c112:C112) (p0:L73) (p1:LB):Nat→S111→Option (Int×LB)
 | 0,_=>none
 | n+1,s=>T111 Ops.std c112 p0 p1 (R111 c112 p0 p1 n) some (some s)
theorem rr111 {R:Type} (c112:C112) (p0:L73) (p1:LB) (k:AV→Objs→Option R):∀ (n:Nat) (s:S111),A111 Ops.std c112 p0 p1 k s n=ob (R111 c112 p0 p1 n s) (K17 k)
 | 0,s=>by cases s<;>rfl
 | n+1,s=>by rw [el111];exact nt111 Ops.std c112 p0 p1 _ _ some (K17 k) (rr111 c112 p0 p1 k n) (some s)
def F111 (c112:C112) (p0:L73) (p1:LB):Option (Int×LB):=T111 Ops.std c112 p0 p1 (R111 c112 p0 p1 1000000) some none
abbrev C111:Type:=L73→LB→Option (Int×LB)
def e111 {R:Type} (c:C111):Ent R:=eG [.aC (.cL 73 ty73),.aF 112 [.cP 2500]] [.oB 2500 9 [.cS]] fun v k=>ob (c v.1 v.2.1) (K17 k)
abbrev Sp111 (c:C111):Prop:=∀ (p0:L73) (p1:LB) (y:Int×LB),c p0 p1=some y→Spec Tryd.prog gl0 111 [.c (.list 73 ty73 p0),.fn 112 [.ptr 2500 0]] [(2500,.box 9 [.str p1])] (.c (.int .i64 y.1)) [(2500,.box 9 [.str y.2])]
theorem ek111 {R:Type} {c:C111} (hs:Sp111 c):EOk 111 (e111 (R:=R) c):=qap fun v=>hs v.1 v.2.1
theorem sf111 {c112:C112} (h112:Sp112 c112):Sp111 (F111 c112):=fun p0 p1 y hy=>by
 refine qag (qad (ek112 h112) qaf) 1000000 (fn:=Tryd.f111) (by kernel_rfl) (by kernel_rfl) (X:=X111) (by kernel_rfl) ?_
 rw [eq111]
 exact (nt111 Ops.std c112 p0 p1 _ _ some (K17 k0) (rr111 c112 p0 p1 k0 1000000) none).trans (by show ob (F111 c112 p0 p1) _=_;rw [hy];rfl)
noncomputable def M111:C111:=F111 M112
theorem sm111:Sp111 M111:=sf111 sm112
def X113:Aux:=⟨[(2,([2,3,4,5,6]++rg 9 10))],[]⟩
inductive S113 where
 | l0 (v2 v3:Int)
def T113 {R:Type} (B:Ops) (p0:L9) (p1:LB) (again:S113→Option R) (k:(Int)→Option R):Option S113→Option R | none=>again (.l0 (↑p0.length) 0) | some (.l0 v2 v3)=>cond (B.lt v3 v2) (cond (B.inb v3 p0.length) (cond (p1 == p0.getD v3.toNat ty9.dflt) (k v3) (again (.l0 v2 (IntKind.wrap .i64 (v3+1))))) none) (k (-1))
def E113 (p0:L9) (p1:LB):S113→List AV×Objs
 | .l0 v2 v3=>(mk 19 [(0,.c (.list 9 ty9 p0)),(1,.c (.str p1)),(7,.c (.int .i64 v2)),(8,.c (.int .i64 v3))],[])
def I113:S113→Nat
 | .l0 _ _=>0
noncomputable abbrev A113 {R:Type} (B:Ops) (p0:L9) (p1:LB) (k:AV→Objs→Option R) (s:S113) (n:Nat):Option R:=aloop tau B gl0 X113 gnil ow [] Tryd.f113 k (I113 s) (E113 p0 p1 s) n
theorem eq113 {R:Type} (B:Ops) (p0:L9) (p1:LB) (k:AV→Objs→Option R) (n:Nat):afun tau B gl0 X113 gnil ow Tryd.f113 [.c (.list 9 ty9 p0),.c (.str p1)] [] k n=T113 B p0 p1 (fun s=>A113 B p0 p1 k s n) (K1 k) none:=by kernel_rfl
theorem el113 {R:Type} (B:Ops) (p0:L9) (p1:LB) (k:AV→Objs→Option R) (n:Nat):∀ s,A113 B p0 p1 k s (n+1)=T113 B p0 p1 (fun s=>A113 B p0 p1 k s n) (K1 k) (some s):=by
 intro s
 cases s<;>kernel_rfl
theorem nt113 {R R':Type} (B:Ops) (p0:L9) (p1:LB) (again:S113→Option R) (again':S113→Option R') (k0:(Int)→Option R') (k:R'→Option R) (h:∀ s,again s=ob (again' s) k):∀ s,T113 B p0 p1 again (fun y=>ob (k0 y) k) s=ob (T113 B p0 p1 again' k0 s) k:=by
 rintro (_ | x)
 all_goals try cases x
 all_goals (unfold T113;repeat' first | exact rfl | exact h _ | apply qac | (apply qam;intro))
def R113 (p0:L9) (p1:LB):Nat→S113→Option (Int)
 | 0,_=>none
 | n+1,s=>T113 Ops.std p0 p1 (R113 p0 p1 n) some (some s)
theorem rr113 {R:Type} (p0:L9) (p1:LB) (k:AV→Objs→Option R):∀ (n:Nat) (s:S113),A113 Ops.std p0 p1 k s n=ob (R113 p0 p1 n s) (K1 k)
 | 0,s=>by cases s<;>rfl
 | n+1,s=>by rw [el113];exact nt113 Ops.std p0 p1 _ _ some (K1 k) (rr113 p0 p1 k n) (some s)
def F113 (p0:L9) (p1:LB):Option (Int):=T113 Ops.std p0 p1 (R113 p0 p1 1000000) some none
abbrev C113:Type:=L9→LB→Option (Int)
def e113 {R:Type} (c:C113):Ent R:=eG [.aC (.cL 9 ty9),.aC .cS] [] fun v k=>ob (c v.1 v.2.1) (K1 k)
abbrev Sp113 (c:C113):Prop:=∀ (p0:L9) (p1:LB) (y:Int),c p0 p1=some y→Spec Tryd.prog gl0 113 [.c (.list 9 ty9 p0),.c (.str p1)] [] (.c (.int .i64 y)) []
theorem ek113 {R:Type} {c:C113} (hs:Sp113 c):EOk 113 (e113 (R:=R) c):=qap fun v=>hs v.1 v.2.1
theorem sf113:Sp113 (F113):=fun p0 p1 y hy=>by
 refine qag qaf 1000000 (fn:=Tryd.f113) (by kernel_rfl) (by kernel_rfl) (X:=X113) (by kernel_rfl) ?_
 rw [eq113]
 exact (nt113 Ops.std p0 p1 _ _ some (K1 k0) (rr113 p0 p1 k0 1000000) none).trans (by show ob (F113 p0 p1) _=_;rw [hy];rfl)
noncomputable def M113:C113:=F113
theorem sm113:Sp113 M113:=sf113
def X69:Aux:=⟨[],[]⟩
def T69 {R:Type} (B:Ops) (c112:C112) (c111:C111) (c113:C113) (p0:L108) (p1:L73) (p2:L193) (p3 p4:LB) (k:(Int×Int)→Option R):Option R:=ob (c111 p1 p3) fun y0=>cond (B.lt y0.1 0) (k (-1,-1)) (cond (B.inb y0.1 p1.length) (ob (c113 (p1.getD (Int.toNat y0.1) ty73.dflt).2 p4) fun y1=>k (y0.1,y1)) none)
theorem eq69 {R:Type} (B:Ops) (c112:C112) (c111:C111) (c113:C113) (p0:L108) (p1:L73) (p2:L193) (p3 p4:LB) (k:AV→Objs→Option R) (n:Nat):afun tau B gl0 X69 (ent 112 (e112 c112) (ent 111 (e111 c111) (ent 113 (e113 c113) gnil))) ow Tryd.f69 [.agg [.list 108 ty108 p0,.list 73 ty73 p1,.list 193 ty193 p2],.c (.str p3),.c (.str p4)] [] k n=T69 B c112 c111 c113 p0 p1 p2 p3 p4 (K12 k):=by kernel_rfl
theorem nt69 {R R':Type} (B:Ops) (c112:C112) (c111:C111) (c113:C113) (p0:L108) (p1:L73) (p2:L193) (p3 p4:LB) (k0:(Int×Int)→Option R') (k:R'→Option R):T69 B c112 c111 c113 p0 p1 p2 p3 p4 (fun y=>ob (k0 y) k)=ob (T69 B c112 c111 c113 p0 p1 p2 p3 p4 k0) k:=by
 unfold T69
 repeat' first | exact rfl | apply qac | (apply qam;intro)
def F69 (c112:C112) (c111:C111) (c113:C113) (p0:L108) (p1:L73) (p2:L193) (p3 p4:LB):Option (Int×Int):=T69 Ops.std c112 c111 c113 p0 p1 p2 p3 p4 some
abbrev C69:Type:=L108→L73→L193→LB→LB→Option (Int×Int)
def e69 {R:Type} (c:C69):Ent R:=eG [.aG [.cL 108 ty108,.cL 73 ty73,.cL 193 ty193],.aC .cS,.aC .cS] [] fun v k=>ob (c v.1 v.2.1 v.2.2.1 v.2.2.2.1 v.2.2.2.2.1) (K12 k)
abbrev Sp69 (c:C69):Prop:=∀ (p0:L108) (p1:L73) (p2:L193) (p3 p4:LB) (y:Int×Int),c p0 p1 p2 p3 p4=some y→Spec Tryd.prog gl0 69 [.agg [.list 108 ty108 p0,.list 73 ty73 p1,.list 193 ty193 p2],.c (.str p3),.c (.str p4)] [] (.tup [(false,[.int .i64 y.1]),(false,[.int .i64 y.2])]) []
theorem ek69 {R:Type} {c:C69} (hs:Sp69 c):EOk 69 (e69 (R:=R) c):=qap fun v=>hs v.1 v.2.1 v.2.2.1 v.2.2.2.1 v.2.2.2.2.1
theorem sf69 {c112:C112} {c111:C111} {c113:C113} (h112:Sp112 c112) (h111:Sp111 c111) (h113:Sp113 c113):Sp69 (F69 c112 c111 c113):=fun p0 p1 p2 p3 p4 y hy=>by
 refine qag (qad (ek112 h112) (qad (ek111 h111) (qad (ek113 h113) qaf))) 1000000 (fn:=Tryd.f69) (by kernel_rfl) (by kernel_rfl) (X:=X69) (by kernel_rfl) ?_
 rw [eq69]
 exact (nt69 Ops.std c112 c111 c113 p0 p1 p2 p3 p4 some (K12 k0)).trans (by show ob (F69 c112 c111 c113 p0 p1 p2 p3 p4) _=_;rw [hy];rfl)
noncomputable def M69:C69:=F69 M112 M111 M113
theorem sm69:Sp69 M69:=sf69 sm112 sm111 sm113
def X32:Aux:=⟨[(2,([0,3,4,5,6,7,8]++rg 12 28))],[]⟩
inductive S32 where
 | l0 (v2 v3:Int)
def T32 {R:Type} (B:Ops) (c68:C68) (c69:C69) (c22:C22) (p0:L108) (p1:L73) (p2:L193) (p3:L56) (again:S32→Option R) (k:(Bool)→Option R):Option S32→Option R | none=>again (.l0 (↑p3.length) 0) | some (.l0 v2 v3)=>cond (B.lt v3 v2) (cond (B.inb v3 p3.length) (cond (B.eq (p3.getD v3.toNat ty56.dflt).1 2) (ob (c68 p0 p1 p2 (((p3.getD v3.toNat ty56.dflt).2).2).1) fun y0=>cond (B.lt y0 0) (k false) (again (.l0 v2 (IntKind.wrap .i64 (v3+1))))) (cond (B.eq (p3.getD v3.toNat ty56.dflt).1 3) (ob (c69 p0 p1 p2 (((p3.getD v3.toNat ty56.dflt).2).2).1 (((p3.getD v3.toNat ty56.dflt).2).2).2) fun y0=>cond (B.lt y0.2 0) (k false) (again (.l0 v2 (IntKind.wrap .i64 (v3+1))))) (again (.l0 v2 (IntKind.wrap .i64 (v3+1)))))) none) (ob (c22 p3) fun y0=>k y0)
def E32 (p0:L108) (p1:L73) (p2:L193) (p3:L56):S32→List AV×Objs
 | .l0 v2 v3=>(mk 40 [(1,.c (.list 56 ty56 p3)),(2,.c (.ptr 2 0)),(9,.c (.list 56 ty56 p3)),(10,.c (.int .i64 v2)),(11,.c (.int .i64 v3))],[(2,.box 46 [.list 108 ty108 p0,.list 73 ty73 p1,.list 193 ty193 p2])])
def I32:S32→Nat
 | .l0 _ _=>0
noncomputable abbrev A32 {R:Type} (B:Ops) (c68:C68) (c69:C69) (c22:C22) (p0:L108) (p1:L73) (p2:L193) (p3:L56) (k:AV→Objs→Option R) (s:S32) (n:Nat):Option R:=aloop tau B gl0 X32 (ent 68 (e68 c68) (ent 69 (e69 c69) (ent 22 (e22 c22) gnil))) ow [] Tryd.f32 k (I32 s) (E32 p0 p1 p2 p3 s) n
theorem eq32 {R:Type} (B:Ops) (c68:C68) (c69:C69) (c22:C22) (p0:L108) (p1:L73) (p2:L193) (p3:L56) (k:AV→Objs→Option R) (n:Nat):afun tau B gl0 X32 (ent 68 (e68 c68) (ent 69 (e69 c69) (ent 22 (e22 c22) gnil))) ow Tryd.f32 [.agg [.list 108 ty108 p0,.list 73 ty73 p1,.list 193 ty193 p2],.c (.list 56 ty56 p3)] [] k n=T32 B c68 c69 c22 p0 p1 p2 p3 (fun s=>A32 B c68 c69 c22 p0 p1 p2 p3 k s n) (K2 k) none:=by kernel_rfl
theorem el32 {R:Type} (B:Ops) (c68:C68) (c69:C69) (c22:C22) (p0:L108) (p1:L73) (p2:L193) (p3:L56) (k:AV→Objs→Option R) (n:Nat):∀ s,A32 B c68 c69 c22 p0 p1 p2 p3 k s (n+1)=T32 B c68 c69 c22 p0 p1 p2 p3 (fun s=>A32 B c68 c69 c22 p0 p1 p2 p3 k s n) (K2 k) (some s):=by
 intro s
 cases s<;>kernel_rfl
theorem nt32 {R R':Type} (B:Ops) (c68:C68) (c69:C69) (c22:C22) (p0:L108) (p1:L73) (p2:L193) (p3:L56) (again:S32→Option R) (again':S32→Option R') (k0:(Bool)→Option R') (k:R'→Option R) (h:∀ s,again s=ob (again' s) k):∀ s,T32 B c68 c69 c22 p0 p1 p2 p3 again (fun y=>ob (k0 y) k) s=ob (T32 B c68 c69 c22 p0 p1 p2 p3 again' k0 s) k:=by
 rintro (_ | x)
 all_goals try cases x
 all_goals (unfold T32;repeat' first | exact rfl | exact h _ | apply qac | (apply qam;intro))
def R32 (c68:C68) (c69:C69) (c22:C22) (p0:L108) (p1:L73) (p2:L193) (p3:L56):Nat→S32→Option (Bool)
 | 0,_=>none
 | n+1,s=>T32 Ops.std c68 c69 c22 p0 p1 p2 p3 (R32 c68 c69 c22 p0 p1 p2 p3 n) some (some s)
theorem rr32 {R:Type} (c68:C68) (c69:C69) (c22:C22) (p0:L108) (p1:L73) (p2:L193) (p3:L56) (k:AV→Objs→Option R):∀ (n:Nat) (s:S32),A32 Ops.std c68 c69 c22 p0 p1 p2 p3 k s n=ob (R32 c68 c69 c22 p0 p1 p2 p3 n s) (K2 k)
 | 0,s=>by cases s<;>rfl
 | n+1,s=>by rw [el32];exact nt32 Ops.std c68 c69 c22 p0 p1 p2 p3 _ _ some (K2 k) (rr32 c68 c69 c22 p0 p1 p2 p3 k n) (some s)
def F32 (c68:C68) (c69:C69) (c22:C22) (p0:L108) (p1:L73) (p2:L193) (p3:L56):Option (Bool):=T32 Ops.std c68 c69 c22 p0 p1 p2 p3 (R32 c68 c69 c22 p0 p1 p2 p3 1000000) some none
abbrev C32:Type:=L108→L73→L193→L56→Option (Bool)
def e32 {R:Type} (c:C32):Ent R:=eG [.aG [.cL 108 ty108,.cL 73 ty73,.cL 193 ty193],.aC (.cL 56 ty56)] [] fun v k=>ob (c v.1 v.2.1 v.2.2.1 v.2.2.2.1) (K2 k)
abbrev Sp32 (c:C32):Prop:=∀ (p0:L108) (p1:L73) (p2:L193) (p3:L56) (y:Bool),c p0 p1 p2 p3=some y→Spec Tryd.prog gl0 32 [.agg [.list 108 ty108 p0,.list 73 ty73 p1,.list 193 ty193 p2],.c (.list 56 ty56 p3)] [] (.c (.bool y)) []
theorem ek32 {R:Type} {c:C32} (hs:Sp32 c):EOk 32 (e32 (R:=R) c):=qap fun v=>hs v.1 v.2.1 v.2.2.1 v.2.2.2.1
theorem sf32 {c68:C68} {c69:C69} {c22:C22} (h68:Sp68 c68) (h69:Sp69 c69) (h22:Sp22 c22):Sp32 (F32 c68 c69 c22):=fun p0 p1 p2 p3 y hy=>by
 refine qag (qad (ek68 h68) (qad (ek69 h69) (qad (ek22 h22) qaf))) 1000000 (fn:=Tryd.f32) (by kernel_rfl) (by kernel_rfl) (X:=X32) (by kernel_rfl) ?_
 rw [eq32]
 exact (nt32 Ops.std c68 c69 c22 p0 p1 p2 p3 _ _ some (K2 k0) (rr32 c68 c69 c22 p0 p1 p2 p3 k0 1000000) none).trans (by show ob (F32 c68 c69 c22 p0 p1 p2 p3) _=_;rw [hy];rfl)
noncomputable def M32:C32:=F32 M68 M69 M22
theorem sm32:Sp32 M32:=sf32 sm68 sm69 sm22
def X70:Aux:=⟨[],[]⟩
def T70 {R:Type} (B:Ops) (p0:Int) (k:(Int)→Option R):Option R:=k (bif true then bif B.lt (-99999) (bif false then bif B.lt p0 99999 then 99999 else p0 else bif B.lt 99999 p0 then 99999 else p0) then bif false then bif B.lt p0 99999 then 99999 else p0 else bif B.lt 99999 p0 then 99999 else p0 else -99999 else bif B.lt (bif false then bif B.lt p0 99999 then 99999 else p0 else bif B.lt 99999 p0 then 99999 else p0) (-99999) then bif false then bif B.lt p0 99999 then 99999 else p0 else bif B.lt 99999 p0 then 99999 else p0 else -99999)
theorem eq70 {R:Type} (B:Ops) (p0:Int) (k:AV→Objs→Option R) (n:Nat):afun tau B gl0 X70 gnil ow Tryd.f70 [.c (.int .i64 p0)] [] k n=T70 B p0 (K1 k):=by kernel_rfl
theorem nt70 {R R':Type} (B:Ops) (p0:Int) (k0:(Int)→Option R') (k:R'→Option R):T70 B p0 (fun y=>ob (k0 y) k)=ob (T70 B p0 k0) k:=by
 unfold T70
 repeat' first | exact rfl | apply qac | (apply qam;intro)
def F70 (p0:Int):Option (Int):=T70 Ops.std p0 some
abbrev C70:Type:=Int→Option (Int)
def e70 {R:Type} (c:C70):Ent R:=eG [.aC (.cI .i64)] [] fun v k=>ob (c v.1) (K1 k)
abbrev Sp70 (c:C70):Prop:=∀ (p0 y:Int),c p0=some y→Spec Tryd.prog gl0 70 [.c (.int .i64 p0)] [] (.c (.int .i64 y)) []
theorem ek70 {R:Type} {c:C70} (hs:Sp70 c):EOk 70 (e70 (R:=R) c):=qap fun v=>hs v.1
theorem sf70:Sp70 (F70):=fun p0 y hy=>by
 refine qag qaf 1000000 (fn:=Tryd.f70) (by kernel_rfl) (by kernel_rfl) (X:=X70) (by kernel_rfl) ?_
 rw [eq70]
 exact (nt70 Ops.std p0 some (K1 k0)).trans (by show ob (F70 p0) _=_;rw [hy];rfl)
noncomputable def M70:C70:=F70
theorem sm70:Sp70 M70:=sf70
def X71:Aux:=⟨[],[]⟩
def T71 {R:Type} (B:Ops) (p0:Bool) (k:(Int)→Option R):Option R:=cond (p0) (k 1) (k 0)
theorem eq71 {R:Type} (B:Ops) (p0:Bool) (k:AV→Objs→Option R) (n:Nat):afun tau B gl0 X71 gnil ow Tryd.f71 [.c (.bool p0)] [] k n=T71 B p0 (K1 k):=by kernel_rfl
theorem nt71 {R R':Type} (B:Ops) (p0:Bool) (k0:(Int)→Option R') (k:R'→Option R):T71 B p0 (fun y=>ob (k0 y) k)=ob (T71 B p0 k0) k:=by
 unfold T71
 repeat' first | exact rfl | apply qac | (apply qam;intro)
def F71 (p0:Bool):Option (Int):=T71 Ops.std p0 some
abbrev C71:Type:=Bool→Option (Int)
def e71 {R:Type} (c:C71):Ent R:=eG [.aC .cB] [] fun v k=>ob (c v.1) (K1 k)
abbrev Sp71 (c:C71):Prop:=∀ (p0:Bool) (y:Int),c p0=some y→Spec Tryd.prog gl0 71 [.c (.bool p0)] [] (.c (.int .i64 y)) []
theorem ek71 {R:Type} {c:C71} (hs:Sp71 c):EOk 71 (e71 (R:=R) c):=qap fun v=>hs v.1
theorem sf71:Sp71 (F71):=fun p0 y hy=>by
 refine qag qaf 1000000 (fn:=Tryd.f71) (by kernel_rfl) (by kernel_rfl) (X:=X71) (by kernel_rfl) ?_
 rw [eq71]
 exact (nt71 Ops.std p0 some (K1 k0)).trans (by show ob (F71 p0) _=_;rw [hy];rfl)
noncomputable def M71:C71:=F71
theorem sm71:Sp71 M71:=sf71
def X72:Aux:=⟨[],[]⟩
def T72 {R:Type} (B:Ops) (c70:C70) (c71:C71) (p0 p1 p2:Int) (k:(Int)→Option R):Option R:=cond (B.eq p0 6) (ob (c70 (IntKind.wrap .i64 (p1*p2))) fun y0=>k y0) (cond (B.eq p0 7) (ob (c70 (IntKind.wrap .i64 (p1+p2))) fun y0=>k y0) (cond (B.eq p0 8) (ob (c70 (IntKind.wrap .i64 (p1-p2))) fun y0=>k y0) (cond (B.eq p0 9) (ob (c71 (B.lt p1 p2)) fun y0=>k y0) (cond (B.eq p0 10) (ob (c71 (B.le p1 p2)) fun y0=>k y0) (cond (B.eq p0 11) (ob (c71 (B.lt p2 p1)) fun y0=>k y0) (cond (B.eq p0 12) (ob (c71 (B.le p2 p1)) fun y0=>k y0) (cond (B.eq p0 13) (ob (c71 (B.eq p1 p2)) fun y0=>k y0) (cond (B.eq p0 14) (ob (c71 !B.eq p1 p2) fun y0=>k y0) (cond (B.eq p0 15) (cond (!B.eq p1 0) (ob (c71 !B.eq p2 0) fun y0=>k y0) (ob (c71 false) fun y0=>k y0)) (cond (!B.eq p1 0) (ob (c71 true) fun y0=>k y0) (ob (c71 !B.eq p2 0) fun y0=>k y0)))))))))))
theorem eq72 {R:Type} (B:Ops) (c70:C70) (c71:C71) (p0 p1 p2:Int) (k:AV→Objs→Option R) (n:Nat):afun tau B gl0 X72 (ent 70 (e70 c70) (ent 71 (e71 c71) gnil)) ow Tryd.f72 [.c (.int .i64 p0),.c (.int .i64 p1),.c (.int .i64 p2)] [] k n=T72 B c70 c71 p0 p1 p2 (K1 k):=by kernel_rfl
theorem nt72 {R R':Type} (B:Ops) (c70:C70) (c71:C71) (p0 p1 p2:Int) (k0:(Int)→Option R') (k:R'→Option R):T72 B c70 c71 p0 p1 p2 (fun y=>ob (k0 y) k)=ob (T72 B c70 c71 p0 p1 p2 k0) k:=by
 unfold T72
 repeat' first | exact rfl | apply qac | (apply qam;intro)
def F72 (c70:C70) (c71:C71) (p0 p1 p2:Int):Option (Int):=T72 Ops.std c70 c71 p0 p1 p2 some
abbrev C72:Type:=Int→Int→Int→Option (Int)
def e72 {R:Type} (c:C72):Ent R:=eG [.aC (.cI .i64),.aC (.cI .i64),.aC (.cI .i64)] [] fun v k=>ob (c v.1 v.2.1 v.2.2.1) (K1 k)
abbrev Sp72 (c:C72):Prop:=∀ (p0 p1 p2 y:Int),c p0 p1 p2=some y→Spec Tryd.prog gl0 72 [.c (.int .i64 p0),.c (.int .i64 p1),.c (.int .i64 p2)] [] (.c (.int .i64 y)) []
theorem ek72 {R:Type} {c:C72} (hs:Sp72 c):EOk 72 (e72 (R:=R) c):=qap fun v=>hs v.1 v.2.1 v.2.2.1
theorem sf72 {c70:C70} {c71:C71} (h70:Sp70 c70) (h71:Sp71 c71):Sp72 (F72 c70 c71):=fun p0 p1 p2 y hy=>by
 refine qag (qad (ek70 h70) (qad (ek71 h71) qaf)) 1000000 (fn:=Tryd.f72) (by kernel_rfl) (by kernel_rfl) (X:=X72) (by kernel_rfl) ?_
 rw [eq72]
 exact (nt72 Ops.std c70 c71 p0 p1 p2 some (K1 k0)).trans (by show ob (F72 c70 c71 p0 p1 p2) _=_;rw [hy];rfl)
noncomputable def M72:C72:=F72 M70 M71
theorem sm72:Sp72 M72:=sf72 sm70 sm71
def X33:Aux:=⟨[(5,([0,1,2,5,6]++rg 8 28++rg 39 83))],[(14,.lin (rg 0 10)),(10,.lin (rg 0 13))]⟩
inductive S33 where
 | l0 (v1 v2:Int) (v8:L3)
def T33 {R:Type} (B:Ops) (c32:C32) (c50:C50) (c68:C68) (c70:C70) (c69:C69) (c71:C71) (c72:C72) (p0:L108) (p1:L73) (p2:L193) (p3 p4:L3) (p5:L56) (again:S33→Option R) (k:(Int)→Option R):Option S33→Option R | none=>ob (c32 p0 p1 p2 p5) fun y0=>cond (!y0) (k 0) (cond (!B.eq (↑p3.length) (↑p1.length)) (k 0) (cond (!B.eq (↑p4.length) (↑p0.length)) (k 0) (again (.l0 (↑p5.length) 0 (mt (Ty.den (Ty.int .i64))))))) | some (.l0 v1 v2 v8)=>cond (B.lt v2 v1) (cond (B.inb v2 p5.length) (ob (c50 (p5.getD v2.toNat ty56.dflt).1) fun y0=>cond (B.eq (p5.getD v2.toNat ty56.dflt).1 1) (cond (B.inb (IntKind.wrap .i64 (Nat.cast v8.length-y0)) (List.length v8+1)) (cond (B.lim (List.length (List.take (Int.toNat (IntKind.wrap .i64 (Nat.cast v8.length-y0))) v8)+List.length (((p5.getD v2.toNat ty56.dflt).2).1::mt (Ty.den (Ty.int .i64)))) 8) (again (.l0 v1 (IntKind.wrap .i64 (v2+1)) (List.take (Int.toNat (IntKind.wrap .i64 (Nat.cast v8.length-y0))) v8++((p5.getD v2.toNat ty56.dflt).2).1::mt (Ty.den (Ty.int .i64))))) none) none) (cond (B.eq (p5.getD v2.toNat ty56.dflt).1 2) (ob (c68 p0 p1 p2 (((p5.getD v2.toNat ty56.dflt).2).2).1) fun y1=>cond (B.inb y1 p4.length) (ob (c70 (p4.getD y1.toNat ty3.dflt)) fun y2=>cond (B.inb (IntKind.wrap .i64 (Nat.cast v8.length-y0)) (List.length v8+1)) (cond (B.lim (List.length (List.take (Int.toNat (IntKind.wrap .i64 (Nat.cast v8.length-y0))) v8)+List.length (y2::mt (Ty.den (Ty.int .i64)))) 8) (again (.l0 v1 (IntKind.wrap .i64 (v2+1)) (List.take (Int.toNat (IntKind.wrap .i64 (Nat.cast v8.length-y0))) v8++y2::mt (Ty.den (Ty.int .i64))))) none) none) none) (cond (B.eq (p5.getD v2.toNat ty56.dflt).1 3) (ob (c69 p0 p1 p2 (((p5.getD v2.toNat ty56.dflt).2).2).1 (((p5.getD v2.toNat ty56.dflt).2).2).2) fun y1=>cond (B.inb y1.1 p3.length) (ob (c71 (B.eq (p3.getD (Int.toNat y1.1) ty3.dflt) y1.2)) fun y2=>cond (B.inb (IntKind.wrap .i64 (Nat.cast v8.length-y0)) (List.length v8+1)) (cond (B.lim (List.length (List.take (Int.toNat (IntKind.wrap .i64 (Nat.cast v8.length-y0))) v8)+List.length (y2::mt (Ty.den (Ty.int .i64)))) 8) (again (.l0 v1 (IntKind.wrap .i64 (v2+1)) (List.take (Int.toNat (IntKind.wrap .i64 (Nat.cast v8.length-y0))) v8++y2::mt (Ty.den (Ty.int .i64))))) none) none) none) (cond (B.eq (p5.getD v2.toNat ty56.dflt).1 4) (cond (B.inb (IntKind.wrap .i64 (Nat.cast v8.length-y0)) v8.length) (ob (c71 (B.eq (v8.getD (Int.toNat (IntKind.wrap .i64 (Nat.cast v8.length-y0))) ty3.dflt) 0)) fun y1=>cond (B.inb (IntKind.wrap .i64 (Nat.cast v8.length-y0)) (List.length v8+1)) (cond (B.lim (List.length (List.take (Int.toNat (IntKind.wrap .i64 (Nat.cast v8.length-y0))) v8)+List.length (y1::mt (Ty.den (Ty.int .i64)))) 8) (again (.l0 v1 (IntKind.wrap .i64 (v2+1)) (List.take (Int.toNat (IntKind.wrap .i64 (Nat.cast v8.length-y0))) v8++y1::mt (Ty.den (Ty.int .i64))))) none) none) none) (cond (B.eq (p5.getD v2.toNat ty56.dflt).1 5) (cond (B.inb (IntKind.wrap .i64 (Nat.cast v8.length-y0)) v8.length) (ob (c70 (IntKind.wrap .i64 (0-v8.getD (Int.toNat (IntKind.wrap .i64 (Nat.cast v8.length-y0))) ty3.dflt))) fun y1=>cond (B.inb (IntKind.wrap .i64 (Nat.cast v8.length-y0)) (List.length v8+1)) (cond (B.lim (List.length (List.take (Int.toNat (IntKind.wrap .i64 (Nat.cast v8.length-y0))) v8)+List.length (y1::mt (Ty.den (Ty.int .i64)))) 8) (again (.l0 v1 (IntKind.wrap .i64 (v2+1)) (List.take (Int.toNat (IntKind.wrap .i64 (Nat.cast v8.length-y0))) v8++y1::mt (Ty.den (Ty.int .i64))))) none) none) none) (cond (B.inb (IntKind.wrap .i64 (Nat.cast v8.length-y0)) v8.length) (cond (B.inb (IntKind.wrap .i64 (IntKind.wrap .i64 (Nat.cast v8.length-y0)+1)) v8.length) (ob (c72 (p5.getD v2.toNat ty56.dflt).1 (v8.getD (Int.toNat (IntKind.wrap .i64 (Nat.cast v8.length-y0))) ty3.dflt) (v8.getD (Int.toNat (IntKind.wrap .i64 (IntKind.wrap .i64 (Nat.cast v8.length-y0)+1))) ty3.dflt)) fun y1=>cond (B.inb (IntKind.wrap .i64 (Nat.cast v8.length-y0)) (List.length v8+1)) (cond (B.lim (List.length (List.take (Int.toNat (IntKind.wrap .i64 (Nat.cast v8.length-y0))) v8)+List.length (y1::mt (Ty.den (Ty.int .i64)))) 8) (again (.l0 v1 (IntKind.wrap .i64 (v2+1)) (List.take (Int.toNat (IntKind.wrap .i64 (Nat.cast v8.length-y0))) v8++y1::mt (Ty.den (Ty.int .i64))))) none) none) none) none)))))) none) (cond (B.inb 0 v8.length) (k (v8.getD (Int.toNat 0) ty3.dflt)) none)
def E33 (p0:L108) (p1:L73) (p2:L193) (p3 p4:L3) (p5:L56):S33→List AV×Objs
 | .l0 v1 v2 v8=>(mk 122 [(3,.c (.ptr 3 0)),(4,.c (.ptr 4 0)),(7,.c (.own 7)),(36,.c (.list 56 ty56 p5)),(37,.c (.int .i64 v1)),(38,.c (.int .i64 v2))],[(3,.box 46 [.list 108 ty108 p0,.list 73 ty73 p1,.list 193 ty193 p2]),(4,.box 48 [.list 3 ty3 p3,.list 3 ty3 p4]),(7,.row 3 ty3 v8)])
def I33:S33→Nat
 | .l0 _ _ _=>0
noncomputable abbrev A33 {R:Type} (B:Ops) (c32:C32) (c50:C50) (c68:C68) (c70:C70) (c69:C69) (c71:C71) (c72:C72) (p0:L108) (p1:L73) (p2:L193) (p3 p4:L3) (p5:L56) (k:AV→Objs→Option R) (s:S33) (n:Nat):Option R:=aloop tau B gl0 X33 (ent 32 (e32 c32) (ent 50 (e50 c50) (ent 68 (e68 c68) (ent 70 (e70 c70) (ent 69 (e69 c69) (ent 71 (e71 c71) (ent 72 (e72 c72) gnil))))))) ow [] Tryd.f33 k (I33 s) (E33 p0 p1 p2 p3 p4 p5 s) n
theorem eq33 {R:Type} (B:Ops) (c32:C32) (c50:C50) (c68:C68) (c70:C70) (c69:C69) (c71:C71) (c72:C72) (p0:L108) (p1:L73) (p2:L193) (p3 p4:L3) (p5:L56) (k:AV→Objs→Option R) (n:Nat):afun tau B gl0 X33 (ent 32 (e32 c32) (ent 50 (e50 c50) (ent 68 (e68 c68) (ent 70 (e70 c70) (ent 69 (e69 c69) (ent 71 (e71 c71) (ent 72 (e72 c72) gnil))))))) ow Tryd.f33 [.agg [.list 108 ty108 p0,.list 73 ty73 p1,.list 193 ty193 p2],.agg [.list 3 ty3 p3,.list 3 ty3 p4],.c (.list 56 ty56 p5)] [] k n=T33 B c32 c50 c68 c70 c69 c71 c72 p0 p1 p2 p3 p4 p5 (fun s=>A33 B c32 c50 c68 c70 c69 c71 c72 p0 p1 p2 p3 p4 p5 k s n) (K1 k) none:=by kernel_rfl
theorem el33 {R:Type} (B:Ops) (c32:C32) (c50:C50) (c68:C68) (c70:C70) (c69:C69) (c71:C71) (c72:C72) (p0:L108) (p1:L73) (p2:L193) (p3 p4:L3) (p5:L56) (k:AV→Objs→Option R) (n:Nat):∀ s,A33 B c32 c50 c68 c70 c69 c71 c72 p0 p1 p2 p3 p4 p5 k s (n+1)=T33 B c32 c50 c68 c70 c69 c71 c72 p0 p1 p2 p3 p4 p5 (fun s=>A33 B c32 c50 c68 c70 c69 c71 c72 p0 p1 p2 p3 p4 p5 k s n) (K1 k) (some s):=by
 intro s
 cases s<;>kernel_rfl
theorem nt33 {R R':Type} (B:Ops) (c32:C32) (c50:C50) (c68:C68) (c70:C70) (c69:C69) (c71:C71) (c72:C72) (p0:L108) (p1:L73) (p2:L193) (p3 p4:L3) (p5:L56) (again:S33→Option R) (again':S33→Option R') (k0:(Int)→Option R') (k:R'→Option R) (h:∀ s,again s=ob (again' s) k):∀ s,T33 B c32 c50 c68 c70 c69 c71 c72 p0 p1 p2 p3 p4 p5 again (fun y=>ob (k0 y) k) s=ob (T33 B c32 c50 c68 c70 c69 c71 c72 p0 p1 p2 p3 p4 p5 again' k0 s) k:=by
 rintro (_ | x)
 all_goals try cases x
 all_goals (unfold T33;repeat' first | exact rfl | exact h _ | apply qac | (apply qam;intro))
def R33 (c32:C32) (c50:C50) (c68:C68) (c70:C70) (c69:C69) (c71:C71) (c72:C72) (p0:L108) (p1:L73) (p2:L193) (p3 p4:L3) (p5:L56):Nat→S33→Option (Int)
 | 0,_=>none
 | n+1,s=>T33 Ops.std c32 c50 c68 c70 c69 c71 c72 p0 p1 p2 p3 p4 p5 (R33 c32 c50 c68 c70 c69 c71 c72 p0 p1 p2 p3 p4 p5 n) some (some s)
theorem rr33 {R:Type} (c32:C32) (c50:C50) (c68:C68) (c70:C70) (c69:C69) (c71:C71) (c72:C72) (p0:L108) (p1:L73) (p2:L193) (p3 p4:L3) (p5:L56) (k:AV→Objs→Option R):∀ (n:Nat) (s:S33),A33 Ops.std c32 c50 c68 c70 c69 c71 c72 p0 p1 p2 p3 p4 p5 k s n=ob (R33 c32 c50 c68 c70 c69 c71 c72 p0 p1 p2 p3 p4 p5 n s) (K1 k)
 | 0,s=>by cases s<;>rfl
 | n+1,s=>by rw [el33];exact nt33 Ops.std c32 c50 c68 c70 c69 c71 c72 p0 p1 p2 p3 p4 p5 _ _ some (K1 k) (rr33 c32 c50 c68 c70 c69 c71 c72 p0 p1 p2 p3 p4 p5 k n) (some s)
def F33 (c32:C32) (c50:C50) (c68:C68) (c70:C70) (c69:C69) (c71:C71) (c72:C72) (p0:L108) (p1:L73) (p2:L193) (p3 p4:L3) (p5:L56):Option (Int):=T33 Ops.std c32 c50 c68 c70 c69 c71 c72 p0 p1 p2 p3 p4 p5 (R33 c32 c50 c68 c70 c69 c71 c72 p0 p1 p2 p3 p4 p5 1000000) some none
abbrev C33:Type:=L108→L73→L193→L3→L3→L56→Option (Int)
def e33 {R:Type} (c:C33):Ent R:=eG [.aG [.cL 108 ty108,.cL 73 ty73,.cL 193 ty193],.aG [.cL 3 ty3,.cL 3 ty3],.aC (.cL 56 ty56)] [] fun v k=>ob (c v.1 v.2.1 v.2.2.1 v.2.2.2.1 v.2.2.2.2.1 v.2.2.2.2.2.1) (K1 k)
abbrev Sp33 (c:C33):Prop:=∀ (p0:L108) (p1:L73) (p2:L193) (p3 p4:L3) (p5:L56) (y:Int),c p0 p1 p2 p3 p4 p5=some y→Spec Tryd.prog gl0 33 [.agg [.list 108 ty108 p0,.list 73 ty73 p1,.list 193 ty193 p2],.agg [.list 3 ty3 p3,.list 3 ty3 p4],.c (.list 56 ty56 p5)] [] (.c (.int .i64 y)) []
theorem ek33 {R:Type} {c:C33} (hs:Sp33 c):EOk 33 (e33 (R:=R) c):=qap fun v=>hs v.1 v.2.1 v.2.2.1 v.2.2.2.1 v.2.2.2.2.1 v.2.2.2.2.2.1
theorem sf33 {c32:C32} {c50:C50} {c68:C68} {c70:C70} {c69:C69} {c71:C71} {c72:C72} (h32:Sp32 c32) (h50:Sp50 c50) (h68:Sp68 c68) (h70:Sp70 c70) (h69:Sp69 c69) (h71:Sp71 c71) (h72:Sp72 c72):Sp33 (F33 c32 c50 c68 c70 c69 c71 c72):=fun p0 p1 p2 p3 p4 p5 y hy=>by
 refine qag (qad (ek32 h32) (qad (ek50 h50) (qad (ek68 h68) (qad (ek70 h70) (qad (ek69 h69) (qad (ek71 h71) (qad (ek72 h72) qaf))))))) 1000000 (fn:=Tryd.f33) (by kernel_rfl) (by kernel_rfl) (X:=X33) (by kernel_rfl) ?_
 rw [eq33]
 exact (nt33 Ops.std c32 c50 c68 c70 c69 c71 c72 p0 p1 p2 p3 p4 p5 _ _ some (K1 k0) (rr33 c32 c50 c68 c70 c69 c71 c72 p0 p1 p2 p3 p4 p5 k0 1000000) none).trans (by show ob (F33 c32 c50 c68 c70 c69 c71 c72 p0 p1 p2 p3 p4 p5) _=_;rw [hy];rfl)
noncomputable def M33:C33:=F33 M32 M50 M68 M70 M69 M71 M72
theorem sm33:Sp33 M33:=sf33 sm32 sm50 sm68 sm70 sm69 sm71 sm72
def T59 {R:Type} (B:Ops) (p0:Int) (k:(Bool)→Option R):Option R:=cond (B.le 48 p0) (k (B.le p0 57)) (k false)
def F59 (p0:Int):Option (Bool):=T59 Ops.std p0 some
noncomputable def M59:Int→Option (Bool):=F59
def T60 {R:Type} (B:Ops) (p0:Int) (k:(Bool)→Option R):Option R:=cond (B.le 97 p0) (cond (B.le p0 122) (k true) (k (B.eq p0 95))) (k (B.eq p0 95))
def F60 (p0:Int):Option (Bool):=T60 Ops.std p0 some
noncomputable def M60:Int→Option (Bool):=F60
def T55 {R:Type} (B:Ops) (p0:Int) (k:(Int)→Option R):Option R:=cond (B.le 1 p0) (cond (B.le p0 3) (k 0) (cond (B.eq p0 4) (k 1) (cond (B.eq p0 5) (k 1) (cond (B.le 6 p0) (cond (B.le p0 16) (k 2) (k (-1))) (k (-1)))))) (cond (B.eq p0 4) (k 1) (cond (B.eq p0 5) (k 1) (cond (B.le 6 p0) (cond (B.le p0 16) (k 2) (k (-1))) (k (-1)))))
def F55 (p0:Int):Option (Int):=T55 Ops.std p0 some
noncomputable def M55:Int→Option (Int):=F55
inductive S79 where
 | l0 (v1:Int)
abbrev C60:Type:=Int→Option (Bool)
abbrev C59:Type:=Int→Option (Bool)
def T79 {R:Type} (B:Ops) (c60:C60) (c59:C59) (p0:LB) (again:S79→Option R) (k:(Bool)→Option R):Option S79→Option R | none=>again (.l0 0) | some (.l0 v1)=>cond (B.lt v1 (↑p0.length)) (cond (B.inb v1 p0.length) (ob (c60 (Nat.cast (UInt8.toNat (p0.getD v1.toNat 0)))) fun y0=>cond (!y0) (cond (B.eq v1 0) (k false) (cond (B.inb v1 p0.length) (ob (c59 (Nat.cast (UInt8.toNat (p0.getD v1.toNat 0)))) fun y1=>cond (!y1) (k false) (again (.l0 (IntKind.wrap .i64 (v1+1))))) none)) (again (.l0 (IntKind.wrap .i64 (v1+1))))) none) (cond (B.le 1 (↑p0.length)) (k (B.le (↑p0.length) 8)) (k false))
def R79 (c60:C60) (c59:C59) (p0:LB):Nat→S79→Option (Bool)
 | 0,_=>none
 | n+1,s=>T79 Ops.std c60 c59 p0 (R79 c60 c59 p0 n) some (some s)
def F79 (c60:C60) (c59:C59) (p0:LB):Option (Bool):=T79 Ops.std c60 c59 p0 (R79 c60 c59 p0 10000000000000000000) some none
noncomputable def M79:LB→Option (Bool):=F79 M60 M59
inductive S36 where
 | l0 (v1 v2:Int)
 | l1016 (v1 v2 v3 v4 v5:Int) (v6 v7:LB) (v8 v9:Int) (v10 v11:LB)
 | l1018 (v1 v2 v3:Int)
abbrev C55:Type:=Int→Option (Int)
abbrev C79:Type:=LB→Option (Bool)
def T36 {R:Type} (B:Ops) (c55:C55) (c79:C79) (p0:L56) (again:S36→Option R) (k:(Bool)→Option R):Option S36→Option R | none=>again (.l0 0 0) | some (.l0 v1 v2)=>cond (B.lt v2 (↑p0.length)) (cond (B.inb v2 p0.length) (ob (c55 (p0.getD v2.toNat ty56.dflt).1) fun y0=>cond (B.eq (p0.getD v2.toNat ty56.dflt).1 1) (again (.l1016 v1 v2 y0 (p0.getD v2.toNat ty56.dflt).1 ((p0.getD v2.toNat ty56.dflt).2).1 (((p0.getD v2.toNat ty56.dflt).2).2).1 (((p0.getD v2.toNat ty56.dflt).2).2).2 (p0.getD v2.toNat ty56.dflt).1 ((p0.getD v2.toNat ty56.dflt).2).1 (mt UInt8) (mt UInt8))) (cond (B.eq (p0.getD v2.toNat ty56.dflt).1 2) (again (.l1016 v1 v2 y0 (p0.getD v2.toNat ty56.dflt).1 ((p0.getD v2.toNat ty56.dflt).2).1 (((p0.getD v2.toNat ty56.dflt).2).2).1 (((p0.getD v2.toNat ty56.dflt).2).2).2 (p0.getD v2.toNat ty56.dflt).1 0 (((p0.getD v2.toNat ty56.dflt).2).2).1 (mt UInt8))) (cond (B.eq (p0.getD v2.toNat ty56.dflt).1 3) (again (.l1016 v1 v2 y0 (p0.getD v2.toNat ty56.dflt).1 ((p0.getD v2.toNat ty56.dflt).2).1 (((p0.getD v2.toNat ty56.dflt).2).2).1 (((p0.getD v2.toNat ty56.dflt).2).2).2 (p0.getD v2.toNat ty56.dflt).1 0 (((p0.getD v2.toNat ty56.dflt).2).2).1 (((p0.getD v2.toNat ty56.dflt).2).2).2)) (again (.l1016 v1 v2 y0 (p0.getD v2.toNat ty56.dflt).1 ((p0.getD v2.toNat ty56.dflt).2).1 (((p0.getD v2.toNat ty56.dflt).2).2).1 (((p0.getD v2.toNat ty56.dflt).2).2).2 (p0.getD v2.toNat ty56.dflt).1 0 (mt UInt8) (mt UInt8)))))) none) (cond (B.eq v1 1) (k (B.le (↑p0.length) 30)) (k false)) | some (.l1016 v1 v2 v3 v4 v5 v6 v7 v8 v9 v10 v11)=>cond (B.lt v3 0) (k false) (cond (B.lt v1 v3) (k false) (cond (!(B.eq v4 v8 && (B.eq v5 v9 && (v6 == v10 && (v7 == v11 && true))))) (k false) (cond (B.lt v5 0) (k false) (cond (B.lt 999 v5) (k false) (cond (B.eq v4 2) (ob (c79 v6) fun y0=>cond (!y0) (k false) (cond (B.eq v4 3) (ob (c79 v7) fun y1=>cond (!y1) (k false) (again (.l1018 v1 v2 v3))) (again (.l1018 v1 v2 v3)))) (cond (B.eq v4 3) (ob (c79 v6) fun y0=>cond (!y0) (k false) (cond (B.eq v4 3) (ob (c79 v7) fun y1=>cond (!y1) (k false) (again (.l1018 v1 v2 v3))) (again (.l1018 v1 v2 v3)))) (cond (B.eq v4 3) (ob (c79 v7) fun y0=>cond (!y0) (k false) (again (.l1018 v1 v2 v3))) (again (.l1018 v1 v2 v3))))))))) | some (.l1018 v1 v2 v3)=>again (.l0 (IntKind.wrap .i64 (IntKind.wrap .i64 (v1-v3)+1)) (IntKind.wrap .i64 (v2+1)))
def R36 (c55:C55) (c79:C79) (p0:L56):Nat→S36→Option (Bool)
 | 0,_=>none
 | n+1,s=>T36 Ops.std c55 c79 p0 (R36 c55 c79 p0 n) some (some s)
def F36 (c55:C55) (c79:C79) (p0:L56):Option (Bool):=T36 Ops.std c55 c79 p0 (R36 c55 c79 p0 1000000) some none
noncomputable def M36:L56→Option (Bool):=F36 M55 M79
inductive S74 where
 | l0 (v1:Int)
def T74 {R:Type} (B:Ops) (p0:L108) (p1:L73) (p2:L193) (p3:LB) (again:S74→Option R) (k:(Int)→Option R):Option S74→Option R | none=>again (.l0 0) | some (.l0 v1)=>cond (B.lt v1 (↑p0.length)) (cond (B.inb v1 p0.length) (cond ((p0.getD v1.toNat ty108.dflt).1 == p3) (k v1) (again (.l0 (IntKind.wrap .i64 (v1+1))))) none) (k (-1))
def R74 (p0:L108) (p1:L73) (p2:L193) (p3:LB):Nat→S74→Option (Int)
 | 0,_=>none
 | n+1,s=>T74 Ops.std p0 p1 p2 p3 (R74 p0 p1 p2 p3 n) some (some s)
def F74 (p0:L108) (p1:L73) (p2:L193) (p3:LB):Option (Int):=T74 Ops.std p0 p1 p2 p3 (R74 p0 p1 p2 p3 1000000) some none
noncomputable def M74:L108→L73→L193→LB→Option (Int):=F74
inductive S75 where
 | l0 (v1:Int)
def T75 {R:Type} (B:Ops) (p0:L108) (p1:L73) (p2:L193) (p3:LB) (again:S75→Option R) (k:(Int)→Option R):Option S75→Option R | none=>again (.l0 0) | some (.l0 v1)=>cond (B.lt v1 (↑p1.length)) (cond (B.inb v1 p1.length) (cond ((p1.getD v1.toNat ty73.dflt).1 == p3) (k v1) (again (.l0 (IntKind.wrap .i64 (v1+1))))) none) (k (-1))
def R75 (p0:L108) (p1:L73) (p2:L193) (p3:LB):Nat→S75→Option (Int)
 | 0,_=>none
 | n+1,s=>T75 Ops.std p0 p1 p2 p3 (R75 p0 p1 p2 p3 n) some (some s)
def F75 (p0:L108) (p1:L73) (p2:L193) (p3:LB):Option (Int):=T75 Ops.std p0 p1 p2 p3 (R75 p0 p1 p2 p3 1000000) some none
noncomputable def M75:L108→L73→L193→LB→Option (Int):=F75
inductive S77 where
 | l0 (v2:Int)
def T77 {R:Type} (B:Ops) (p0:L108) (p1:L73) (p2:L193) (p3:Int) (p4:LB) (again:S77→Option R) (k:(Int)→Option R):Option S77→Option R | none=>cond (B.lt p3 0) (k (-1)) (again (.l0 0)) | some (.l0 v2)=>cond (B.inb p3 p1.length) (cond (B.lt v2 (Nat.cast (List.length (p1.getD p3.toNat ty73.dflt).2))) (cond (B.inb p3 p1.length) (cond (B.inb v2 (List.length (p1.getD p3.toNat ty73.dflt).2)) (cond (List.getD (p1.getD p3.toNat ty73.dflt).2 v2.toNat (Ty.dflt Ty.str) == p4) (k v2) (again (.l0 (IntKind.wrap .i64 (v2+1))))) none) none) (k (-1))) none
def R77 (p0:L108) (p1:L73) (p2:L193) (p3:Int) (p4:LB):Nat→S77→Option (Int)
 | 0,_=>none
 | n+1,s=>T77 Ops.std p0 p1 p2 p3 p4 (R77 p0 p1 p2 p3 p4 n) some (some s)
def F77 (p0:L108) (p1:L73) (p2:L193) (p3:Int) (p4:LB):Option (Int):=T77 Ops.std p0 p1 p2 p3 p4 (R77 p0 p1 p2 p3 p4 1000000) some none
noncomputable def M77:L108→L73→L193→Int→LB→Option (Int):=F77
inductive S37 where
 | l0 (v1:Int)
abbrev C74:Type:=L108→L73→L193→LB→Option (Int)
abbrev C75:Type:=L108→L73→L193→LB→Option (Int)
abbrev C77:Type:=L108→L73→L193→Int→LB→Option (Int)
abbrev C36:Type:=L56→Option (Bool)
def T37 {R:Type} (B:Ops) (c74:C74) (c75:C75) (c77:C77) (c36:C36) (p0:L108) (p1:L73) (p2:L193) (p3:L56) (again:S37→Option R) (k:(Bool)→Option R):Option S37→Option R | none=>again (.l0 0) | some (.l0 v1)=>cond (B.lt v1 (↑p3.length)) (cond (B.inb v1 p3.length) (cond (B.eq (p3.getD v1.toNat ty56.dflt).1 2) (cond (B.inb v1 p3.length) (ob (c74 p0 p1 p2 (((p3.getD v1.toNat ty56.dflt).2).2).1) fun y0=>cond (B.lt y0 0) (k false) (cond (B.inb v1 p3.length) (cond (B.eq (p3.getD v1.toNat ty56.dflt).1 3) (cond (B.inb v1 p3.length) (cond (B.inb v1 p3.length) (ob (c75 p0 p1 p2 (((p3.getD v1.toNat ty56.dflt).2).2).1) fun y1=>ob (c77 p0 p1 p2 y1 (((p3.getD v1.toNat ty56.dflt).2).2).2) fun y2=>cond (B.lt y2 0) (k false) (again (.l0 (IntKind.wrap .i64 (v1+1))))) none) none) (again (.l0 (IntKind.wrap .i64 (v1+1))))) none)) none) (cond (B.inb v1 p3.length) (cond (B.eq (p3.getD v1.toNat ty56.dflt).1 3) (cond (B.inb v1 p3.length) (cond (B.inb v1 p3.length) (ob (c75 p0 p1 p2 (((p3.getD v1.toNat ty56.dflt).2).2).1) fun y0=>ob (c77 p0 p1 p2 y0 (((p3.getD v1.toNat ty56.dflt).2).2).2) fun y1=>cond (B.lt y1 0) (k false) (again (.l0 (IntKind.wrap .i64 (v1+1))))) none) none) (again (.l0 (IntKind.wrap .i64 (v1+1))))) none)) none) (ob (c36 p3) fun y0=>k y0)
def R37 (c74:C74) (c75:C75) (c77:C77) (c36:C36) (p0:L108) (p1:L73) (p2:L193) (p3:L56):Nat→S37→Option (Bool)
 | 0,_=>none
 | n+1,s=>T37 Ops.std c74 c75 c77 c36 p0 p1 p2 p3 (R37 c74 c75 c77 c36 p0 p1 p2 p3 n) some (some s)
def F37 (c74:C74) (c75:C75) (c77:C77) (c36:C36) (p0:L108) (p1:L73) (p2:L193) (p3:L56):Option (Bool):=T37 Ops.std c74 c75 c77 c36 p0 p1 p2 p3 (R37 c74 c75 c77 c36 p0 p1 p2 p3 1000000) some none
noncomputable def M37:L108→L73→L193→L56→Option (Bool):=F37 M74 M75 M77 M36
def T73 {R:Type} (B:Ops) (p0:Int) (k:(Int)→Option R):Option R:=k (bif true then bif B.lt (-99999) (bif false then bif B.lt 99999 p0 then p0 else 99999 else bif B.lt p0 99999 then p0 else 99999) then bif false then bif B.lt 99999 p0 then p0 else 99999 else bif B.lt p0 99999 then p0 else 99999 else -99999 else bif B.lt (bif false then bif B.lt 99999 p0 then p0 else 99999 else bif B.lt p0 99999 then p0 else 99999) (-99999) then bif false then bif B.lt 99999 p0 then p0 else 99999 else bif B.lt p0 99999 then p0 else 99999 else -99999)
def F73 (p0:Int):Option (Int):=T73 Ops.std p0 some
noncomputable def M73:Int→Option (Int):=F73
def T76 {R:Type} (B:Ops) (p0:Bool) (k:(Int)→Option R):Option R:=cond (p0) (k 1) (k 0)
def F76 (p0:Bool):Option (Int):=T76 Ops.std p0 some
noncomputable def M76:Bool→Option (Int):=F76
abbrev C73:Type:=Int→Option (Int)
abbrev C76:Type:=Bool→Option (Int)
def T78 {R:Type} (B:Ops) (c73:C73) (c76:C76) (p0 p1 p2:Int) (k:(Int)→Option R):Option R:=cond (B.eq p0 6) (ob (c73 (IntKind.wrap .i64 (p1*p2))) fun y0=>k y0) (cond (B.eq p0 7) (ob (c73 (IntKind.wrap .i64 (p1+p2))) fun y0=>k y0) (cond (B.eq p0 8) (ob (c73 (IntKind.wrap .i64 (p1-p2))) fun y0=>k y0) (cond (B.eq p0 9) (ob (c76 (B.lt p1 p2)) fun y0=>k y0) (cond (B.eq p0 10) (ob (c76 (B.le p1 p2)) fun y0=>k y0) (cond (B.eq p0 11) (ob (c76 (B.lt p2 p1)) fun y0=>k y0) (cond (B.eq p0 12) (ob (c76 (B.le p2 p1)) fun y0=>k y0) (cond (B.eq p0 13) (ob (c76 (B.eq p1 p2)) fun y0=>k y0) (cond (B.eq p0 14) (ob (c76 !B.eq p1 p2) fun y0=>k y0) (cond (B.eq p0 15) (cond (!B.eq p1 0) (ob (c76 !B.eq p2 0) fun y0=>k y0) (ob (c76 false) fun y0=>k y0)) (cond (!B.eq p1 0) (ob (c76 true) fun y0=>k y0) (ob (c76 !B.eq p2 0) fun y0=>k y0)))))))))))
def F78 (c73:C73) (c76:C76) (p0 p1 p2:Int):Option (Int):=T78 Ops.std c73 c76 p0 p1 p2 some
noncomputable def M78:Int→Int→Int→Option (Int):=F78 M73 M76
inductive S34 where
 | l0 (v1:Int) (v7:L3)
abbrev C37:Type:=L108→L73→L193→L56→Option (Bool)
abbrev C78:Type:=Int→Int→Int→Option (Int)
def T34 {R:Type} (B:Ops) (c37:C37) (c74:C74) (c73:C73) (c75:C75) (c77:C77) (c76:C76) (c78:C78) (p0:L108) (p1:L73) (p2:L193) (p3 p4:L3) (p5:L56) (again:S34→Option R) (k:(Int)→Option R):Option S34→Option R | none=>ob (c37 p0 p1 p2 p5) fun y0=>cond (!y0) (k 0) (cond (!B.eq (↑p3.length) (↑p1.length)) (k 0) (cond (!B.eq (↑p4.length) (↑p0.length)) (k 0) (again (.l0 0 (mt (Ty.den (Ty.int .i64))))))) | some (.l0 v1 v7)=>cond (B.lt v1 (↑p5.length)) (cond (B.inb v1 p5.length) (cond (B.eq (p5.getD v1.toNat ty56.dflt).1 1) (cond (B.lim (List.length v7+List.length (((p5.getD v1.toNat ty56.dflt).2).1::mt (Ty.den (Ty.int .i64)))) 8) (again (.l0 (IntKind.wrap .i64 (v1+1)) (v7++((p5.getD v1.toNat ty56.dflt).2).1::mt (Ty.den (Ty.int .i64))))) none) (cond (B.eq (p5.getD v1.toNat ty56.dflt).1 2) (ob (c74 p0 p1 p2 (((p5.getD v1.toNat ty56.dflt).2).2).1) fun y0=>cond (B.inb y0 p4.length) (ob (c73 (p4.getD y0.toNat ty3.dflt)) fun y1=>cond (B.lim (List.length v7+List.length (y1::mt (Ty.den (Ty.int .i64)))) 8) (again (.l0 (IntKind.wrap .i64 (v1+1)) (v7++y1::mt (Ty.den (Ty.int .i64))))) none) none) (cond (B.eq (p5.getD v1.toNat ty56.dflt).1 3) (ob (c75 p0 p1 p2 (((p5.getD v1.toNat ty56.dflt).2).2).1) fun y0=>cond (B.inb y0 p3.length) (ob (c77 p0 p1 p2 y0 (((p5.getD v1.toNat ty56.dflt).2).2).2) fun y1=>ob (c76 (B.eq (p3.getD y0.toNat ty3.dflt) y1)) fun y2=>cond (B.lim (List.length v7+List.length (y2::mt (Ty.den (Ty.int .i64)))) 8) (again (.l0 (IntKind.wrap .i64 (v1+1)) (v7++y2::mt (Ty.den (Ty.int .i64))))) none) none) (cond (B.eq (p5.getD v1.toNat ty56.dflt).1 4) (cond (B.lt (↑v7.length) 1) (k 0) (cond (B.eq (IntKind.wrap .i64 (Nat.cast v7.length-1)) (IntKind.wrap .i64 (Nat.cast v7.length-1))) (cond (B.inb (IntKind.wrap .i64 (Nat.cast v7.length-1)) (List.length v7+1)) (cond (B.inb (IntKind.wrap .i64 (Nat.cast v7.length-1)) v7.length) (ob (c76 (B.eq (v7.getD (Int.toNat (IntKind.wrap .i64 (Nat.cast v7.length-1))) ty3.dflt) 0)) fun y0=>cond (B.lt 0 (Nat.cast (List.length (y0::mt (Ty.den (Ty.int .i64)))))) (cond (B.lim (List.length (List.take (Int.toNat (IntKind.wrap .i64 (Nat.cast v7.length-1))) v7)+List.length (y0::mt (Ty.den (Ty.int .i64)))) 8) (again (.l0 (IntKind.wrap .i64 (v1+1)) (List.take (Int.toNat (IntKind.wrap .i64 (Nat.cast v7.length-1))) v7++y0::mt (Ty.den (Ty.int .i64))))) none) none) none) none) none)) (cond (B.eq (p5.getD v1.toNat ty56.dflt).1 5) (cond (B.lt (↑v7.length) 1) (k 0) (cond (B.eq (IntKind.wrap .i64 (Nat.cast v7.length-1)) (IntKind.wrap .i64 (Nat.cast v7.length-1))) (cond (B.inb (IntKind.wrap .i64 (Nat.cast v7.length-1)) (List.length v7+1)) (cond (B.inb (IntKind.wrap .i64 (Nat.cast v7.length-1)) v7.length) (ob (c73 (IntKind.wrap .i64 (0-v7.getD (Int.toNat (IntKind.wrap .i64 (Nat.cast v7.length-1))) ty3.dflt))) fun y0=>cond (B.lt 0 (Nat.cast (List.length (y0::mt (Ty.den (Ty.int .i64)))))) (cond (B.lim (List.length (List.take (Int.toNat (IntKind.wrap .i64 (Nat.cast v7.length-1))) v7)+List.length (y0::mt (Ty.den (Ty.int .i64)))) 8) (again (.l0 (IntKind.wrap .i64 (v1+1)) (List.take (Int.toNat (IntKind.wrap .i64 (Nat.cast v7.length-1))) v7++y0::mt (Ty.den (Ty.int .i64))))) none) none) none) none) none)) (cond (B.lt (↑v7.length) 2) (k 0) (cond (B.eq (IntKind.wrap .i64 (Nat.cast v7.length-2)) (IntKind.wrap .i64 (Nat.cast v7.length-2))) (cond (B.inb (IntKind.wrap .i64 (Nat.cast v7.length-2)) (List.length v7+1)) (cond (B.inb (IntKind.wrap .i64 (Nat.cast v7.length-2)) v7.length) (cond (B.inb (IntKind.wrap .i64 (Nat.cast v7.length-1)) v7.length) (ob (c78 (p5.getD v1.toNat ty56.dflt).1 (v7.getD (Int.toNat (IntKind.wrap .i64 (Nat.cast v7.length-2))) ty3.dflt) (v7.getD (Int.toNat (IntKind.wrap .i64 (Nat.cast v7.length-1))) ty3.dflt)) fun y0=>cond (B.lt 0 (Nat.cast (List.length (y0::mt (Ty.den (Ty.int .i64)))))) (cond (B.lim (List.length (List.take (Int.toNat (IntKind.wrap .i64 (Nat.cast v7.length-2))) v7)+List.length (y0::mt (Ty.den (Ty.int .i64)))) 8) (again (.l0 (IntKind.wrap .i64 (v1+1)) (List.take (Int.toNat (IntKind.wrap .i64 (Nat.cast v7.length-2))) v7++y0::mt (Ty.den (Ty.int .i64))))) none) none) none) none) none) none))))))) none) (cond (B.eq (↑v7.length) 0) (k 0) (cond (B.inb 0 v7.length) (k (v7.getD (Int.toNat 0) ty3.dflt)) none))
def R34 (c37:C37) (c74:C74) (c73:C73) (c75:C75) (c77:C77) (c76:C76) (c78:C78) (p0:L108) (p1:L73) (p2:L193) (p3 p4:L3) (p5:L56):Nat→S34→Option (Int)
 | 0,_=>none
 | n+1,s=>T34 Ops.std c37 c74 c73 c75 c77 c76 c78 p0 p1 p2 p3 p4 p5 (R34 c37 c74 c73 c75 c77 c76 c78 p0 p1 p2 p3 p4 p5 n) some (some s)
def F34 (c37:C37) (c74:C74) (c73:C73) (c75:C75) (c77:C77) (c76:C76) (c78:C78) (p0:L108) (p1:L73) (p2:L193) (p3 p4:L3) (p5:L56):Option (Int):=T34 Ops.std c37 c74 c73 c75 c77 c76 c78 p0 p1 p2 p3 p4 p5 (R34 c37 c74 c73 c75 c77 c76 c78 p0 p1 p2 p3 p4 p5 1000000) some none
noncomputable def M34:L108→L73→L193→L3→L3→L56→Option (Int):=F34 M37 M74 M73 M75 M77 M76 M78
def X90:Aux:=⟨[],[(4,.lin (rg 0 31))]⟩
def T90 {R:Type} (B:Ops) (c24:C24) (p0:Int) (p1:L3) (p2:Int) (k:(Int×L3×Int)→Option R):Option R:=cond (B.eq (↑p1.length) 0) (k (0,p1,p2)) (cond (B.eq (↑p1.length) 0) none (cond (B.inb (Int.tmod (IntKind.wrap .i64 (p2+1)) (↑p1.length)) p1.length) (cond (B.eq (↑p1.length) 0) none (cond (B.eq (IntKind.wrap .i64 (1+IntKind.wrap .i64 (Int.tdiv (IntKind.wrap .i64 (p2+1)) (↑p1.length)))) 0) none (ob (c24 (IntKind.wrap .i64 (Int.tdiv (p1.getD (Int.toNat (Int.tmod (IntKind.wrap .i64 (p2+1)) (↑p1.length))) ty3.dflt) (IntKind.wrap .i64 (1+IntKind.wrap .i64 (Int.tdiv (IntKind.wrap .i64 (p2+1)) (↑p1.length)))))) p0) fun y0=>k ((y0,p1,IntKind.wrap .i64 (p2+1)))))) none))
abbrev K18 {R:Type} (k:AV→Objs→Option R) (y:(Int×L3×Int)):Option R:=k (.c (.int .i64 y.1)) [(0,.box 82 [.list 3 ty3 y.2.1,.int .i64 y.2.2])]
theorem eq90 {R:Type} (B:Ops) (c24:C24) (p0:Int) (p1:L3) (p2:Int) (k:AV→Objs→Option R) (n:Nat):afun tau B gl0 X90 (ent 24 (e24 c24) gnil) ow Tryd.f90 [.c (.ptr 0 0),.c (.int .i64 p0)] [(0,.box 82 [.list 3 ty3 p1,.int .i64 p2])] k n=T90 B c24 p0 p1 p2 (K18 k):=by kernel_rfl
theorem nt90 {R R':Type} (B:Ops) (c24:C24) (p0:Int) (p1:L3) (p2:Int) (k0:(Int×L3×Int)→Option R') (k:R'→Option R):T90 B c24 p0 p1 p2 (fun y=>ob (k0 y) k)=ob (T90 B c24 p0 p1 p2 k0) k:=by
 unfold T90
 repeat' first | exact rfl | apply qac | (apply qam;intro)
def F90 (c24:C24) (p0:Int) (p1:L3) (p2:Int):Option (Int×L3×Int):=T90 Ops.std c24 p0 p1 p2 some
abbrev C90:Type:=Int→L3→Int→Option (Int×L3×Int)
def e90 {R:Type} (c:C90):Ent R:=eG [.aC (.cP 0),.aC (.cI .i64)] [.oB 0 82 [.cL 3 ty3,.cI .i64]] fun v k=>ob (c v.1 v.2.1 v.2.2.1) (K18 k)
abbrev Sp90 (c:C90):Prop:=∀ (p0:Int) (p1:L3) (p2:Int) (y:Int×L3×Int),c p0 p1 p2=some y→Spec Tryd.prog gl0 90 [.c (.ptr 0 0),.c (.int .i64 p0)] [(0,.box 82 [.list 3 ty3 p1,.int .i64 p2])] (.c (.int .i64 y.1)) [(0,.box 82 [.list 3 ty3 y.2.1,.int .i64 y.2.2])]
theorem ek90 {R:Type} {c:C90} (hs:Sp90 c):EOk 90 (e90 (R:=R) c):=qap fun v=>hs v.1 v.2.1 v.2.2.1
theorem sf90 {c24:C24} (h24:Sp24 c24):Sp90 (F90 c24):=fun p0 p1 p2 y hy=>by
 refine qag (qad (ek24 h24) qaf) 1000000 (fn:=Tryd.f90) (by kernel_rfl) (by kernel_rfl) (X:=X90) (by kernel_rfl) ?_
 rw [eq90]
 exact (nt90 Ops.std c24 p0 p1 p2 some (K18 k0)).trans (by show ob (F90 c24 p0 p1 p2) _=_;rw [hy];rfl)
noncomputable def M90:C90:=F90 M24
theorem sm90:Sp90 M90:=sf90 sm24
abbrev K19 {R:Type} (k:AV→Objs→Option R) (y:(LB×L3×Int)):Option R:=k (.c (.str y.1)) [(0,.box 82 [.list 3 ty3 y.2.1,.int .i64 y.2.2])]
abbrev C49:Type:=Int→L3→Int→Option (LB×L3×Int)
def e49 {R:Type} (c:C49):Ent R:=eG [.aC (.cP 0),.aC (.cI .i64)] [.oB 0 82 [.cL 3 ty3,.cI .i64]] fun v k=>ob (c v.1 v.2.1 v.2.2.1) (K19 k)
abbrev Sp49 (c:C49):Prop:=∀ (p0:Int) (p1:L3) (p2:Int) (y:LB×L3×Int),c p0 p1 p2=some y→Spec Tryd.prog gl0 49 [.c (.ptr 0 0),.c (.int .i64 p0)] [(0,.box 82 [.list 3 ty3 p1,.int .i64 p2])] (.c (.str y.1)) [(0,.box 82 [.list 3 ty3 y.2.1,.int .i64 y.2.2])]
theorem ek49 {R:Type} {c:C49} (hs:Sp49 c):EOk 49 (e49 (R:=R) c):=qap fun v=>hs v.1 v.2.1 v.2.2.1
def X49:Aux:=⟨[(1000004,([2,3,4]++rg 6 111))],[(24,.lin ([0,5,1,2,3,4,6,7,8,9,10]))]⟩
inductive S49 where
 | l1004 (v1:Int) (v2:L3) (v3:Int)
def T49 {R:Type} (B:Ops) (c90:C90) (c49:C49) (p0:Int) (p1:L3) (p2:Int) (again:S49→Option R) (k:(LB×L3×Int)→Option R):Option S49→Option R | none=>ob (c90 20 p1 p2) fun y0=>cond (B.lt 3 p0) (cond (B.eq 6 0) none (again (.l1004 (IntKind.wrap .i64 (14+Int.tmod y0.1 6)) y0.2.1 y0.2.2))) (cond (B.lt 14 y0.2.2) (cond (B.eq 6 0) none (again (.l1004 (IntKind.wrap .i64 (14+Int.tmod y0.1 6)) y0.2.1 y0.2.2))) (again (.l1004 y0.1 y0.2.1 y0.2.2))) | some (.l1004 v1 v2 v3)=>cond (B.lt v1 10) (ob (c49 (IntKind.wrap .i64 (p0+1)) v2 v3) fun y0=>ob (c49 (IntKind.wrap .i64 (p0+1)) y0.2.1 y0.2.2) fun y1=>ob (c90 11 y1.2.1 y1.2.2) fun y2=>cond (B.inb y2.1 11) (ob (c90 2 y2.2.1 y2.2.2) fun y3=>cond (B.eq y3.1 0) (cond (B.lim (1+List.length y0.1) 1) (cond (B.lim (List.length (([40]:LB)++y0.1)+1) 1) (cond (B.lim (List.length (([40]:LB)++y0.1++([41]:LB))+List.length (List.getD (([43]:LB)::([45]:LB)::([42]:LB)::([60]:LB)::([60,61]:LB)::([61,61]:LB)::([33,61]:LB)::([38,38]:LB)::([124,124]:LB)::([62]:LB)::([62,61]:LB)::mt LB) (Int.toNat y2.1) (mt UInt8))) 1) (cond (B.lim (List.length (([40]:LB)++y0.1++([41]:LB)++List.getD (([43]:LB)::([45]:LB)::([42]:LB)::([60]:LB)::([60,61]:LB)::([61,61]:LB)::([33,61]:LB)::([38,38]:LB)::([124,124]:LB)::([62]:LB)::([62,61]:LB)::mt LB) (Int.toNat y2.1) (mt UInt8))+1) 1) (cond (B.lim (List.length (([40]:LB)++y0.1++([41]:LB)++List.getD (([43]:LB)::([45]:LB)::([42]:LB)::([60]:LB)::([60,61]:LB)::([61,61]:LB)::([33,61]:LB)::([38,38]:LB)::([124,124]:LB)::([62]:LB)::([62,61]:LB)::mt LB) (Int.toNat y2.1) (mt UInt8)++([40]:LB))+List.length y1.1) 1) (cond (B.lim (List.length (([40]:LB)++y0.1++([41]:LB)++List.getD (([43]:LB)::([45]:LB)::([42]:LB)::([60]:LB)::([60,61]:LB)::([61,61]:LB)::([33,61]:LB)::([38,38]:LB)::([124,124]:LB)::([62]:LB)::([62,61]:LB)::mt LB) (Int.toNat y2.1) (mt UInt8)++([40]:LB)++y1.1)+1) 1) (k ((([40]:LB)++y0.1++([41]:LB)++List.getD (([43]:LB)::([45]:LB)::([42]:LB)::([60]:LB)::([60,61]:LB)::([61,61]:LB)::([33,61]:LB)::([38,38]:LB)::([124,124]:LB)::([62]:LB)::([62,61]:LB)::mt LB) (Int.toNat y2.1) (mt UInt8)++([40]:LB)++y1.1++([41]:LB),y3.2.1,y3.2.2))) none) none) none) none) none) none) (cond (B.lim (1+List.length y0.1) 1) (cond (B.lim (List.length (([40]:LB)++y0.1)+1) 1) (cond (B.lim (List.length (([40]:LB)++y0.1++([32]:LB))+List.length (List.getD (([43]:LB)::([45]:LB)::([42]:LB)::([60]:LB)::([60,61]:LB)::([61,61]:LB)::([33,61]:LB)::([38,38]:LB)::([124,124]:LB)::([62]:LB)::([62,61]:LB)::mt LB) (Int.toNat y2.1) (mt UInt8))) 1) (cond (B.lim (List.length (([40]:LB)++y0.1++([32]:LB)++List.getD (([43]:LB)::([45]:LB)::([42]:LB)::([60]:LB)::([60,61]:LB)::([61,61]:LB)::([33,61]:LB)::([38,38]:LB)::([124,124]:LB)::([62]:LB)::([62,61]:LB)::mt LB) (Int.toNat y2.1) (mt UInt8))+1) 1) (cond (B.lim (List.length (([40]:LB)++y0.1++([32]:LB)++List.getD (([43]:LB)::([45]:LB)::([42]:LB)::([60]:LB)::([60,61]:LB)::([61,61]:LB)::([33,61]:LB)::([38,38]:LB)::([124,124]:LB)::([62]:LB)::([62,61]:LB)::mt LB) (Int.toNat y2.1) (mt UInt8)++([32]:LB))+List.length y1.1) 1) (cond (B.lim (List.length (([40]:LB)++y0.1++([32]:LB)++List.getD (([43]:LB)::([45]:LB)::([42]:LB)::([60]:LB)::([60,61]:LB)::([61,61]:LB)::([33,61]:LB)::([38,38]:LB)::([124,124]:LB)::([62]:LB)::([62,61]:LB)::mt LB) (Int.toNat y2.1) (mt UInt8)++([32]:LB)++y1.1)+1) 1) (k ((([40]:LB)++y0.1++([32]:LB)++List.getD (([43]:LB)::([45]:LB)::([42]:LB)::([60]:LB)::([60,61]:LB)::([61,61]:LB)::([33,61]:LB)::([38,38]:LB)::([124,124]:LB)::([62]:LB)::([62,61]:LB)::mt LB) (Int.toNat y2.1) (mt UInt8)++([32]:LB)++y1.1++([41]:LB),y3.2.1,y3.2.2))) none) none) none) none) none) none)) none) (cond (B.eq v1 10) (ob (c49 (IntKind.wrap .i64 (p0+1)) v2 v3) fun y0=>cond (B.lim (2+List.length y0.1) 1) (cond (B.lim (List.length (([33,40]:LB)++y0.1)+1) 1) (k ((([33,40]:LB)++y0.1++([41]:LB),y0.2.1,y0.2.2))) none) none) (cond (B.eq v1 11) (ob (c49 (IntKind.wrap .i64 (p0+1)) v2 v3) fun y0=>cond (B.lim (2+List.length y0.1) 1) (cond (B.lim (List.length (([45,40]:LB)++y0.1)+1) 1) (k ((([45,40]:LB)++y0.1++([41]:LB),y0.2.1,y0.2.2))) none) none) (cond (B.eq v1 12) (ob (c49 (IntKind.wrap .i64 (p0+1)) v2 v3) fun y0=>cond (B.lim (List.length y0.1+1) 1) (ob (c49 (IntKind.wrap .i64 (p0+1)) y0.2.1 y0.2.2) fun y1=>cond (B.lim (List.length (y0.1++([43]:LB))+List.length y1.1) 1) (k ((y0.1++([43]:LB)++y1.1,y1.2.1,y1.2.2))) none) none) (cond (B.eq v1 13) (ob (c49 (IntKind.wrap .i64 (p0+1)) v2 v3) fun y0=>cond (B.lim (2+List.length y0.1) 1) (k ((([33,33]:LB)++y0.1,y0.2.1,y0.2.2))) none) (cond (B.eq v1 14) (ob (c90 4 v2 v3) fun y0=>cond (B.inb y0.1 4) (k ((List.getD (([48]:LB)::([49]:LB)::([50]:LB)::([48,48,55]:LB)::mt LB) (Int.toNat y0.1) (mt UInt8),y0.2.1,y0.2.2))) none) (cond (B.eq v1 15) (ob (c90 4 v2 v3) fun y0=>cond (B.inb y0.1 4) (k ((List.getD (([48]:LB)::([49]:LB)::([50]:LB)::([48,48,55]:LB)::mt LB) (Int.toNat y0.1) (mt UInt8),y0.2.1,y0.2.2))) none) (cond (B.eq v1 16) (ob (c90 2 v2 v3) fun y0=>cond (B.inb y0.1 3) (cond (B.lim (List.length (List.getD ((112::mt UInt8)::(113::mt UInt8)::(114::mt UInt8)::mt LB) (Int.toNat y0.1) (mt UInt8))+1) 1) (ob (c90 3 y0.2.1 y0.2.2) fun y1=>cond (B.inb y1.1 4) (cond (B.lim (List.length (List.getD ((112::mt UInt8)::(113::mt UInt8)::(114::mt UInt8)::mt LB) (Int.toNat y0.1) (mt UInt8)++([64]:LB))+List.length (List.getD ((97::mt UInt8)::(98::mt UInt8)::(99::mt UInt8)::(100::mt UInt8)::mt LB) (Int.toNat y1.1) (mt UInt8))) 1) (k ((List.getD ((112::mt UInt8)::(113::mt UInt8)::(114::mt UInt8)::mt LB) (Int.toNat y0.1) (mt UInt8)++([64]:LB)++List.getD ((97::mt UInt8)::(98::mt UInt8)::(99::mt UInt8)::(100::mt UInt8)::mt LB) (Int.toNat y1.1) (mt UInt8),y1.2.1,y1.2.2))) none) none) none) none) (ob (c90 2 v2 v3) fun y0=>cond (B.inb y0.1 3) (k ((List.getD ((120::mt UInt8)::(121::mt UInt8)::(122::mt UInt8)::mt LB) (Int.toNat y0.1) (mt UInt8),y0.2.1,y0.2.2))) none))))))))
def E49 (p0:Int) (p1:L3) (p2:Int):S49→List AV×Objs
 | .l1004 v1 v2 v3=>(mk 117 [(0,.c (.ptr 0 0)),(1,.c (.int .i64 p0)),(5,.c (.int .i64 v1))],[(0,.box 82 [.list 3 ty3 v2,.int .i64 v3])])
def I49:S49→Nat
 | .l1004 _ _ _=>1004
noncomputable abbrev A49 {R:Type} (B:Ops) (c90:C90) (c49:C49) (p0:Int) (p1:L3) (p2:Int) (k:AV→Objs→Option R) (s:S49) (n:Nat):Option R:=aloop tau B gl0 X49 (ent 90 (e90 c90) (ent 49 (e49 c49) gnil)) ow [0] Tryd.f49 k (I49 s) (E49 p0 p1 p2 s) n
theorem eq49 {R:Type} (B:Ops) (c90:C90) (c49:C49) (p0:Int) (p1:L3) (p2:Int) (k:AV→Objs→Option R) (n:Nat):afun tau B gl0 X49 (ent 90 (e90 c90) (ent 49 (e49 c49) gnil)) ow Tryd.f49 [.c (.ptr 0 0),.c (.int .i64 p0)] [(0,.box 82 [.list 3 ty3 p1,.int .i64 p2])] k n=T49 B c90 c49 p0 p1 p2 (fun s=>A49 B c90 c49 p0 p1 p2 k s n) (K19 k) none:=by kernel_rfl
theorem el49 {R:Type} (B:Ops) (c90:C90) (c49:C49) (p0:Int) (p1:L3) (p2:Int) (k:AV→Objs→Option R) (n:Nat):∀ s,A49 B c90 c49 p0 p1 p2 k s (n+1)=T49 B c90 c49 p0 p1 p2 (fun s=>A49 B c90 c49 p0 p1 p2 k s n) (K19 k) (some s):=by
 intro s
 cases s<;>kernel_rfl
theorem nt49 {R R':Type} (B:Ops) (c90:C90) (c49:C49) (p0:Int) (p1:L3) (p2:Int) (again:S49→Option R) (again':S49→Option R') (k0:(LB×L3×Int)→Option R') (k:R'→Option R) (h:∀ s,again s=ob (again' s) k):∀ s,T49 B c90 c49 p0 p1 p2 again (fun y=>ob (k0 y) k) s=ob (T49 B c90 c49 p0 p1 p2 again' k0 s) k:=by
 rintro (_ | x)
 all_goals try cases x
 all_goals (unfold T49;repeat' first | exact rfl | exact h _ | apply qac | (apply qam;intro))
def R49 (c90:C90) (c49:C49) (p0:Int) (p1:L3) (p2:Int):Nat→S49→Option (LB×L3×Int)
 | 0,_=>none
 | n+1,s=>T49 Ops.std c90 c49 p0 p1 p2 (R49 c90 c49 p0 p1 p2 n) some (some s)
theorem rr49 {R:Type} (c90:C90) (c49:C49) (p0:Int) (p1:L3) (p2:Int) (k:AV→Objs→Option R):∀ (n:Nat) (s:S49),A49 Ops.std c90 c49 p0 p1 p2 k s n=ob (R49 c90 c49 p0 p1 p2 n s) (K19 k)
 | 0,s=>by cases s<;>rfl
 | n+1,s=>by rw [el49];exact nt49 Ops.std c90 c49 p0 p1 p2 _ _ some (K19 k) (rr49 c90 c49 p0 p1 p2 k n) (some s)
def F49 (c90:C90) (c49:C49) (p0:Int) (p1:L3) (p2:Int):Option (LB×L3×Int):=T49 Ops.std c90 c49 p0 p1 p2 (R49 c90 c49 p0 p1 p2 1000000) some none
theorem sf49 {c90:C90} {c49:C49} (h90:Sp90 c90) (h49:Sp49 c49):Sp49 (F49 c90 c49):=fun p0 p1 p2 y hy=>by
 refine qag (qad (ek90 h90) (qad (ek49 h49) qaf)) 1000000 (fn:=Tryd.f49) (by kernel_rfl) (by kernel_rfl) (X:=X49) (by kernel_rfl) ?_
 rw [eq49]
 exact (nt49 Ops.std c90 c49 p0 p1 p2 _ _ some (K19 k0) (rr49 c90 c49 p0 p1 p2 k0 1000000) none).trans (by show ob (F49 c90 c49 p0 p1 p2) _=_;rw [hy];rfl)
noncomputable def Rec49:Nat→(Int→L3→Int→Option (LB×L3×Int))
 | 0=>fun _ _ _=>none
 | d+1=>F49 M90 (Rec49 d)
theorem rec49:∀ d,Sp49 (Rec49 d)
 | 0=>fun p0 p1 p2 y (h:(none:Option (LB×L3×Int))=some y)=>by cases h
 | d+1=>sf49 sm90 (rec49 d)
noncomputable def M49:C49:=(Rec49 1000000)
theorem sm49:Sp49 M49:=(rec49 1000000)
def X16:Aux:=⟨[],[]⟩
def T16 {R:Type} (B:Ops) (c49:C49) (p0:L3) (k:(LB)→Option R):Option R:=ob (c49 0 p0 0) fun y0=>k y0.1
theorem eq16 {R:Type} (B:Ops) (c49:C49) (p0:L3) (k:AV→Objs→Option R) (n:Nat):afun tau B gl0 X16 (ent 49 (e49 c49) gnil) ow Tryd.f16 [.c (.list 3 ty3 p0)] [] k n=T16 B c49 p0 (K3 k):=by kernel_rfl
theorem nt16 {R R':Type} (B:Ops) (c49:C49) (p0:L3) (k0:(LB)→Option R') (k:R'→Option R):T16 B c49 p0 (fun y=>ob (k0 y) k)=ob (T16 B c49 p0 k0) k:=by
 unfold T16
 repeat' first | exact rfl | apply qac | (apply qam;intro)
def F16 (c49:C49) (p0:L3):Option (LB):=T16 Ops.std c49 p0 some
abbrev C16:Type:=L3→Option (LB)
def e16 {R:Type} (c:C16):Ent R:=eG [.aC (.cL 3 ty3)] [] fun v k=>ob (c v.1) (K3 k)
abbrev Sp16 (c:C16):Prop:=∀ (p0:L3) (y:LB),c p0=some y→Spec Tryd.prog gl0 16 [.c (.list 3 ty3 p0)] [] (.c (.str y)) []
theorem ek16 {R:Type} {c:C16} (hs:Sp16 c):EOk 16 (e16 (R:=R) c):=qap fun v=>hs v.1
theorem sf16 {c49:C49} (h49:Sp49 c49):Sp16 (F16 c49):=fun p0 y hy=>by
 refine qag (qad (ek49 h49) qaf) 1000000 (fn:=Tryd.f16) (by kernel_rfl) (by kernel_rfl) (X:=X16) (by kernel_rfl) ?_
 rw [eq16]
 exact (nt16 Ops.std c49 p0 some (K3 k0)).trans (by show ob (F16 c49 p0) _=_;rw [hy];rfl)
noncomputable def M16:C16:=F16 M49
theorem sm16:Sp16 M16:=sf16 sm49
def X8:Aux:=⟨[(10,(rg 0 13++rg 16 112++rg 129 36))],[(15,.lin [0,1,2,4,5,6,3,7,8])]⟩
inductive S8 where
 | l0 (v0:Int) (v1 v2 v3 v4 v5 v6 v7 v8 v9 v10 v11 v12 v13 v14 v15 v16 v17 v18:LB) (v19:L108) (v20:L73) (v21:L193) (v22 v23:L3)
def T8 {R:Type} (B:Ops) (c14:C14) (c16:C16) (c24:C24) (c28:C28) (c17:C17) (c33:C33) (p0 p1:L3) (p2 p3 p4:Int) (again:S8→Option R) (k:(Bool)→Option R):Option S8→Option R | none=>ob (c14) fun y0=>cond (!y0) (k false) (ob (c16 p0) fun y1=>cond (B.lim (1+List.length y1) 1) (cond (B.lim (List.length (([40]:LB)++y1)+1) 1) (ob (c16 p1) fun y2=>cond (B.lim (1+List.length y2) 1) (cond (B.lim (List.length (([40]:LB)++y2)+1) 1) (ob (c24 p2 30) fun y3=>ob (c24 p3 7) fun y4=>ob (c28 (IntKind.wrap .i64 (y3-15)) (IntKind.wrap .i64 (y4-3)) p4) fun y5=>ob (c14) fun y6=>cond (!y6) (k false) (cond (B.lim (2+List.length (([40]:LB)++y1++([41]:LB))) 1) (cond (B.lim (List.length (([33,40]:LB)++(([40]:LB)++y1++([41]:LB)))+2) 1) (cond (B.lim (List.length (([33,40]:LB)++(([40]:LB)++y1++([41]:LB))++([38,38]:LB))+List.length (([40]:LB)++y2++([41]:LB))) 1) (cond (B.lim (List.length (([33,40]:LB)++(([40]:LB)++y1++([41]:LB))++([38,38]:LB)++(([40]:LB)++y2++([41]:LB)))+1) 1) (cond (B.lim (1+List.length (([40]:LB)++y1++([41]:LB))) 1) (cond (B.lim (List.length (([33]:LB)++(([40]:LB)++y1++([41]:LB)))+3) 1) (cond (B.lim (List.length (([33]:LB)++(([40]:LB)++y1++([41]:LB))++([124,124,33]:LB))+List.length (([40]:LB)++y2++([41]:LB))) 1) (cond (B.lim (List.length (([40]:LB)++y1++([41]:LB))+1) 1) (cond (B.lim (List.length (([40]:LB)++y1++([41]:LB)++([60]:LB))+List.length (([40]:LB)++y2++([41]:LB))) 1) (cond (B.lim (2+List.length (([40]:LB)++y1++([41]:LB))) 1) (cond (B.lim (List.length (([33,40]:LB)++(([40]:LB)++y1++([41]:LB)))+2) 1) (cond (B.lim (List.length (([33,40]:LB)++(([40]:LB)++y1++([41]:LB))++([62,61]:LB))+List.length (([40]:LB)++y2++([41]:LB))) 1) (cond (B.lim (List.length (([33,40]:LB)++(([40]:LB)++y1++([41]:LB))++([62,61]:LB)++(([40]:LB)++y2++([41]:LB)))+1) 1) (cond (B.lim (List.length (([40]:LB)++y1++([41]:LB))+2) 1) (cond (B.lim (List.length (([40]:LB)++y1++([41]:LB)++([61,61]:LB))+List.length (([40]:LB)++y2++([41]:LB))) 1) (cond (B.lim (2+List.length (([40]:LB)++y1++([41]:LB))) 1) (cond (B.lim (List.length (([33,40]:LB)++(([40]:LB)++y1++([41]:LB)))+2) 1) (cond (B.lim (List.length (([33,40]:LB)++(([40]:LB)++y1++([41]:LB))++([33,61]:LB))+List.length (([40]:LB)++y2++([41]:LB))) 1) (cond (B.lim (List.length (([33,40]:LB)++(([40]:LB)++y1++([41]:LB))++([33,61]:LB)++(([40]:LB)++y2++([41]:LB)))+1) 1) (cond (B.lim (List.length (([40]:LB)++y1++([41]:LB))+1) 1) (cond (B.lim (List.length (([40]:LB)++y1++([41]:LB)++([43]:LB))+List.length (([40]:LB)++y2++([41]:LB))) 1) (cond (B.lim (List.length (([40]:LB)++y2++([41]:LB))+1) 1) (cond (B.lim (List.length (([40]:LB)++y2++([41]:LB)++([43]:LB))+List.length (([40]:LB)++y1++([41]:LB))) 1) (cond (B.lim (List.length (([40]:LB)++y1++([41]:LB))+1) 1) (cond (B.lim (List.length (([40]:LB)++y1++([41]:LB)++([42]:LB))+List.length (([40]:LB)++y2++([41]:LB))) 1) (cond (B.lim (List.length (([40]:LB)++y2++([41]:LB))+1) 1) (cond (B.lim (List.length (([40]:LB)++y2++([41]:LB)++([42]:LB))+List.length (([40]:LB)++y1++([41]:LB))) 1) (cond (B.lim (List.length (([40]:LB)++y1++([41]:LB))+1) 1) (cond (B.lim (List.length (([40]:LB)++y1++([41]:LB)++([45]:LB))+List.length (([40]:LB)++y2++([41]:LB))) 1) (cond (B.lim (2+List.length (([40]:LB)++y2++([41]:LB))) 1) (cond (B.lim (List.length (([45,40]:LB)++(([40]:LB)++y2++([41]:LB)))+1) 1) (cond (B.lim (List.length (([45,40]:LB)++(([40]:LB)++y2++([41]:LB))++([45]:LB))+List.length (([40]:LB)++y1++([41]:LB))) 1) (cond (B.lim (List.length (([45,40]:LB)++(([40]:LB)++y2++([41]:LB))++([45]:LB)++(([40]:LB)++y1++([41]:LB)))+1) 1) (cond (B.lim (2+List.length (([40]:LB)++y1++([41]:LB))) 1) (cond (B.lim (List.length (([40]:LB)++y1++([41]:LB))+3) 1) (cond (B.lim (List.length (([40]:LB)++y1++([41]:LB))+2) 1) (cond (B.lim (List.length (([40]:LB)++y1++([41]:LB)++([60,61]:LB))+List.length (([40]:LB)++y2++([41]:LB))) 1) (cond (B.lim (List.length (([40]:LB)++y2++([41]:LB))+2) 1) (cond (B.lim (List.length (([40]:LB)++y2++([41]:LB)++([62,61]:LB))+List.length (([40]:LB)++y1++([41]:LB))) 1) (cond (B.lim (2+List.length (([40]:LB)++y1++([41]:LB))) 1) (again (.l0 0 (([33,40]:LB)++(([40]:LB)++y1++([41]:LB))++([38,38]:LB)++(([40]:LB)++y2++([41]:LB))++([41]:LB)) (([33]:LB)++(([40]:LB)++y1++([41]:LB))++([124,124,33]:LB)++(([40]:LB)++y2++([41]:LB))) (([40]:LB)++y1++([41]:LB)++([60]:LB)++(([40]:LB)++y2++([41]:LB))) (([33,40]:LB)++(([40]:LB)++y1++([41]:LB))++([62,61]:LB)++(([40]:LB)++y2++([41]:LB))++([41]:LB)) (([40]:LB)++y1++([41]:LB)++([61,61]:LB)++(([40]:LB)++y2++([41]:LB))) (([33,40]:LB)++(([40]:LB)++y1++([41]:LB))++([33,61]:LB)++(([40]:LB)++y2++([41]:LB))++([41]:LB)) (([40]:LB)++y1++([41]:LB)++([43]:LB)++(([40]:LB)++y2++([41]:LB))) (([40]:LB)++y2++([41]:LB)++([43]:LB)++(([40]:LB)++y1++([41]:LB))) (([40]:LB)++y1++([41]:LB)++([42]:LB)++(([40]:LB)++y2++([41]:LB))) (([40]:LB)++y2++([41]:LB)++([42]:LB)++(([40]:LB)++y1++([41]:LB))) (([40]:LB)++y1++([41]:LB)++([45]:LB)++(([40]:LB)++y2++([41]:LB))) (([45,40]:LB)++(([40]:LB)++y2++([41]:LB))++([45]:LB)++(([40]:LB)++y1++([41]:LB))++([41]:LB)) (([33,33]:LB)++(([40]:LB)++y1++([41]:LB))) (([40]:LB)++y1++([41]:LB)++([33,61,48]:LB)) (([40]:LB)++y1++([41]:LB)++([60,61]:LB)++(([40]:LB)++y2++([41]:LB))) (([40]:LB)++y2++([41]:LB)++([62,61]:LB)++(([40]:LB)++y1++([41]:LB))) (([45,45]:LB)++(([40]:LB)++y1++([41]:LB))) (([40]:LB)++y1++([41]:LB)) y5.1 y5.2.1 y5.2.2.1 y5.2.2.2.1 y5.2.2.2.2)) none) none) none) none) none) none) none) none) none) none) none) none) none) none) none) none) none) none) none) none) none) none) none) none) none) none) none) none) none) none) none) none) none) none) none) none) none) none) none) none)) none) none) none) none) | some (.l0 v0 v1 v2 v3 v4 v5 v6 v7 v8 v9 v10 v11 v12 v13 v14 v15 v16 v17 v18 v19 v20 v21 v22 v23)=>cond (B.lt v0 9) (cond (B.inb v0 9) (cond (B.inb 0 2) (cond (B.lt (Nat.cast (Int.toNat v0*TI.size { kind:=TK.array 2 9,size:=2,bytes:=32,agg:=true,zero:=CV.str (mt UInt8)::CV.str (mt UInt8)::mt CV,cty:=none::none::mt (Option (Nat×Ty)),ty:=none }+Int.toNat 0)) (Nat.cast (9*TI.size { kind:=TK.array 2 9,size:=2,bytes:=32,agg:=true,zero:=CV.str (mt UInt8)::CV.str (mt UInt8)::mt CV,cty:=none::none::mt (Option (Nat×Ty)),ty:=none }))) (ob (c17 (List.getD (v1::v2::v3::v4::v5::v6::v7::v8::v9::v10::v11::v12::v13::v14::v15::v16::v17::v18::mt LB) (Int.toNat v0*TI.size { kind:=TK.array 2 9,size:=2,bytes:=32,agg:=true,zero:=CV.str (mt UInt8)::CV.str (mt UInt8)::mt CV,cty:=none::none::mt (Option (Nat×Ty)),ty:=none }+Int.toNat 0) (mt UInt8))) fun y0=>cond (B.inb v0 9) (cond (B.inb 1 2) (cond (B.lt (Nat.cast (Int.toNat v0*TI.size { kind:=TK.array 2 9,size:=2,bytes:=32,agg:=true,zero:=CV.str (mt UInt8)::CV.str (mt UInt8)::mt CV,cty:=none::none::mt (Option (Nat×Ty)),ty:=none }+Int.toNat 1)) (Nat.cast (9*TI.size { kind:=TK.array 2 9,size:=2,bytes:=32,agg:=true,zero:=CV.str (mt UInt8)::CV.str (mt UInt8)::mt CV,cty:=none::none::mt (Option (Nat×Ty)),ty:=none }))) (ob (c17 (List.getD (v1::v2::v3::v4::v5::v6::v7::v8::v9::v10::v11::v12::v13::v14::v15::v16::v17::v18::mt LB) (Int.toNat v0*TI.size { kind:=TK.array 2 9,size:=2,bytes:=32,agg:=true,zero:=CV.str (mt UInt8)::CV.str (mt UInt8)::mt CV,cty:=none::none::mt (Option (Nat×Ty)),ty:=none }+Int.toNat 1) (mt UInt8))) fun y1=>cond (!B.eq y0.1 0) (again (.l0 (IntKind.wrap .i64 (v0+1)) v1 v2 v3 v4 v5 v6 v7 v8 v9 v10 v11 v12 v13 v14 v15 v16 v17 v18 v19 v20 v21 v22 v23)) (cond (!B.eq y1.1 0) (again (.l0 (IntKind.wrap .i64 (v0+1)) v1 v2 v3 v4 v5 v6 v7 v8 v9 v10 v11 v12 v13 v14 v15 v16 v17 v18 v19 v20 v21 v22 v23)) (ob (c33 v19 v20 v21 v22 v23 y0.2.2) fun y2=>ob (c33 v19 v20 v21 v22 v23 y1.2.2) fun y3=>cond (!B.eq y2 y3) (k false) (again (.l0 (IntKind.wrap .i64 (v0+1)) v1 v2 v3 v4 v5 v6 v7 v8 v9 v10 v11 v12 v13 v14 v15 v16 v17 v18 v19 v20 v21 v22 v23))))) none) none) none) none) none) none) (k true)
def E8 (p0 p1:L3) (p2 p3 p4:Int):S8→List AV×Objs
 | .l0 v0 v1 v2 v3 v4 v5 v6 v7 v8 v9 v10 v11 v12 v13 v14 v15 v16 v17 v18 v19 v20 v21 v22 v23=>(mk 165 [(13,.c (.ptr 13 0)),(14,.c (.ptr 14 0)),(15,.c (.ptr 15 0)),(128,.c (.int .i64 v0))],[(13,.box 46 [.own 14000,.own 14001,.own 14002]),(14,.box 48 [.own 15000,.own 15001]),(15,.box 59 [.str v1,.str v2,.str v3,.str v4,.str v5,.str v6,.str v7,.str v8,.str v9,.str v10,.str v11,.str v12,.str v13,.str v14,.str v15,.str v16,.str v17,.str v18]),(14000,.row 108 ty108 v19),(14001,.row 73 ty73 v20),(14002,.row 193 ty193 v21),(15000,.row 3 ty3 v22),(15001,.row 3 ty3 v23)])
def I8:S8→Nat
 | .l0 _ _ _ _ _ _ _ _ _ _ _ _ _ _ _ _ _ _ _ _ _ _ _ _=>0
noncomputable abbrev A8 {R:Type} (B:Ops) (c14:C14) (c16:C16) (c24:C24) (c28:C28) (c17:C17) (c33:C33) (p0 p1:L3) (p2 p3 p4:Int) (k:AV→Objs→Option R) (s:S8) (n:Nat):Option R:=aloop tau B gl0 X8 (ent 14 (e14 c14) (ent 16 (e16 c16) (ent 24 (e24 c24) (ent 28 (e28 c28) (ent 17 (e17 c17) (ent 33 (e33 c33) gnil)))))) ow [] Tryd.f8 k (I8 s) (E8 p0 p1 p2 p3 p4 s) n
theorem eq8 {R:Type} (B:Ops) (c14:C14) (c16:C16) (c24:C24) (c28:C28) (c17:C17) (c33:C33) (p0 p1:L3) (p2 p3 p4:Int) (k:AV→Objs→Option R) (n:Nat):afun tau B gl0 X8 (ent 14 (e14 c14) (ent 16 (e16 c16) (ent 24 (e24 c24) (ent 28 (e28 c28) (ent 17 (e17 c17) (ent 33 (e33 c33) gnil)))))) ow Tryd.f8 [.c (.list 3 ty3 p0),.c (.list 3 ty3 p1),.c (.int .i64 p2),.c (.int .i64 p3),.c (.int .i64 p4)] [] k n=T8 B c14 c16 c24 c28 c17 c33 p0 p1 p2 p3 p4 (fun s=>A8 B c14 c16 c24 c28 c17 c33 p0 p1 p2 p3 p4 k s n) (K2 k) none:=by kernel_rfl
theorem el8 {R:Type} (B:Ops) (c14:C14) (c16:C16) (c24:C24) (c28:C28) (c17:C17) (c33:C33) (p0 p1:L3) (p2 p3 p4:Int) (k:AV→Objs→Option R) (n:Nat):∀ s,A8 B c14 c16 c24 c28 c17 c33 p0 p1 p2 p3 p4 k s (n+1)=T8 B c14 c16 c24 c28 c17 c33 p0 p1 p2 p3 p4 (fun s=>A8 B c14 c16 c24 c28 c17 c33 p0 p1 p2 p3 p4 k s n) (K2 k) (some s):=by
 intro s
 cases s<;>kernel_rfl
theorem nt8 {R R':Type} (B:Ops) (c14:C14) (c16:C16) (c24:C24) (c28:C28) (c17:C17) (c33:C33) (p0 p1:L3) (p2 p3 p4:Int) (again:S8→Option R) (again':S8→Option R') (k0:(Bool)→Option R') (k:R'→Option R) (h:∀ s,again s=ob (again' s) k):∀ s,T8 B c14 c16 c24 c28 c17 c33 p0 p1 p2 p3 p4 again (fun y=>ob (k0 y) k) s=ob (T8 B c14 c16 c24 c28 c17 c33 p0 p1 p2 p3 p4 again' k0 s) k:=by
 rintro (_ | x)
 all_goals try cases x
 all_goals (unfold T8;repeat' first | exact rfl | exact h _ | apply qac | (apply qam;intro))
def R8 (c14:C14) (c16:C16) (c24:C24) (c28:C28) (c17:C17) (c33:C33) (p0 p1:L3) (p2 p3 p4:Int):Nat→S8→Option (Bool)
 | 0,_=>none
 | n+1,s=>T8 Ops.std c14 c16 c24 c28 c17 c33 p0 p1 p2 p3 p4 (R8 c14 c16 c24 c28 c17 c33 p0 p1 p2 p3 p4 n) some (some s)
theorem rr8 {R:Type} (c14:C14) (c16:C16) (c24:C24) (c28:C28) (c17:C17) (c33:C33) (p0 p1:L3) (p2 p3 p4:Int) (k:AV→Objs→Option R):∀ (n:Nat) (s:S8),A8 Ops.std c14 c16 c24 c28 c17 c33 p0 p1 p2 p3 p4 k s n=ob (R8 c14 c16 c24 c28 c17 c33 p0 p1 p2 p3 p4 n s) (K2 k)
 | 0,s=>by cases s<;>rfl
 | n+1,s=>by rw [el8];exact nt8 Ops.std c14 c16 c24 c28 c17 c33 p0 p1 p2 p3 p4 _ _ some (K2 k) (rr8 c14 c16 c24 c28 c17 c33 p0 p1 p2 p3 p4 k n) (some s)
def F8 (c14:C14) (c16:C16) (c24:C24) (c28:C28) (c17:C17) (c33:C33) (p0 p1:L3) (p2 p3 p4:Int):Option (Bool):=T8 Ops.std c14 c16 c24 c28 c17 c33 p0 p1 p2 p3 p4 (R8 c14 c16 c24 c28 c17 c33 p0 p1 p2 p3 p4 1000000) some none
abbrev C8:Type:=L3→L3→Int→Int→Int→Option (Bool)
abbrev Sp8 (c:C8):Prop:=∀ (p0 p1:L3) (p2 p3 p4:Int) (y:Bool),c p0 p1 p2 p3 p4=some y→Spec Tryd.prog gl0 8 [.c (.list 3 ty3 p0),.c (.list 3 ty3 p1),.c (.int .i64 p2),.c (.int .i64 p3),.c (.int .i64 p4)] [] (.c (.bool y)) []
theorem sf8 {c14:C14} {c16:C16} {c24:C24} {c28:C28} {c17:C17} {c33:C33} (h14:Sp14 c14) (h16:Sp16 c16) (h24:Sp24 c24) (h28:Sp28 c28) (h17:Sp17 c17) (h33:Sp33 c33):Sp8 (F8 c14 c16 c24 c28 c17 c33):=fun p0 p1 p2 p3 p4 y hy=>by
 refine qag (qad (ek14 h14) (qad (ek16 h16) (qad (ek24 h24) (qad (ek28 h28) (qad (ek17 h17) (qad (ek33 h33) qaf)))))) 1000000 (fn:=Tryd.f8) (by kernel_rfl) (by kernel_rfl) (X:=X8) (by kernel_rfl) ?_
 rw [eq8]
 exact (nt8 Ops.std c14 c16 c24 c28 c17 c33 p0 p1 p2 p3 p4 _ _ some (K2 k0) (rr8 c14 c16 c24 c28 c17 c33 p0 p1 p2 p3 p4 k0 1000000) none).trans (by show ob (F8 c14 c16 c24 c28 c17 c33 p0 p1 p2 p3 p4) _=_;rw [hy];rfl)
noncomputable def M8:C8:=F8 M14 M16 M24 M28 M17 M33
theorem sm8:Sp8 M8:=sf8 sm14 sm16 sm24 sm28 sm17 sm33
end Go.Proofs.YtkmpkebaloejhaaDoor.Av
