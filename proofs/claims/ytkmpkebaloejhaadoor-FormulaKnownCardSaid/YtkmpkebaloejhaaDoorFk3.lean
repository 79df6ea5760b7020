/- Twins of functions,printed by gen.py. Conditions: none. -/
import Derived.Test.YtkmpkebaloejhaaDoorFk2
import Derived.KernelRfl
set_option linter.unusedSimpArgs false
set_option linter.unusedVariables false
set_option maxRecDepth 100000
set_option maxHeartbeats 8000000
namespace Go.Proofs.YtkmpkebaloejhaaDoor.Av
open Go
def X45:Aux:=⟨[],[]⟩
def T45 {R:Type} (B:Ops) (c39:C39) (p0:LB) (p1 p2:Int) (k:(Bool)→Option R):Option R:=ob (c39 p0) fun y0=>cond (B.eq y0.1 p1) (cond (B.eq y0.2.1 p2) (k (B.eq (Nat.cast (List.length y0.2.2)) 0)) (k false)) (k false)
theorem eq45 {R:Type} (B:Ops) (c39:C39) (p0:LB) (p1 p2:Int) (k:AV→Objs→Option R) (n:Nat):afun tau B gl0 X45 (ent 39 (e39 c39) gnil) ow Tryd.f45 [.c (.str p0),.c (.int .i64 p1),.c (.int .i64 p2)] [] k n=T45 B c39 p0 p1 p2 (K2 k):=by kernel_rfl
theorem nt45 {R R':Type} (B:Ops) (c39:C39) (p0:LB) (p1 p2:Int) (k0:(Bool)→Option R') (k:R'→Option R):T45 B c39 p0 p1 p2 (fun y=>ob (k0 y) k)=ob (T45 B c39 p0 p1 p2 k0) k:=by
 unfold T45
 repeat' first | exact rfl | apply qab | (apply qae;intro)
def F45 (c39:C39) (p0:LB) (p1 p2:Int):Option (Bool):=T45 Ops.std c39 p0 p1 p2 some
abbrev C45:Type:=LB→Int→Int→Option (Bool)
def e45 {R:Type} (c:C45):Ent R:=eG [.aC .cS,.aC (.cI .i64),.aC (.cI .i64)] [] fun v k=>ob (c v.1 v.2.1 v.2.2.1) (K2 k)
abbrev Sp45 (c:C45):Prop:=∀ (p0:LB) (p1 p2:Int) (y:Bool),c p0 p1 p2=some y→Spec Tryd.prog gl0 45 [.c (.str p0),.c (.int .i64 p1),.c (.int .i64 p2)] [] (.c (.bool y)) []
theorem ek45 {R:Type} {c:C45} (hs:Sp45 c):EOk 45 (e45 (R:=R) c):=qag fun v=>hs v.1 v.2.1 v.2.2.1
theorem sf45 {c39:C39} (h39:Sp39 c39):Sp45 (F45 c39):=fun p0 p1 p2 y hy=>by
 refine qad (qaa (ek39 h39) qac) 1000000 (fn:=Tryd.f45) (by kernel_rfl) (by kernel_rfl) (X:=X45) (by kernel_rfl) ?_
 rw [eq45]
 exact (nt45 Ops.std c39 p0 p1 p2 some (K2 k0)).trans (by show ob (F45 c39 p0 p1 p2) _=_;rw [hy];rfl)
noncomputable def M45:C45:=F45 M39
theorem sm45:Sp45 M45:=sf45 sm39
def X46:Aux:=⟨[(4,([2,3,4]++rg 6 20))],[(6,.lin [0,1,2,3,4,5,6,7,8])]⟩
inductive S46 where
 | l0 (v2:Int)
def T46 {R:Type} (B:Ops) (p0 p1:L3) (again:S46→Option R) (k:(Bool)→Option R):Option S46→Option R | none=>cond (!B.eq (↑p0.length) (↑p1.length)) (k false) (again (.l0 0)) | some (.l0 v2)=>cond (B.lt v2 (↑p0.length)) (cond (B.inb v2 p0.length) (cond (B.inb v2 p1.length) (cond (!B.eq (p0.getD v2.toNat ty3.dflt) (p1.getD v2.toNat ty3.dflt)) (k false) (again (.l0 (IntKind.wrap .i64 (v2+1))))) none) none) (k true)
def E46 (p0 p1:L3):S46→List AV×Objs
 | .l0 v2=>(mk 26 [(0,.c (.list 3 ty3 p0)),(1,.c (.list 3 ty3 p1)),(5,.c (.int .i64 v2))],[])
def I46:S46→Nat
 | .l0 _=>0
noncomputable abbrev A46 {R:Type} (B:Ops) (p0 p1:L3) (k:AV→Objs→Option R) (s:S46) (n:Nat):Option R:=aloop tau B gl0 X46 gnil ow [] Tryd.f46 k (I46 s) (E46 p0 p1 s) n
theorem eq46 {R:Type} (B:Ops) (p0 p1:L3) (k:AV→Objs→Option R) (n:Nat):afun tau B gl0 X46 gnil ow Tryd.f46 [.c (.list 3 ty3 p0),.c (.list 3 ty3 p1)] [] k n=T46 B p0 p1 (fun s=>A46 B p0 p1 k s n) (K2 k) none:=by kernel_rfl
theorem el46 {R:Type} (B:Ops) (p0 p1:L3) (k:AV→Objs→Option R) (n:Nat):∀ s,A46 B p0 p1 k s (n+1)=T46 B p0 p1 (fun s=>A46 B p0 p1 k s n) (K2 k) (some s):=by
 intro s
 cases s<;>kernel_rfl
theorem nt46 {R R':Type} (B:Ops) (p0 p1:L3) (again:S46→Option R) (again':S46→Option R') (k0:(Bool)→Option R') (k:R'→Option R) (h:∀ s,again s=ob (again' s) k):∀ s,T46 B p0 p1 again (fun y=>ob (k0 y) k) s=ob (T46 B p0 p1 again' k0 s) k:=by
 rintro (_ | x)
 all_goals try cases x
 all_goals (unfold T46;repeat' first | exact rfl | exact h _ | apply qab | (apply qae;intro))
def R46 (p0 p1:L3):Nat→S46→Option (Bool)
 | 0,_=>none
 | n+1,s=>T46 Ops.std p0 p1 (R46 p0 p1 n) some (some s)
theorem rr46 {R:Type} (p0 p1:L3) (k:AV→Objs→Option R):∀ (n:Nat) (s:S46),A46 Ops.std p0 p1 k s n=ob (R46 p0 p1 n s) (K2 k)
 | 0,s=>by cases s<;>rfl
 | n+1,s=>by rw [el46];exact nt46 Ops.std p0 p1 _ _ some (K2 k) (rr46 p0 p1 k n) (some s)
def F46 (p0 p1:L3):Option (Bool):=T46 Ops.std p0 p1 (R46 p0 p1 1000000) some none
abbrev C46:Type:=L3→L3→Option (Bool)
def e46 {R:Type} (c:C46):Ent R:=eG [.aC (.cL 3 ty3),.aC (.cL 3 ty3)] [] fun v k=>ob (c v.1 v.2.1) (K2 k)
abbrev Sp46 (c:C46):Prop:=∀ (p0 p1:L3) (y:Bool),c p0 p1=some y→Spec Tryd.prog gl0 46 [.c (.list 3 ty3 p0),.c (.list 3 ty3 p1)] [] (.c (.bool y)) []
theorem ek46 {R:Type} {c:C46} (hs:Sp46 c):EOk 46 (e46 (R:=R) c):=qag fun v=>hs v.1 v.2.1
theorem sf46:Sp46 (F46):=fun p0 p1 y hy=>by
 refine qad qac 1000000 (fn:=Tryd.f46) (by kernel_rfl) (by kernel_rfl) (X:=X46) (by kernel_rfl) ?_
 rw [eq46]
 exact (nt46 Ops.std p0 p1 _ _ some (K2 k0) (rr46 p0 p1 k0 1000000) none).trans (by show ob (F46 p0 p1) _=_;rw [hy];rfl)
noncomputable def M46:C46:=F46
theorem sm46:Sp46 M46:=sf46
def X89:Aux:=⟨[],[]⟩
def T89 {R:Type} (B:Ops) (c32:C32) (p0:Int) (p1:L56) (p2:L108) (p3:L73) (p4:L193) (k:(Bool×L108×L73×L193)→Option R):Option R:=cond (B.eq p0 3) (ob (c32 p2 p3 p4 p1) fun y0=>k (!y0,p2,p3,p4)) (k (false,p2,p3,p4))
abbrev K24 {R:Type} (k:AV→Objs→Option R) (y:(Bool×L108×L73×L193)):Option R:=k (.c (.bool y.1)) [(1,.box 46 [.list 108 ty108 y.2.1,.list 73 ty73 y.2.2.1,.list 193 ty193 y.2.2.2])]
theorem eq89 {R:Type} (B:Ops) (c32:C32) (p0:Int) (p1:L56) (p2:L108) (p3:L73) (p4:L193) (k:AV→Objs→Option R) (n:Nat):afun tau B gl0 X89 (ent 32 (e32 c32) gnil) ow Tryd.f89 [.agg [.int .i64 p0,.list 56 ty56 p1],.c (.ptr 1 0)] [(1,.box 46 [.list 108 ty108 p2,.list 73 ty73 p3,.list 193 ty193 p4])] k n=T89 B c32 p0 p1 p2 p3 p4 (K24 k):=by kernel_rfl
theorem nt89 {R R':Type} (B:Ops) (c32:C32) (p0:Int) (p1:L56) (p2:L108) (p3:L73) (p4:L193) (k0:(Bool×L108×L73×L193)→Option R') (k:R'→Option R):T89 B c32 p0 p1 p2 p3 p4 (fun y=>ob (k0 y) k)=ob (T89 B c32 p0 p1 p2 p3 p4 k0) k:=by
 unfold T89
 repeat' first | exact rfl | apply qab | (apply qae;intro)
def F89 (c32:C32) (p0:Int) (p1:L56) (p2:L108) (p3:L73) (p4:L193):Option (Bool×L108×L73×L193):=T89 Ops.std c32 p0 p1 p2 p3 p4 some
abbrev C89:Type:=Int→L56→L108→L73→L193→Option (Bool×L108×L73×L193)
def e89 {R:Type} (c:C89):Ent R:=eG [.aG [.cI .i64,.cL 56 ty56],.aC (.cP 1)] [.oB 1 46 [.cL 108 ty108,.cL 73 ty73,.cL 193 ty193]] fun v k=>ob (c v.1 v.2.1 v.2.2.1 v.2.2.2.1 v.2.2.2.2.1) (K24 k)
abbrev Sp89 (c:C89):Prop:=∀ (p0:Int) (p1:L56) (p2:L108) (p3:L73) (p4:L193) (y:Bool×L108×L73×L193),c p0 p1 p2 p3 p4=some y→Spec Tryd.prog gl0 89 [.agg [.int .i64 p0,.list 56 ty56 p1],.c (.ptr 1 0)] [(1,.box 46 [.list 108 ty108 p2,.list 73 ty73 p3,.list 193 ty193 p4])] (.c (.bool y.1)) [(1,.box 46 [.list 108 ty108 y.2.1,.list 73 ty73 y.2.2.1,.list 193 ty193 y.2.2.2])]
theorem ek89 {R:Type} {c:C89} (hs:Sp89 c):EOk 89 (e89 (R:=R) c):=qag fun v=>hs v.1 v.2.1 v.2.2.1 v.2.2.2.1 v.2.2.2.2.1
theorem sf89 {c32:C32} (h32:Sp32 c32):Sp89 (F89 c32):=fun p0 p1 p2 p3 p4 y hy=>by
 refine qad (qaa (ek32 h32) qac) 1000000 (fn:=Tryd.f89) (by kernel_rfl) (by kernel_rfl) (X:=X89) (by kernel_rfl) ?_
 rw [eq89]
 exact (nt89 Ops.std c32 p0 p1 p2 p3 p4 some (K24 k0)).trans (by show ob (F89 c32 p0 p1 p2 p3 p4) _=_;rw [hy];rfl)
noncomputable def M89:C89:=F89 M32
theorem sm89:Sp89 M89:=sf89 sm32
def X120:Aux:=⟨[(2,([2,3,4,5,6]++rg 9 10))],[]⟩
inductive S120 where
 | l0 (v1 v2:Int) (v3:L108) (v4:L73) (v5:L193)
def T120 {R:Type} (B:Ops) (c89:C89) (p0:L78) (p1:L108) (p2:L73) (p3:L193) (again:S120→Option R) (k:(Int×L108×L73×L193)→Option R):Option S120→Option R | none=>again (.l0 (↑p0.length) 0 p1 p2 p3) | some (.l0 v1 v2 v3 v4 v5)=>cond (B.lt v2 v1) (cond (B.inb v2 p0.length) (ob (c89 (p0.getD v2.toNat ty78.dflt).1 (p0.getD v2.toNat ty78.dflt).2 v3 v4 v5) fun y0=>cond y0.1 (k (v2,y0.2.1,y0.2.2.1,y0.2.2.2)) (again (.l0 v1 (IntKind.wrap .i64 (v2+1)) y0.2.1 y0.2.2.1 y0.2.2.2))) none) (k (-1,v3,v4,v5))
def E120 (p0:L78) (p1:L108) (p2:L73) (p3:L193):S120→List AV×Objs
 | .l0 v1 v2 v3 v4 v5=>(mk 19 [(0,.c (.list 78 ty78 p0)),(1,.fn 89 [.ptr 2500 0]),(7,.c (.int .i64 v1)),(8,.c (.int .i64 v2))],[(2500,.box 46 [.list 108 ty108 v3,.list 73 ty73 v4,.list 193 ty193 v5])])
def I120:S120→Nat
 | .l0 _ _ _ _ _=>0
abbrev K25 {R:Type} (k:AV→Objs→Option R) (y:(Int×L108×L73×L193)):Option R:=k (.c (.int .i64 y.1)) [(2500,.box 46 [.list 108 ty108 y.2.1,.list 73 ty73 y.2.2.1,.list 193 ty193 y.2.2.2])]
noncomputable abbrev A120 {R:Type} (B:Ops) (c89:C89) (p0:L78) (p1:L108) (p2:L73) (p3:L193) (k:AV→Objs→Option R) (s:S120) (n:Nat):Option R:=aloop tau B gl0 X120 (ent 89 (e89 c89) gnil) ow [2500] Tryd.f120 k (I120 s) (E120 p0 p1 p2 p3 s) n
theorem eq120 {R:Type} (B:Ops) (c89:C89) (p0:L78) (p1:L108) (p2:L73) (p3:L193) (k:AV→Objs→Option R) (n:Nat):afun tau B gl0 X120 (ent 89 (e89 c89) gnil) ow Tryd.f120 [.c (.list 78 ty78 p0),.fn 89 [.ptr 2500 0]] [(2500,.box 46 [.list 108 ty108 p1,.list 73 ty73 p2,.list 193 ty193 p3])] k n=T120 B c89 p0 p1 p2 p3 (fun s=>A120 B c89 p0 p1 p2 p3 k s n) (K25 k) none:=by kernel_rfl
theorem el120 {R:Type} (B:Ops) (c89:C89) (p0:L78) (p1:L108) (p2:L73) (p3:L193) (k:AV→Objs→Option R) (n:Nat):∀ s,A120 B c89 p0 p1 p2 p3 k s (n+1)=T120 B c89 p0 p1 p2 p3 (fun s=>A120 B c89 p0 p1 p2 p3 k s n) (K25 k) (some s):=by
 intro s
 cases s<;>kernel_rfl
theorem nt120 {R R':Type} (B:Ops) (c89:C89) (p0:L78) (p1:L108) (p2:L73) (p3:L193) (again:S120→Option R) (again':S120→Option R') (k0:(Int×L108×L73×L193)→Option R') (k:R'→Option R) (h:∀ s,again s=ob (again' s) k):∀ s,T120 B c89 p0 p1 p2 p3 again (fun y=>ob (k0 y) k) s=ob (T120 B c89 p0 p1 p2 p3 again' k0 s) k:=by
 rintro (_ | x)
 all_goals try cases x
 all_goals (unfold T120;repeat' first | exact rfl | exact h _ | apply qab | (apply qae;intro))
def R120 (c89:C89) (p0:L78) (p1:L108) (p2:L73) (p3:L193):Nat→S120→Option (Int×L108×L73×L193)
 | 0,_=>none
 | n+1,s=>T120 Ops.std c89 p0 p1 p2 p3 (R120 c89 p0 p1 p2 p3 n) some (some s)
theorem rr120 {R:Type} (c89:C89) (p0:L78) (p1:L108) (p2:L73) (p3:L193) (k:AV→Objs→Option R):∀ (n:Nat) (s:S120),A120 Ops.std c89 p0 p1 p2 p3 k s n=ob (R120 c89 p0 p1 p2 p3 n s) (K25 k)
 | 0,s=>by cases s<;>rfl
 | n+1,s=>by rw [el120];exact nt120 Ops.std c89 p0 p1 p2 p3 _ _ some (K25 k) (rr120 c89 p0 p1 p2 p3 k n) (some s)
def F120 (c89:C89) (p0:L78) (p1:L108) (p2:L73) (p3:L193):Option (Int×L108×L73×L193):=T120 Ops.std c89 p0 p1 p2 p3 (R120 c89 p0 p1 p2 p3 1000000) some none
abbrev C120:Type:=L78→L108→L73→L193→Option (Int×L108×L73×L193)
def e120 {R:Type} (c:C120):Ent R:=eG [.aC (.cL 78 ty78),.aF 89 [.cP 2500]] [.oB 2500 46 [.cL 108 ty108,.cL 73 ty73,.cL 193 ty193]] fun v k=>ob (c v.1 v.2.1 v.2.2.1 v.2.2.2.1) (K25 k)
abbrev Sp120 (c:C120):Prop:=∀ (p0:L78) (p1:L108) (p2:L73) (p3:L193) (y:Int×L108×L73×L193),c p0 p1 p2 p3=some y→Spec Tryd.prog gl0 120 [.c (.list 78 ty78 p0),.fn 89 [.ptr 2500 0]] [(2500,.box 46 [.list 108 ty108 p1,.list 73 ty73 p2,.list 193 ty193 p3])] (.c (.int .i64 y.1)) [(2500,.box 46 [.list 108 ty108 y.2.1,.list 73 ty73 y.2.2.1,.list 193 ty193 y.2.2.2])]
theorem ek120 {R:Type} {c:C120} (hs:Sp120 c):EOk 120 (e120 (R:=R) c):=qag fun v=>hs v.1 v.2.1 v.2.2.1 v.2.2.2.1
theorem sf120 {c89:C89} (h89:Sp89 c89):Sp120 (F120 c89):=fun p0 p1 p2 p3 y hy=>by
 refine qad (qaa (ek89 h89) qac) 1000000 (fn:=Tryd.f120) (by kernel_rfl) (by kernel_rfl) (X:=X120) (by kernel_rfl) ?_
 rw [eq120]
 exact (nt120 Ops.std c89 p0 p1 p2 p3 _ _ some (K25 k0) (rr120 c89 p0 p1 p2 p3 k0 1000000) none).trans (by show ob (F120 c89 p0 p1 p2 p3) _=_;rw [hy];rfl)
noncomputable def M120:C120:=F120 M89
theorem sm120:Sp120 M120:=sf120 sm89
def X88:Aux:=⟨[],[]⟩
def T88 {R:Type} (B:Ops) (c120:C120) (c89:C89) (p0:L78) (p1:L108) (p2:L73) (p3:L193) (k:(Bool×L108×L73×L193)→Option R):Option R:=ob (c120 p0 p1 p2 p3) fun y0=>k (B.le 0 y0.1,y0.2.1,y0.2.2.1,y0.2.2.2)
abbrev K26 {R:Type} (k:AV→Objs→Option R) (y:(Bool×L108×L73×L193)):Option R:=k (.c (.bool y.1)) [(2500,.box 46 [.list 108 ty108 y.2.1,.list 73 ty73 y.2.2.1,.list 193 ty193 y.2.2.2])]
theorem eq88 {R:Type} (B:Ops) (c120:C120) (c89:C89) (p0:L78) (p1:L108) (p2:L73) (p3:L193) (k:AV→Objs→Option R) (n:Nat):afun tau B gl0 X88 (ent 120 (e120 c120) (ent 89 (e89 c89) gnil)) ow Tryd.f88 [.c (.list 78 ty78 p0),.fn 89 [.ptr 2500 0]] [(2500,.box 46 [.list 108 ty108 p1,.list 73 ty73 p2,.list 193 ty193 p3])] k n=T88 B c120 c89 p0 p1 p2 p3 (K26 k):=by kernel_rfl
theorem nt88 {R R':Type} (B:Ops) (c120:C120) (c89:C89) (p0:L78) (p1:L108) (p2:L73) (p3:L193) (k0:(Bool×L108×L73×L193)→Option R') (k:R'→Option R):T88 B c120 c89 p0 p1 p2 p3 (fun y=>ob (k0 y) k)=ob (T88 B c120 c89 p0 p1 p2 p3 k0) k:=by
 unfold T88
 repeat' first | exact rfl | apply qab | (apply qae;intro)
def F88 (c120:C120) (c89:C89) (p0:L78) (p1:L108) (p2:L73) (p3:L193):Option (Bool×L108×L73×L193):=T88 Ops.std c120 c89 p0 p1 p2 p3 some
abbrev C88:Type:=L78→L108→L73→L193→Option (Bool×L108×L73×L193)
def e88 {R:Type} (c:C88):Ent R:=eG [.aC (.cL 78 ty78),.aF 89 [.cP 2500]] [.oB 2500 46 [.cL 108 ty108,.cL 73 ty73,.cL 193 ty193]] fun v k=>ob (c v.1 v.2.1 v.2.2.1 v.2.2.2.1) (K26 k)
abbrev Sp88 (c:C88):Prop:=∀ (p0:L78) (p1:L108) (p2:L73) (p3:L193) (y:Bool×L108×L73×L193),c p0 p1 p2 p3=some y→Spec Tryd.prog gl0 88 [.c (.list 78 ty78 p0),.fn 89 [.ptr 2500 0]] [(2500,.box 46 [.list 108 ty108 p1,.list 73 ty73 p2,.list 193 ty193 p3])] (.c (.bool y.1)) [(2500,.box 46 [.list 108 ty108 y.2.1,.list 73 ty73 y.2.2.1,.list 193 ty193 y.2.2.2])]
theorem ek88 {R:Type} {c:C88} (hs:Sp88 c):EOk 88 (e88 (R:=R) c):=qag fun v=>hs v.1 v.2.1 v.2.2.1 v.2.2.2.1
theorem sf88 {c120:C120} {c89:C89} (h120:Sp120 c120) (h89:Sp89 c89):Sp88 (F88 c120 c89):=fun p0 p1 p2 p3 y hy=>by
 refine qad (qaa (ek120 h120) (qaa (ek89 h89) qac)) 1000000 (fn:=Tryd.f88) (by kernel_rfl) (by kernel_rfl) (X:=X88) (by kernel_rfl) ?_
 rw [eq88]
 exact (nt88 Ops.std c120 c89 p0 p1 p2 p3 some (K26 k0)).trans (by show ob (F88 c120 c89 p0 p1 p2 p3) _=_;rw [hy];rfl)
noncomputable def M88:C88:=F88 M120 M89
theorem sm88:Sp88 M88:=sf88 sm120 sm89
def X47:Aux:=⟨[],[]⟩
def T47 {R:Type} (B:Ops) (c89:C89) (c88:C88) (c48:C48) (p0:L108) (p1:L73) (p2:L193) (p3:L78) (k:(Bool)→Option R):Option R:=ob (c88 p3 p0 p1 p2) fun y0=>ob (c48 p3) fun y1=>cond (y1) (k (!y0.1)) (k false)
theorem eq47 {R:Type} (B:Ops) (c89:C89) (c88:C88) (c48:C48) (p0:L108) (p1:L73) (p2:L193) (p3:L78) (k:AV→Objs→Option R) (n:Nat):afun tau B gl0 X47 (ent 89 (e89 c89) (ent 88 (e88 c88) (ent 48 (e48 c48) gnil))) ow Tryd.f47 [.agg [.list 108 ty108 p0,.list 73 ty73 p1,.list 193 ty193 p2],.c (.list 78 ty78 p3)] [] k n=T47 B c89 c88 c48 p0 p1 p2 p3 (K2 k):=by kernel_rfl
theorem nt47 {R R':Type} (B:Ops) (c89:C89) (c88:C88) (c48:C48) (p0:L108) (p1:L73) (p2:L193) (p3:L78) (k0:(Bool)→Option R') (k:R'→Option R):T47 B c89 c88 c48 p0 p1 p2 p3 (fun y=>ob (k0 y) k)=ob (T47 B c89 c88 c48 p0 p1 p2 p3 k0) k:=by
 unfold T47
 repeat' first | exact rfl | apply qab | (apply qae;intro)
def F47 (c89:C89) (c88:C88) (c48:C48) (p0:L108) (p1:L73) (p2:L193) (p3:L78):Option (Bool):=T47 Ops.std c89 c88 c48 p0 p1 p2 p3 some
abbrev C47:Type:=L108→L73→L193→L78→Option (Bool)
def e47 {R:Type} (c:C47):Ent R:=eG [.aG [.cL 108 ty108,.cL 73 ty73,.cL 193 ty193],.aC (.cL 78 ty78)] [] fun v k=>ob (c v.1 v.2.1 v.2.2.1 v.2.2.2.1) (K2 k)
abbrev Sp47 (c:C47):Prop:=∀ (p0:L108) (p1:L73) (p2:L193) (p3:L78) (y:Bool),c p0 p1 p2 p3=some y→Spec Tryd.prog gl0 47 [.agg [.list 108 ty108 p0,.list 73 ty73 p1,.list 193 ty193 p2],.c (.list 78 ty78 p3)] [] (.c (.bool y)) []
theorem ek47 {R:Type} {c:C47} (hs:Sp47 c):EOk 47 (e47 (R:=R) c):=qag fun v=>hs v.1 v.2.1 v.2.2.1 v.2.2.2.1
theorem sf47 {c89:C89} {c88:C88} {c48:C48} (h89:Sp89 c89) (h88:Sp88 c88) (h48:Sp48 c48):Sp47 (F47 c89 c88 c48):=fun p0 p1 p2 p3 y hy=>by
 refine qad (qaa (ek89 h89) (qaa (ek88 h88) (qaa (ek48 h48) qac))) 1000000 (fn:=Tryd.f47) (by kernel_rfl) (by kernel_rfl) (X:=X47) (by kernel_rfl) ?_
 rw [eq47]
 exact (nt47 Ops.std c89 c88 c48 p0 p1 p2 p3 some (K2 k0)).trans (by show ob (F47 c89 c88 c48 p0 p1 p2 p3) _=_;rw [hy];rfl)
noncomputable def M47:C47:=F47 M89 M88 M48
theorem sm47:Sp47 M47:=sf47 sm89 sm88 sm48
def X13:Aux:=⟨[(5,([0]++rg 3 162)),(10,([0,2]++rg 5 160))],[]⟩
theorem tk38_0:M38 = some true:=by kernel_rfl
def tb38:Option (Bool):=some true
theorem tbs38:Sp38 tb38:=fun y h=>by
 unfold tb38 at h
 cases h
 exact sm38 _ tk38_0
theorem tk44_0:M44 ([116,114,117,101,45,62,102,97,108,115,101,45,62,116,114,117,101]:LB) ([116,114,117,101,32,45,62,32,102,97,108,115,101,32,45,62,32,116,114,117,101]:LB)=some true:=by kernel_rfl
theorem tk44_1:M44 ([40,116,114,117,101,45,62,102,97,108,115,101,41,45,62,116,114,117,101]:LB) ([40,116,114,117,101,32,45,62,32,102,97,108,115,101,41,32,45,62,32,116,114,117,101]:LB)=some true:=by kernel_rfl
theorem tk44_2:M44 ([116,114,117,101,32,85,32,102,97,108,115,101,32,82,32,116,114,117,101]:LB) ([116,114,117,101,32,85,32,102,97,108,115,101,32,82,32,116,114,117,101]:LB)=some true:=by kernel_rfl
theorem tk44_3:M44 ([40,116,114,117,101,32,85,32,102,97,108,115,101,41,32,85,32,116,114,117,101]:LB) ([40,116,114,117,101,32,85,32,102,97,108,115,101,41,32,85,32,116,114,117,101]:LB)=some true:=by kernel_rfl
theorem tk44_4:M44 ([33,88,32,70,32,71,32,116,114,117,101]:LB) ([33,88,32,70,32,71,32,116,114,117,101]:LB)=some true:=by kernel_rfl
theorem tk44_5:M44 ([33,40,116,114,117,101,38,38,102,97,108,115,101,41,124,124,116,114,117,101]:LB) ([33,40,116,114,117,101,32,38,38,32,102,97,108,115,101,41,32,124,124,32,116,114,117,101]:LB)=some true:=by kernel_rfl
theorem tk44_6:M44 ([116,114,117,101,124,124,40,102,97,108,115,101,124,124,116,114,117,101,41]:LB) ([116,114,117,101,32,124,124,32,40,102,97,108,115,101,32,124,124,32,116,114,117,101,41]:LB)=some true:=by kernel_rfl
theorem tk44_7:M44 ([40,116,114,117,101,32,85,32,102,97,108,115,101,41,38,38,116,114,117,101]:LB) ([116,114,117,101,32,85,32,102,97,108,115,101,32,38,38,32,116,114,117,101]:LB)=some true:=by kernel_rfl
def tb44:LB→LB→Option (Bool):=fun p0 p1=>cond ((p0 == ([116,114,117,101,45,62,102,97,108,115,101,45,62,116,114,117,101]:LB)) && ((p1 == ([116,114,117,101,32,45,62,32,102,97,108,115,101,32,45,62,32,116,114,117,101]:LB)))) (some true) (cond ((p0 == ([40,116,114,117,101,45,62,102,97,108,115,101,41,45,62,116,114,117,101]:LB)) && ((p1 == ([40,116,114,117,101,32,45,62,32,102,97,108,115,101,41,32,45,62,32,116,114,117,101]:LB)))) (some true) (cond ((p0 == ([116,114,117,101,32,85,32,102,97,108,115,101,32,82,32,116,114,117,101]:LB)) && ((p1 == ([116,114,117,101,32,85,32,102,97,108,115,101,32,82,32,116,114,117,101]:LB)))) (some true) (cond ((p0 == ([40,116,114,117,101,32,85,32,102,97,108,115,101,41,32,85,32,116,114,117,101]:LB)) && ((p1 == ([40,116,114,117,101,32,85,32,102,97,108,115,101,41,32,85,32,116,114,117,101]:LB)))) (some true) (cond ((p0 == ([33,88,32,70,32,71,32,116,114,117,101]:LB)) && ((p1 == ([33,88,32,70,32,71,32,116,114,117,101]:LB)))) (some true) (cond ((p0 == ([33,40,116,114,117,101,38,38,102,97,108,115,101,41,124,124,116,114,117,101]:LB)) && ((p1 == ([33,40,116,114,117,101,32,38,38,32,102,97,108,115,101,41,32,124,124,32,116,114,117,101]:LB)))) (some true) (cond ((p0 == ([116,114,117,101,124,124,40,102,97,108,115,101,124,124,116,114,117,101,41]:LB)) && ((p1 == ([116,114,117,101,32,124,124,32,40,102,97,108,115,101,32,124,124,32,116,114,117,101,41]:LB)))) (some true) (cond ((p0 == ([40,116,114,117,101,32,85,32,102,97,108,115,101,41,38,38,116,114,117,101]:LB)) && ((p1 == ([116,114,117,101,32,85,32,102,97,108,115,101,32,38,38,32,116,114,117,101]:LB)))) (some true) (none))))))))
theorem tbs44:Sp44 tb44:=fun p0 p1 y h=>by
 unfold tb44 at h
 cases hk:((p0 == ([116,114,117,101,45,62,102,97,108,115,101,45,62,116,114,117,101]:LB)) && ((p1 == ([116,114,117,101,32,45,62,32,102,97,108,115,101,32,45,62,32,116,114,117,101]:LB)))) with
 | true=>
   rw [hk] at h
   simp only [Bool.and_eq_true,beq_iff_eq] at hk
   obtain ⟨rfl,rfl⟩:=hk
   cases h
   exact sm44 _ _ _ tk44_0
 | false=>
   rw [hk] at h
   simp only [cond_false] at h
   cases hk:((p0 == ([40,116,114,117,101,45,62,102,97,108,115,101,41,45,62,116,114,117,101]:LB)) && ((p1 == ([40,116,114,117,101,32,45,62,32,102,97,108,115,101,41,32,45,62,32,116,114,117,101]:LB)))) with
   | true=>
     rw [hk] at h
     simp only [Bool.and_eq_true,beq_iff_eq] at hk
     obtain ⟨rfl,rfl⟩:=hk
     cases h
     exact sm44 _ _ _ tk44_1
   | false=>
     rw [hk] at h
     simp only [cond_false] at h
     cases hk:((p0 == ([116,114,117,101,32,85,32,102,97,108,115,101,32,82,32,116,114,117,101]:LB)) && ((p1 == ([116,114,117,101,32,85,32,102,97,108,115,101,32,82,32,116,114,117,101]:LB)))) with
     | true=>
       rw [hk] at h
       simp only [Bool.and_eq_true,beq_iff_eq] at hk
       obtain ⟨rfl,rfl⟩:=hk
       cases h
       exact sm44 _ _ _ tk44_2
     | false=>
       rw [hk] at h
       simp only [cond_false] at h
       cases hk:((p0 == ([40,116,114,117,101,32,85,32,102,97,108,115,101,41,32,85,32,116,114,117,101]:LB)) && ((p1 == ([40,116,114,117,101,32,85,32,102,97,108,115,101,41,32,85,32,116,114,117,101]:LB)))) with
       | true=>
         rw [hk] at h
         simp only [Bool.and_eq_true,beq_iff_eq] at hk
         obtain ⟨rfl,rfl⟩:=hk
         cases h
         exact sm44 _ _ _ tk44_3
       | false=>
         rw [hk] at h
         simp only [cond_false] at h
         cases hk:((p0 == ([33,88,32,70,32,71,32,116,114,117,101]:LB)) && ((p1 == ([33,88,32,70,32,71,32,116,114,117,101]:LB)))) with
         | true=>
           rw [hk] at h
           simp only [Bool.and_eq_true,beq_iff_eq] at hk
           obtain ⟨rfl,rfl⟩:=hk
           cases h
           exact sm44 _ _ _ tk44_4
         | false=>
           rw [hk] at h
           simp only [cond_false] at h
           cases hk:((p0 == ([33,40,116,114,117,101,38,38,102,97,108,115,101,41,124,124,116,114,117,101]:LB)) && ((p1 == ([33,40,116,114,117,101,32,38,38,32,102,97,108,115,101,41,32,124,124,32,116,114,117,101]:LB)))) with
           | true=>
             rw [hk] at h
             simp only [Bool.and_eq_true,beq_iff_eq] at hk
             obtain ⟨rfl,rfl⟩:=hk
             cases h
             exact sm44 _ _ _ tk44_5
           | false=>
             rw [hk] at h
             simp only [cond_false] at h
             cases hk:((p0 == ([116,114,117,101,124,124,40,102,97,108,115,101,124,124,116,114,117,101,41]:LB)) && ((p1 == ([116,114,117,101,32,124,124,32,40,102,97,108,115,101,32,124,124,32,116,114,117,101,41]:LB)))) with
             | true=>
               rw [hk] at h
               simp only [Bool.and_eq_true,beq_iff_eq] at hk
               obtain ⟨rfl,rfl⟩:=hk
               cases h
               exact sm44 _ _ _ tk44_6
             | false=>
               rw [hk] at h
               simp only [cond_false] at h
               cases hk:((p0 == ([40,116,114,117,101,32,85,32,102,97,108,115,101,41,38,38,116,114,117,101]:LB)) && ((p1 == ([116,114,117,101,32,85,32,102,97,108,115,101,32,38,38,32,116,114,117,101]:LB)))) with
               | true=>
                 rw [hk] at h
                 simp only [Bool.and_eq_true,beq_iff_eq] at hk
                 obtain ⟨rfl,rfl⟩:=hk
                 cases h
                 exact sm44 _ _ _ tk44_7
               | false=>
                 rw [hk] at h
                 simp only [cond_false] at h
                 cases h
theorem tk45_0:M45 ([]:LB) 2 0=some true:=by kernel_rfl
theorem tk45_1:M45 ([116,114,117,101,32,116,114,117,101]:LB) 2 5=some true:=by kernel_rfl
theorem tk45_2:M45 ([120]:LB) 2 0=some true:=by kernel_rfl
theorem tk45_3:M45 ([91,120]:LB) 2 2=some true:=by kernel_rfl
theorem tk45_4:M45 ([91,120,43,93]:LB) 2 3=some true:=by kernel_rfl
theorem tk45_5:M45 ([71]:LB) 2 1=some true:=by kernel_rfl
theorem tk45_6:M45 ([40,116,114,117,101]:LB) 2 5=some true:=by kernel_rfl
theorem tk45_7:M45 ([116,114,117,101,32,85]:LB) 2 6=some true:=by kernel_rfl
theorem tk45_8:M45 ([116,114,117,101,38,38,116,114,117,101,38,38,116,114,117,101,38,38,116,114,117,101,38,38,116,114,117,101,38,38,116,114,117,101,38,38,116,114,117,101,38,38,116,114,117,101,38,38,116,114,117,101,38,38,116,114,117,101,38,38,116,114,117,101,38,38,116,114,117,101,38,38,116,114,117,101]:LB) 13 0=some true:=by kernel_rfl
theorem tk45_9:M45 ([116,114,117,101,32,38,38,32,91,120,43,120,43,120,43,120,43,120,43,120,43,120,43,120,43,120,43,120,43,120,43,120,43,120,43,120,43,120,43,120,93]:LB) 13 8=some true:=by kernel_rfl
def tb45:LB→Int→Int→Option (Bool):=fun p0 p1 p2=>cond ((p0 == ([]:LB)) && ((p1 == 2) && ((p2 == 0)))) (some true) (cond ((p0 == ([116,114,117,101,32,116,114,117,101]:LB)) && ((p1 == 2) && ((p2 == 5)))) (some true) (cond ((p0 == ([120]:LB)) && ((p1 == 2) && ((p2 == 0)))) (some true) (cond ((p0 == ([91,120]:LB)) && ((p1 == 2) && ((p2 == 2)))) (some true) (cond ((p0 == ([91,120,43,93]:LB)) && ((p1 == 2) && ((p2 == 3)))) (some true) (cond ((p0 == ([71]:LB)) && ((p1 == 2) && ((p2 == 1)))) (some true) (cond ((p0 == ([40,116,114,117,101]:LB)) && ((p1 == 2) && ((p2 == 5)))) (some true) (cond ((p0 == ([116,114,117,101,32,85]:LB)) && ((p1 == 2) && ((p2 == 6)))) (some true) (cond ((p0 == ([116,114,117,101,38,38,116,114,117,101,38,38,116,114,117,101,38,38,116,114,117,101,38,38,116,114,117,101,38,38,116,114,117,101,38,38,116,114,117,101,38,38,116,114,117,101,38,38,116,114,117,101,38,38,116,114,117,101,38,38,116,114,117,101,38,38,116,114,117,101,38,38,116,114,117,101]:LB)) && ((p1 == 13) && ((p2 == 0)))) (some true) (cond ((p0 == ([116,114,117,101,32,38,38,32,91,120,43,120,43,120,43,120,43,120,43,120,43,120,43,120,43,120,43,120,43,120,43,120,43,120,43,120,43,120,43,120,93]:LB)) && ((p1 == 13) && ((p2 == 8)))) (some true) (none))))))))))
theorem tbs45:Sp45 tb45:=fun p0 p1 p2 y h=>by
 unfold tb45 at h
 cases hk:((p0 == ([]:LB)) && ((p1 == 2) && ((p2 == 0)))) with
 | true=>
   rw [hk] at h
   simp only [Bool.and_eq_true,beq_iff_eq] at hk
   obtain ⟨rfl,rfl,rfl⟩:=hk
   cases h
   exact sm45 _ _ _ _ tk45_0
 | false=>
   rw [hk] at h
   simp only [cond_false] at h
   cases hk:((p0 == ([116,114,117,101,32,116,114,117,101]:LB)) && ((p1 == 2) && ((p2 == 5)))) with
   | true=>
     rw [hk] at h
     simp only [Bool.and_eq_true,beq_iff_eq] at hk
     obtain ⟨rfl,rfl,rfl⟩:=hk
     cases h
     exact sm45 _ _ _ _ tk45_1
   | false=>
     rw [hk] at h
     simp only [cond_false] at h
     cases hk:((p0 == ([120]:LB)) && ((p1 == 2) && ((p2 == 0)))) with
     | true=>
       rw [hk] at h
       simp only [Bool.and_eq_true,beq_iff_eq] at hk
       obtain ⟨rfl,rfl,rfl⟩:=hk
       cases h
       exact sm45 _ _ _ _ tk45_2
     | false=>
       rw [hk] at h
       simp only [cond_false] at h
       cases hk:((p0 == ([91,120]:LB)) && ((p1 == 2) && ((p2 == 2)))) with
       | true=>
         rw [hk] at h
         simp only [Bool.and_eq_true,beq_iff_eq] at hk
         obtain ⟨rfl,rfl,rfl⟩:=hk
         cases h
         exact sm45 _ _ _ _ tk45_3
       | false=>
         rw [hk] at h
         simp only [cond_false] at h
         cases hk:((p0 == ([91,120,43,93]:LB)) && ((p1 == 2) && ((p2 == 3)))) with
         | true=>
           rw [hk] at h
           simp only [Bool.and_eq_true,beq_iff_eq] at hk
           obtain ⟨rfl,rfl,rfl⟩:=hk
           cases h
           exact sm45 _ _ _ _ tk45_4
         | false=>
           rw [hk] at h
           simp only [cond_false] at h
           cases hk:((p0 == ([71]:LB)) && ((p1 == 2) && ((p2 == 1)))) with
           | true=>
             rw [hk] at h
             simp only [Bool.and_eq_true,beq_iff_eq] at hk
             obtain ⟨rfl,rfl,rfl⟩:=hk
             cases h
             exact sm45 _ _ _ _ tk45_5
           | false=>
             rw [hk] at h
             simp only [cond_false] at h
             cases hk:((p0 == ([40,116,114,117,101]:LB)) && ((p1 == 2) && ((p2 == 5)))) with
             | true=>
               rw [hk] at h
               simp only [Bool.and_eq_true,beq_iff_eq] at hk
               obtain ⟨rfl,rfl,rfl⟩:=hk
               cases h
               exact sm45 _ _ _ _ tk45_6
             | false=>
               rw [hk] at h
               simp only [cond_false] at h
               cases hk:((p0 == ([116,114,117,101,32,85]:LB)) && ((p1 == 2) && ((p2 == 6)))) with
               | true=>
                 rw [hk] at h
                 simp only [Bool.and_eq_true,beq_iff_eq] at hk
                 obtain ⟨rfl,rfl,rfl⟩:=hk
                 cases h
                 exact sm45 _ _ _ _ tk45_7
               | false=>
                 rw [hk] at h
                 simp only [cond_false] at h
                 cases hk:((p0 == ([116,114,117,101,38,38,116,114,117,101,38,38,116,114,117,101,38,38,116,114,117,101,38,38,116,114,117,101,38,38,116,114,117,101,38,38,116,114,117,101,38,38,116,114,117,101,38,38,116,114,117,101,38,38,116,114,117,101,38,38,116,114,117,101,38,38,116,114,117,101,38,38,116,114,117,101]:LB)) && ((p1 == 13) && ((p2 == 0)))) with
                 | true=>
                   rw [hk] at h
                   simp only [Bool.and_eq_true,beq_iff_eq] at hk
                   obtain ⟨rfl,rfl,rfl⟩:=hk
                   cases h
                   exact sm45 _ _ _ _ tk45_8
                 | false=>
                   rw [hk] at h
                   simp only [cond_false] at h
                   cases hk:((p0 == ([116,114,117,101,32,38,38,32,91,120,43,120,43,120,43,120,43,120,43,120,43,120,43,120,43,120,43,120,43,120,43,120,43,120,43,120,43,120,43,120,93]:LB)) && ((p1 == 13) && ((p2 == 8)))) with
                   | true=>
                     rw [hk] at h
                     simp only [Bool.and_eq_true,beq_iff_eq] at hk
                     obtain ⟨rfl,rfl,rfl⟩:=hk
                     cases h
                     exact sm45 _ _ _ _ tk45_9
                   | false=>
                     rw [hk] at h
                     simp only [cond_false] at h
                     cases h
abbrev C13:Type:=Option (Bool)
abbrev Sp13 (c:C13):Prop:=∀ (y:Bool),c=some y→Spec Tryd.prog gl0 13 [] [] (.c (.bool y)) []
def M13:Option (Bool):=some true
theorem sm13:Sp13 M13:=fun y hy=>by
 cases hy
 exact qad (G:=ent 38 (e38 tb38) (ent 39 (e39 M39) (ent 41 (e41 M41) (ent 44 (e44 tb44) (ent 45 (e45 tb45) (ent 46 (e46 M46) (ent 47 (e47 M47) (ent 48 (e48 M48) (ent 42 (e42 M42) (gnil)))))))))) (qaa (ek38 tbs38) (qaa (ek39 sm39) (qaa (ek41 sm41) (qaa (ek44 tbs44) (qaa (ek45 tbs45) (qaa (ek46 sm46) (qaa (ek47 sm47) (qaa (ek48 sm48) (qaa (ek42 sm42) (qac)))))))))) 1000000 (fn:=Tryd.f13) (by kernel_rfl) (by kernel_rfl) (X:=X13) (by kernel_rfl) (by kernel_rfl)
end Go.Proofs.YtkmpkebaloejhaaDoor.Av
