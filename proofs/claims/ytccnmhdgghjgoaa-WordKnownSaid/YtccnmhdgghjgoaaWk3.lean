/- Twins of functions,printed by gen.py. Conditions: none. -/
import Derived.Test.YtccnmhdgghjgoaaWk2
import Derived.KernelRfl
set_option linter.unusedSimpArgs false
set_option linter.unusedVariables false
set_option maxRecDepth 100000
set_option maxHeartbeats 8000000
namespace Go.Proofs.Ytccnmhdgghjgoaa.Av
open Go
def X46:Aux:=⟨[(4,([0,1]++rg 4 27++rg 34 49)),(10,([0,1,2]++rg 4 53++rg 60 23))],[(6,.lin (rg 0 17)),(12,.lin (rg 0 18))]⟩
inductive S46 where
 | l0 (v1 v2:Int)
 | l1 (v1 v2:Int)
def T46 {R:Type} (B:Ops) (c43:C43) (p0:L70) (p1:L73) (p2:L124) (p3 p4:L3) (again:S46→Option R) (k:(Bool)→Option R):Option S46→Option R | none=>ob (c43 p0 p1 p2) fun y0=>cond (!y0) (k false) (cond (!B.eq (↑p3.length) (↑p1.length)) (k false) (cond (!B.eq (↑p4.length) (↑p0.length)) (k false) (again (.l0 (↑p1.length) 0)))) | some (.l0 v1 v2)=>cond (B.lt v2 v1) (cond (B.inb v2 p1.length) (cond (B.inb v2 p3.length) (cond (B.lt (p3.getD v2.toNat ty3.dflt) 0) (k false) (cond (B.inb v2 p3.length) (cond (B.le (Nat.cast (List.length (p1.getD v2.toNat ty73.dflt).2)) (p3.getD v2.toNat ty3.dflt)) (k false) (again (.l0 v1 (IntKind.wrap .i64 (v2+1))))) none)) none) none) (again (.l1 (↑p0.length) 0)) | some (.l1 v1 v2)=>cond (B.lt v2 v1) (cond (B.inb v2 p0.length) (cond (B.inb v2 p4.length) (cond (B.lt (p4.getD v2.toNat ty3.dflt) ((p0.getD v2.toNat ty70.dflt).2).1) (k false) (cond (B.inb v2 p4.length) (cond (B.lt (((p0.getD v2.toNat ty70.dflt).2).2).1 (p4.getD v2.toNat ty3.dflt)) (k false) (again (.l1 v1 (IntKind.wrap .i64 (v2+1))))) none)) none) none) (k true)
def E46 (p0:L70) (p1:L73) (p2:L124) (p3 p4:L3):S46→List AV×Objs
 | .l0 v1 v2=>(mk 83 [(2,.c (.ptr 2 0)),(3,.c (.ptr 3 0)),(31,.c (.list 73 ty73 p1)),(32,.c (.int .i64 v1)),(33,.c (.int .i64 v2))],[(2,.box 41 [.list 70 ty70 p0,.list 73 ty73 p1,.list 124 ty124 p2]),(3,.box 75 [.list 3 ty3 p3,.list 3 ty3 p4])])
 | .l1 v1 v2=>(mk 83 [(3,.c (.ptr 3 0)),(57,.c (.list 70 ty70 p0)),(58,.c (.int .i64 v1)),(59,.c (.int .i64 v2))],[(3,.box 75 [.list 3 ty3 p3,.list 3 ty3 p4])])
def I46:S46→Nat
 | .l0 _ _=>0
 | .l1 _ _=>1
noncomputable abbrev A46 {R:Type} (B:Ops) (c43:C43) (p0:L70) (p1:L73) (p2:L124) (p3 p4:L3) (k:AV→Objs→Option R) (s:S46) (n:Nat):Option R:=aloop tau B gl0 X46 (ent 43 (e43 c43) gnil) ow [] Try.f46 k (I46 s) (E46 p0 p1 p2 p3 p4 s) n
theorem eq46 {R:Type} (B:Ops) (c43:C43) (p0:L70) (p1:L73) (p2:L124) (p3 p4:L3) (k:AV→Objs→Option R) (n:Nat):afun tau B gl0 X46 (ent 43 (e43 c43) gnil) ow Try.f46 [.agg [.list 70 ty70 p0,.list 73 ty73 p1,.list 124 ty124 p2],.agg [.list 3 ty3 p3,.list 3 ty3 p4]] [] k n=T46 B c43 p0 p1 p2 p3 p4 (fun s=>A46 B c43 p0 p1 p2 p3 p4 k s n) (K1 k) none:=by kernel_rfl
theorem el46 {R:Type} (B:Ops) (c43:C43) (p0:L70) (p1:L73) (p2:L124) (p3 p4:L3) (k:AV→Objs→Option R) (n:Nat):∀ s,A46 B c43 p0 p1 p2 p3 p4 k s (n+1)=T46 B c43 p0 p1 p2 p3 p4 (fun s=>A46 B c43 p0 p1 p2 p3 p4 k s n) (K1 k) (some s):=by
 intro s
 cases s<;>kernel_rfl
theorem nt46 {R R':Type} (B:Ops) (c43:C43) (p0:L70) (p1:L73) (p2:L124) (p3 p4:L3) (again:S46→Option R) (again':S46→Option R') (k0:(Bool)→Option R') (k:R'→Option R) (h:∀ s,again s=ob (again' s) k):∀ s,T46 B c43 p0 p1 p2 p3 p4 again (fun y=>ob (k0 y) k) s=ob (T46 B c43 p0 p1 p2 p3 p4 again' k0 s) k:=by
 rintro (_ | x)
 all_goals try cases x
 all_goals (unfold T46;repeat' first | exact rfl | exact h _ | apply qaa | (apply qaf;intro))
def R46 (c43:C43) (p0:L70) (p1:L73) (p2:L124) (p3 p4:L3):Nat→S46→Option (Bool)
 | 0,_=>none
 | n+1,s=>T46 Ops.std c43 p0 p1 p2 p3 p4 (R46 c43 p0 p1 p2 p3 p4 n) some (some s)
theorem rr46 {R:Type} (c43:C43) (p0:L70) (p1:L73) (p2:L124) (p3 p4:L3) (k:AV→Objs→Option R):∀ (n:Nat) (s:S46),A46 Ops.std c43 p0 p1 p2 p3 p4 k s n=ob (R46 c43 p0 p1 p2 p3 p4 n s) (K1 k)
 | 0,s=>by cases s<;>rfl
 | n+1,s=>by rw [el46];exact nt46 Ops.std c43 p0 p1 p2 p3 p4 _ _ some (K1 k) (rr46 c43 p0 p1 p2 p3 p4 k n) (some s)
def F46 (c43:C43) (p0:L70) (p1:L73) (p2:L124) (p3 p4:L3):Option (Bool):=T46 Ops.std c43 p0 p1 p2 p3 p4 (R46 c43 p0 p1 p2 p3 p4 1000000) some none
abbrev C46:Type:=L70→L73→L124→L3→L3→Option (Bool)
def e46 {R:Type} (c:C46):Ent R:=eG [.aG [.cL 70 ty70,.cL 73 ty73,.cL 124 ty124],.aG [.cL 3 ty3,.cL 3 ty3]] [] fun v k=>ob (c v.1 v.2.1 v.2.2.1 v.2.2.2.1 v.2.2.2.2.1) (K1 k)
abbrev Sp46 (c:C46):Prop:=∀ (p0:L70) (p1:L73) (p2:L124) (p3 p4:L3) (y:Bool),c p0 p1 p2 p3 p4=some y→Spec Try.prog gl0 46 [.agg [.list 70 ty70 p0,.list 73 ty73 p1,.list 124 ty124 p2],.agg [.list 3 ty3 p3,.list 3 ty3 p4]] [] (.c (.bool y)) []
theorem ek46 {R:Type} {c:C46} (hs:Sp46 c):EOk 46 (e46 (R:=R) c):=qah fun v=>hs v.1 v.2.1 v.2.2.1 v.2.2.2.1 v.2.2.2.2.1
theorem sf46 {c43:C43} (h43:Sp43 c43):Sp46 (F46 c43):=fun p0 p1 p2 p3 p4 y hy=>by
 refine qae (qac (ek43 h43) qad) 1000000 (fn:=Try.f46) (by kernel_rfl) (by kernel_rfl) (X:=X46) (by kernel_rfl) ?_
 rw [eq46]
 exact (nt46 Ops.std c43 p0 p1 p2 p3 p4 _ _ some (K1 k0) (rr46 c43 p0 p1 p2 p3 p4 k0 1000000) none).trans (by show ob (F46 c43 p0 p1 p2 p3 p4) _=_;rw [hy];rfl)
noncomputable def M46:C46:=F46 M43
theorem sm46:Sp46 M46:=sf46 sm43
def X45:Aux:=⟨[],[]⟩
def T45 {R:Type} (B:Ops) (c46:C46) (p0 p1 p2:L3) (p3:L70) (p4:L73) (p5:L124) (k:(Bool×L70×L73×L124)→Option R):Option R:=ob (c46 p3 p4 p5 p0 p1) fun y0=>k (!y0,p3,p4,p5)
theorem eq45 {R:Type} (B:Ops) (c46:C46) (p0 p1 p2:L3) (p3:L70) (p4:L73) (p5:L124) (k:AV→Objs→Option R) (n:Nat):afun tau B gl0 X45 (ent 46 (e46 c46) gnil) ow Try.f45 [.agg [.list 3 ty3 p0,.list 3 ty3 p1,.list 3 ty3 p2],.c (.ptr 1 0)] [(1,.box 41 [.list 70 ty70 p3,.list 73 ty73 p4,.list 124 ty124 p5])] k n=T45 B c46 p0 p1 p2 p3 p4 p5 (K17 k):=by kernel_rfl
theorem nt45 {R R':Type} (B:Ops) (c46:C46) (p0 p1 p2:L3) (p3:L70) (p4:L73) (p5:L124) (k0:(Bool×L70×L73×L124)→Option R') (k:R'→Option R):T45 B c46 p0 p1 p2 p3 p4 p5 (fun y=>ob (k0 y) k)=ob (T45 B c46 p0 p1 p2 p3 p4 p5 k0) k:=by
 unfold T45
 repeat' first | exact rfl | apply qaa | (apply qaf;intro)
def F45 (c46:C46) (p0 p1 p2:L3) (p3:L70) (p4:L73) (p5:L124):Option (Bool×L70×L73×L124):=T45 Ops.std c46 p0 p1 p2 p3 p4 p5 some
abbrev C45:Type:=L3→L3→L3→L70→L73→L124→Option (Bool×L70×L73×L124)
def e45 {R:Type} (c:C45):Ent R:=eG [.aG [.cL 3 ty3,.cL 3 ty3,.cL 3 ty3],.aC (.cP 1)] [.oB 1 41 [.cL 70 ty70,.cL 73 ty73,.cL 124 ty124]] fun v k=>ob (c v.1 v.2.1 v.2.2.1 v.2.2.2.1 v.2.2.2.2.1 v.2.2.2.2.2.1) (K17 k)
abbrev Sp45 (c:C45):Prop:=∀ (p0 p1 p2:L3) (p3:L70) (p4:L73) (p5:L124) (y:Bool×L70×L73×L124),c p0 p1 p2 p3 p4 p5=some y→Spec Try.prog gl0 45 [.agg [.list 3 ty3 p0,.list 3 ty3 p1,.list 3 ty3 p2],.c (.ptr 1 0)] [(1,.box 41 [.list 70 ty70 p3,.list 73 ty73 p4,.list 124 ty124 p5])] (.c (.bool y.1)) [(1,.box 41 [.list 70 ty70 y.2.1,.list 73 ty73 y.2.2.1,.list 124 ty124 y.2.2.2])]
theorem ek45 {R:Type} {c:C45} (hs:Sp45 c):EOk 45 (e45 (R:=R) c):=qah fun v=>hs v.1 v.2.1 v.2.2.1 v.2.2.2.1 v.2.2.2.2.1 v.2.2.2.2.2.1
theorem sf45 {c46:C46} (h46:Sp46 c46):Sp45 (F45 c46):=fun p0 p1 p2 p3 p4 p5 y hy=>by
 refine qae (qac (ek46 h46) qad) 1000000 (fn:=Try.f45) (by kernel_rfl) (by kernel_rfl) (X:=X45) (by kernel_rfl) ?_
 rw [eq45]
 exact (nt45 Ops.std c46 p0 p1 p2 p3 p4 p5 some (K17 k0)).trans (by show ob (F45 c46 p0 p1 p2 p3 p4 p5) _=_;rw [hy];rfl)
noncomputable def M45:C45:=F45 M46
theorem sm45:Sp45 M45:=sf45 sm46
def X84:Aux:=⟨[(2,([2,3,4,5,6]++rg 9 10))],[]⟩
inductive S84 where
 | l0 (v1 v2:Int) (v3:L70) (v4:L73) (v5:L124)
def T84 {R:Type} (B:Ops) (c45:C45) (p0:L77) (p1:L70) (p2:L73) (p3:L124) (again:S84→Option R) (k:(Int×L70×L73×L124)→Option R):Option S84→Option R | none=>again (.l0 (↑p0.length) 0 p1 p2 p3) | some (.l0 v1 v2 v3 v4 v5)=>cond (B.lt v2 v1) (cond (B.inb v2 p0.length) (ob (c45 ((p0.getD v2.toNat ty77.dflt).1).1 ((p0.getD v2.toNat ty77.dflt).1).2 (p0.getD v2.toNat ty77.dflt).2 v3 v4 v5) fun y0=>cond y0.1 (k (v2,y0.2.1,y0.2.2.1,y0.2.2.2)) (again (.l0 v1 (IntKind.wrap .i64 (v2+1)) y0.2.1 y0.2.2.1 y0.2.2.2))) none) (k (-1,v3,v4,v5))
def E84 (p0:L77) (p1:L70) (p2:L73) (p3:L124):S84→List AV×Objs
 | .l0 v1 v2 v3 v4 v5=>(mk 19 [(0,.c (.list 77 ty77 p0)),(1,.fn 45 [.ptr 2500 0]),(7,.c (.int .i64 v1)),(8,.c (.int .i64 v2))],[(2500,.box 41 [.list 70 ty70 v3,.list 73 ty73 v4,.list 124 ty124 v5])])
def I84:S84→Nat
 | .l0 _ _ _ _ _=>0
noncomputable abbrev A84 {R:Type} (B:Ops) (c45:C45) (p0:L77) (p1:L70) (p2:L73) (p3:L124) (k:AV→Objs→Option R) (s:S84) (n:Nat):Option R:=aloop tau B gl0 X84 (ent 45 (e45 c45) gnil) ow [2500] Try.f84 k (I84 s) (E84 p0 p1 p2 p3 s) n
theorem eq84 {R:Type} (B:Ops) (c45:C45) (p0:L77) (p1:L70) (p2:L73) (p3:L124) (k:AV→Objs→Option R) (n:Nat):afun tau B gl0 X84 (ent 45 (e45 c45) gnil) ow Try.f84 [.c (.list 77 ty77 p0),.fn 45 [.ptr 2500 0]] [(2500,.box 41 [.list 70 ty70 p1,.list 73 ty73 p2,.list 124 ty124 p3])] k n=T84 B c45 p0 p1 p2 p3 (fun s=>A84 B c45 p0 p1 p2 p3 k s n) (K18 k) none:=by kernel_rfl
theorem el84 {R:Type} (B:Ops) (c45:C45) (p0:L77) (p1:L70) (p2:L73) (p3:L124) (k:AV→Objs→Option R) (n:Nat):∀ s,A84 B c45 p0 p1 p2 p3 k s (n+1)=T84 B c45 p0 p1 p2 p3 (fun s=>A84 B c45 p0 p1 p2 p3 k s n) (K18 k) (some s):=by
 intro s
 cases s<;>kernel_rfl
theorem nt84 {R R':Type} (B:Ops) (c45:C45) (p0:L77) (p1:L70) (p2:L73) (p3:L124) (again:S84→Option R) (again':S84→Option R') (k0:(Int×L70×L73×L124)→Option R') (k:R'→Option R) (h:∀ s,again s=ob (again' s) k):∀ s,T84 B c45 p0 p1 p2 p3 again (fun y=>ob (k0 y) k) s=ob (T84 B c45 p0 p1 p2 p3 again' k0 s) k:=by
 rintro (_ | x)
 all_goals try cases x
 all_goals (unfold T84;repeat' first | exact rfl | exact h _ | apply qaa | (apply qaf;intro))
def R84 (c45:C45) (p0:L77) (p1:L70) (p2:L73) (p3:L124):Nat→S84→Option (Int×L70×L73×L124)
 | 0,_=>none
 | n+1,s=>T84 Ops.std c45 p0 p1 p2 p3 (R84 c45 p0 p1 p2 p3 n) some (some s)
theorem rr84 {R:Type} (c45:C45) (p0:L77) (p1:L70) (p2:L73) (p3:L124) (k:AV→Objs→Option R):∀ (n:Nat) (s:S84),A84 Ops.std c45 p0 p1 p2 p3 k s n=ob (R84 c45 p0 p1 p2 p3 n s) (K18 k)
 | 0,s=>by cases s<;>rfl
 | n+1,s=>by rw [el84];exact nt84 Ops.std c45 p0 p1 p2 p3 _ _ some (K18 k) (rr84 c45 p0 p1 p2 p3 k n) (some s)
def F84 (c45:C45) (p0:L77) (p1:L70) (p2:L73) (p3:L124):Option (Int×L70×L73×L124):=T84 Ops.std c45 p0 p1 p2 p3 (R84 c45 p0 p1 p2 p3 1000000) some none
abbrev C84:Type:=L77→L70→L73→L124→Option (Int×L70×L73×L124)
def e84 {R:Type} (c:C84):Ent R:=eG [.aC (.cL 77 ty77),.aF 45 [.cP 2500]] [.oB 2500 41 [.cL 70 ty70,.cL 73 ty73,.cL 124 ty124]] fun v k=>ob (c v.1 v.2.1 v.2.2.1 v.2.2.2.1) (K18 k)
abbrev Sp84 (c:C84):Prop:=∀ (p0:L77) (p1:L70) (p2:L73) (p3:L124) (y:Int×L70×L73×L124),c p0 p1 p2 p3=some y→Spec Try.prog gl0 84 [.c (.list 77 ty77 p0),.fn 45 [.ptr 2500 0]] [(2500,.box 41 [.list 70 ty70 p1,.list 73 ty73 p2,.list 124 ty124 p3])] (.c (.int .i64 y.1)) [(2500,.box 41 [.list 70 ty70 y.2.1,.list 73 ty73 y.2.2.1,.list 124 ty124 y.2.2.2])]
theorem ek84 {R:Type} {c:C84} (hs:Sp84 c):EOk 84 (e84 (R:=R) c):=qah fun v=>hs v.1 v.2.1 v.2.2.1 v.2.2.2.1
theorem sf84 {c45:C45} (h45:Sp45 c45):Sp84 (F84 c45):=fun p0 p1 p2 p3 y hy=>by
 refine qae (qac (ek45 h45) qad) 1000000 (fn:=Try.f84) (by kernel_rfl) (by kernel_rfl) (X:=X84) (by kernel_rfl) ?_
 rw [eq84]
 exact (nt84 Ops.std c45 p0 p1 p2 p3 _ _ some (K18 k0) (rr84 c45 p0 p1 p2 p3 k0 1000000) none).trans (by show ob (F84 c45 p0 p1 p2 p3) _=_;rw [hy];rfl)
noncomputable def M84:C84:=F84 M45
theorem sm84:Sp84 M84:=sf84 sm45
def X44:Aux:=⟨[],[]⟩
def T44 {R:Type} (B:Ops) (c84:C84) (c45:C45) (p0:L77) (p1:L70) (p2:L73) (p3:L124) (k:(Bool×L70×L73×L124)→Option R):Option R:=ob (c84 p0 p1 p2 p3) fun y0=>k (B.le 0 y0.1,y0.2.1,y0.2.2.1,y0.2.2.2)
theorem eq44 {R:Type} (B:Ops) (c84:C84) (c45:C45) (p0:L77) (p1:L70) (p2:L73) (p3:L124) (k:AV→Objs→Option R) (n:Nat):afun tau B gl0 X44 (ent 84 (e84 c84) (ent 45 (e45 c45) gnil)) ow Try.f44 [.c (.list 77 ty77 p0),.fn 45 [.ptr 2500 0]] [(2500,.box 41 [.list 70 ty70 p1,.list 73 ty73 p2,.list 124 ty124 p3])] k n=T44 B c84 c45 p0 p1 p2 p3 (K19 k):=by kernel_rfl
theorem nt44 {R R':Type} (B:Ops) (c84:C84) (c45:C45) (p0:L77) (p1:L70) (p2:L73) (p3:L124) (k0:(Bool×L70×L73×L124)→Option R') (k:R'→Option R):T44 B c84 c45 p0 p1 p2 p3 (fun y=>ob (k0 y) k)=ob (T44 B c84 c45 p0 p1 p2 p3 k0) k:=by
 unfold T44
 repeat' first | exact rfl | apply qaa | (apply qaf;intro)
def F44 (c84:C84) (c45:C45) (p0:L77) (p1:L70) (p2:L73) (p3:L124):Option (Bool×L70×L73×L124):=T44 Ops.std c84 c45 p0 p1 p2 p3 some
abbrev C44:Type:=L77→L70→L73→L124→Option (Bool×L70×L73×L124)
def e44 {R:Type} (c:C44):Ent R:=eG [.aC (.cL 77 ty77),.aF 45 [.cP 2500]] [.oB 2500 41 [.cL 70 ty70,.cL 73 ty73,.cL 124 ty124]] fun v k=>ob (c v.1 v.2.1 v.2.2.1 v.2.2.2.1) (K19 k)
abbrev Sp44 (c:C44):Prop:=∀ (p0:L77) (p1:L70) (p2:L73) (p3:L124) (y:Bool×L70×L73×L124),c p0 p1 p2 p3=some y→Spec Try.prog gl0 44 [.c (.list 77 ty77 p0),.fn 45 [.ptr 2500 0]] [(2500,.box 41 [.list 70 ty70 p1,.list 73 ty73 p2,.list 124 ty124 p3])] (.c (.bool y.1)) [(2500,.box 41 [.list 70 ty70 y.2.1,.list 73 ty73 y.2.2.1,.list 124 ty124 y.2.2.2])]
theorem ek44 {R:Type} {c:C44} (hs:Sp44 c):EOk 44 (e44 (R:=R) c):=qah fun v=>hs v.1 v.2.1 v.2.2.1 v.2.2.2.1
theorem sf44 {c84:C84} {c45:C45} (h84:Sp84 c84) (h45:Sp45 c45):Sp44 (F44 c84 c45):=fun p0 p1 p2 p3 y hy=>by
 refine qae (qac (ek84 h84) (qac (ek45 h45) qad)) 1000000 (fn:=Try.f44) (by kernel_rfl) (by kernel_rfl) (X:=X44) (by kernel_rfl) ?_
 rw [eq44]
 exact (nt44 Ops.std c84 c45 p0 p1 p2 p3 some (K19 k0)).trans (by show ob (F44 c84 c45 p0 p1 p2 p3) _=_;rw [hy];rfl)
noncomputable def M44:C44:=F44 M84 M45
theorem sm44:Sp44 M44:=sf44 sm84 sm45
abbrev K24 {R:Type} (k:AV→Objs→Option R) (y:(L3)):Option R:=k (.c (.own 500)) [(500,.row 3 ty3 y)]
abbrev C53:Type:=L3→Option (L3)
def e53 {R:Type} (c:C53):Ent R:=eG [.aC (.cL 3 ty3)] [] fun v k=>ob (c v.1) (K24 k)
abbrev Sp53 (c:C53):Prop:=∀ (p0 y:L3),c p0=some y→Spec Try.prog gl0 53 [.c (.list 3 ty3 p0)] [] (.c (.own 500)) [(500,.row 3 ty3 y)]
theorem ek53 {R:Type} {c:C53} (hs:Sp53 c):EOk 53 (e53 (R:=R) c):=qah fun v=>hs v.1
def M53:L3→Option (L3):=cloneF (t:=ty3) 8
theorem sm53:Sp53 M53:=by
 have h:∀ (B:Ops) (xs:List (Ty.den ty3)) (k:AV→Objs→Option AO),afun tau B gl0 X0 gnil ow Try.f53 [.c (.list 3 ty3 xs)] [] k 1=cloneT B 3 8 ty3 xs k:=fun B xs k=>by kernel_rfl
 refine clone_sp (fun xs v o h0=>?_) fun b=>?_
 ·exact qae (G:=gnil) qad 1 (fn:=Try.f53) (by kernel_rfl) (by kernel_rfl) (X:=X0) (by kernel_rfl) ((h _ _ _).trans h0)
 ·cases b<;>exact qae (G:=gnil) qad 1 (fn:=Try.f53) (by kernel_rfl) (by kernel_rfl) (X:=X0) (by kernel_rfl) (by kernel_rfl)
def X27:Aux:=⟨[(6,([0,1,2,5,6,7,8,9,10]++rg 14 25))],[]⟩
inductive S27 where
 | l0 (v1 v2:Int) (v3:L27) (v4:L3)
def T27 {R:Type} (B:Ops) (c51:C51) (c52:C52) (c53:C53) (p0:L36) (again:S27→Option R) (k:(L27)→Option R):Option S27→Option R | none=>ob (c51 p0) fun y0=>cond (!y0) (k (mt (Ty.den ty27))) (again (.l0 (↑p0.length) 0 (mt (Ty.den ty27)) (mt (Ty.den (Ty.int .i64))))) | some (.l0 v1 v2 v3 v4)=>cond (B.lt v2 v1) (cond (B.inb v2 p0.length) (ob (c52 (p0.getD v2.toNat ty36.dflt).1) fun y0=>cond (B.inb (IntKind.wrap .i64 (Nat.cast v4.length-y0)) (List.length v4+1)) (ob (c53 (List.drop (Int.toNat (IntKind.wrap .i64 (Nat.cast v4.length-y0))) (List.take v4.length v4))) fun y1=>cond (B.lim (List.length v3+List.length (y1::mt (Ty.den ty27))) 24) (cond (B.inb (IntKind.wrap .i64 (Nat.cast v4.length-y0)) (List.length v4+1)) (cond (B.lim (List.length (List.take (Int.toNat (IntKind.wrap .i64 (Nat.cast v4.length-y0))) v4)+List.length (v2::mt (Ty.den (Ty.int .i64)))) 8) (again (.l0 v1 (IntKind.wrap .i64 (v2+1)) (v3++y1::mt (Ty.den ty27)) (List.take (Int.toNat (IntKind.wrap .i64 (Nat.cast v4.length-y0))) v4++v2::mt (Ty.den (Ty.int .i64))))) none) none) none) none) none) (k v3)
def E27 (p0:L36):S27→List AV×Objs
 | .l0 v1 v2 v3 v4=>(mk 39 [(3,.c (.own 3)),(4,.c (.own 4)),(11,.c (.list 36 ty36 p0)),(12,.c (.int .i64 v1)),(13,.c (.int .i64 v2))],[(3,.row 27 ty27 v3),(4,.row 3 ty3 v4)])
def I27:S27→Nat
 | .l0 _ _ _ _=>0
abbrev K25 {R:Type} (k:AV→Objs→Option R) (y:(L27)):Option R:=k (.c (.own 500)) [(500,.row 27 ty27 y)]
noncomputable abbrev A27 {R:Type} (B:Ops) (c51:C51) (c52:C52) (c53:C53) (p0:L36) (k:AV→Objs→Option R) (s:S27) (n:Nat):Option R:=aloop tau B gl0 X27 (ent 51 (e51 c51) (ent 52 (e52 c52) (ent 53 (e53 c53) gnil))) ow [] Try.f27 k (I27 s) (E27 p0 s) n
theorem eq27 {R:Type} (B:Ops) (c51:C51) (c52:C52) (c53:C53) (p0:L36) (k:AV→Objs→Option R) (n:Nat):afun tau B gl0 X27 (ent 51 (e51 c51) (ent 52 (e52 c52) (ent 53 (e53 c53) gnil))) ow Try.f27 [.c (.list 36 ty36 p0)] [] k n=T27 B c51 c52 c53 p0 (fun s=>A27 B c51 c52 c53 p0 k s n) (K25 k) none:=by kernel_rfl
theorem el27 {R:Type} (B:Ops) (c51:C51) (c52:C52) (c53:C53) (p0:L36) (k:AV→Objs→Option R) (n:Nat):∀ s,A27 B c51 c52 c53 p0 k s (n+1)=T27 B c51 c52 c53 p0 (fun s=>A27 B c51 c52 c53 p0 k s n) (K25 k) (some s):=by
 intro s
 cases s<;>kernel_rfl
theorem nt27 {R R':Type} (B:Ops) (c51:C51) (c52:C52) (c53:C53) (p0:L36) (again:S27→Option R) (again':S27→Option R') (k0:(L27)→Option R') (k:R'→Option R) (h:∀ s,again s=ob (again' s) k):∀ s,T27 B c51 c52 c53 p0 again (fun y=>ob (k0 y) k) s=ob (T27 B c51 c52 c53 p0 again' k0 s) k:=by
 rintro (_ | x)
 all_goals try cases x
 all_goals (unfold T27;repeat' first | exact rfl | exact h _ | apply qaa | (apply qaf;intro))
def R27 (c51:C51) (c52:C52) (c53:C53) (p0:L36):Nat→S27→Option (L27)
 | 0,_=>none
 | n+1,s=>T27 Ops.std c51 c52 c53 p0 (R27 c51 c52 c53 p0 n) some (some s)
theorem rr27 {R:Type} (c51:C51) (c52:C52) (c53:C53) (p0:L36) (k:AV→Objs→Option R):∀ (n:Nat) (s:S27),A27 Ops.std c51 c52 c53 p0 k s n=ob (R27 c51 c52 c53 p0 n s) (K25 k)
 | 0,s=>by cases s<;>rfl
 | n+1,s=>by rw [el27];exact nt27 Ops.std c51 c52 c53 p0 _ _ some (K25 k) (rr27 c51 c52 c53 p0 k n) (some s)
def F27 (c51:C51) (c52:C52) (c53:C53) (p0:L36):Option (L27):=T27 Ops.std c51 c52 c53 p0 (R27 c51 c52 c53 p0 1000000) some none
abbrev C27:Type:=L36→Option (L27)
def e27 {R:Type} (c:C27):Ent R:=eG [.aC (.cL 36 ty36)] [] fun v k=>ob (c v.1) (K25 k)
abbrev Sp27 (c:C27):Prop:=∀ (p0:L36) (y:L27),c p0=some y→Spec Try.prog gl0 27 [.c (.list 36 ty36 p0)] [] (.c (.own 500)) [(500,.row 27 ty27 y)]
theorem ek27 {R:Type} {c:C27} (hs:Sp27 c):EOk 27 (e27 (R:=R) c):=qah fun v=>hs v.1
theorem sf27 {c51:C51} {c52:C52} {c53:C53} (h51:Sp51 c51) (h52:Sp52 c52) (h53:Sp53 c53):Sp27 (F27 c51 c52 c53):=fun p0 y hy=>by
 refine qae (qac (ek51 h51) (qac (ek52 h52) (qac (ek53 h53) qad))) 1000000 (fn:=Try.f27) (by kernel_rfl) (by kernel_rfl) (X:=X27) (by kernel_rfl) ?_
 rw [eq27]
 exact (nt27 Ops.std c51 c52 c53 p0 _ _ some (K25 k0) (rr27 c51 c52 c53 p0 k0 1000000) none).trans (by show ob (F27 c51 c52 c53 p0) _=_;rw [hy];rfl)
noncomputable def M27:C27:=F27 M51 M52 M53
theorem sm27:Sp27 M27:=sf27 sm51 sm52 sm53
def X72:Aux:=⟨[],[]⟩
def T72 {R:Type} (B:Ops) (p0:Int) (k:(Bool)→Option R):Option R:=k true
theorem eq72 {R:Type} (B:Ops) (p0:Int) (k:AV→Objs→Option R) (n:Nat):afun tau B gl0 X72 gnil ow Try.f72 [.c (.int .i64 p0)] [] k n=T72 B p0 (K1 k):=by kernel_rfl
theorem nt72 {R R':Type} (B:Ops) (p0:Int) (k0:(Bool)→Option R') (k:R'→Option R):T72 B p0 (fun y=>ob (k0 y) k)=ob (T72 B p0 k0) k:=by
 unfold T72
 repeat' first | exact rfl | apply qaa | (apply qaf;intro)
def F72 (p0:Int):Option (Bool):=T72 Ops.std p0 some
abbrev C72:Type:=Int→Option (Bool)
def e72 {R:Type} (c:C72):Ent R:=eG [.aC (.cI .i64)] [] fun v k=>ob (c v.1) (K1 k)
abbrev Sp72 (c:C72):Prop:=∀ (p0:Int) (y:Bool),c p0=some y→Spec Try.prog gl0 72 [.c (.int .i64 p0)] [] (.c (.bool y)) []
theorem ek72 {R:Type} {c:C72} (hs:Sp72 c):EOk 72 (e72 (R:=R) c):=qah fun v=>hs v.1
theorem sf72:Sp72 (F72):=fun p0 y hy=>by
 refine qae qad 1000000 (fn:=Try.f72) (by kernel_rfl) (by kernel_rfl) (X:=X72) (by kernel_rfl) ?_
 rw [eq72]
 exact (nt72 Ops.std p0 some (K1 k0)).trans (by show ob (F72 p0) _=_;rw [hy];rfl)
noncomputable def M72:C72:=F72
theorem sm72:Sp72 M72:=sf72
def X71:Aux:=⟨[(3,([0,2,3,4,6,7,8,9,10,11]++rg 14 10))],[]⟩
inductive S71 where
 | l0 (v0 v1:Int) (v2:L4)
def T71 {R:Type} (B:Ops) (c72:C72) (p0:L70) (p1:L73) (p2:L124) (p3:L77) (p4:Int) (again:S71→Option R) (k:(L4)→Option R):Option S71→Option R | none=>cond (bif B.eq (↑p3.length) (↑p3.length) then bif B.le 0 (↑p3.length) then B.lim (Int.toNat (↑p3.length)) 1 else false else false) (again (.l0 (Nat.cast (List.length (List.replicate (Int.toNat (↑p3.length)) (Ty.dflt Ty.bool)))) 0 (List.replicate (Int.toNat (↑p3.length)) (Ty.dflt Ty.bool)))) none | some (.l0 v0 v1 v2)=>cond (B.lt v1 v0) (ob (c72 v1) fun y0=>cond (B.inb v1 v2.length) (again (.l0 v0 (IntKind.wrap .i64 (v1+1)) (List.set v2 v1.toNat y0))) none) (k v2)
def E71 (p0:L70) (p1:L73) (p2:L124) (p3:L77) (p4:Int):S71→List AV×Objs
 | .l0 v0 v1 v2=>(mk 24 [(1,.fn 72 []),(5,.c (.own 5)),(12,.c (.int .i64 v0)),(13,.c (.int .i64 v1))],[(5,.row 4 ty4 v2)])
def I71:S71→Nat
 | .l0 _ _ _=>0
abbrev K26 {R:Type} (k:AV→Objs→Option R) (y:(L4)):Option R:=k (.c (.own 500)) [(500,.row 4 ty4 y)]
noncomputable abbrev A71 {R:Type} (B:Ops) (c72:C72) (p0:L70) (p1:L73) (p2:L124) (p3:L77) (p4:Int) (k:AV→Objs→Option R) (s:S71) (n:Nat):Option R:=aloop tau B gl0 X71 (ent 72 (e72 c72) gnil) ow [] Try.f71 k (I71 s) (E71 p0 p1 p2 p3 p4 s) n
theorem eq71 {R:Type} (B:Ops) (c72:C72) (p0:L70) (p1:L73) (p2:L124) (p3:L77) (p4:Int) (k:AV→Objs→Option R) (n:Nat):afun tau B gl0 X71 (ent 72 (e72 c72) gnil) ow Try.f71 [.agg [.list 70 ty70 p0,.list 73 ty73 p1,.list 124 ty124 p2,.list 77 ty77 p3,.int .i64 p4],.fn 72 []] [] k n=T71 B c72 p0 p1 p2 p3 p4 (fun s=>A71 B c72 p0 p1 p2 p3 p4 k s n) (K26 k) none:=by kernel_rfl
theorem el71 {R:Type} (B:Ops) (c72:C72) (p0:L70) (p1:L73) (p2:L124) (p3:L77) (p4:Int) (k:AV→Objs→Option R) (n:Nat):∀ s,A71 B c72 p0 p1 p2 p3 p4 k s (n+1)=T71 B c72 p0 p1 p2 p3 p4 (fun s=>A71 B c72 p0 p1 p2 p3 p4 k s n) (K26 k) (some s):=by
 intro s
 cases s<;>kernel_rfl
theorem nt71 {R R':Type} (B:Ops) (c72:C72) (p0:L70) (p1:L73) (p2:L124) (p3:L77) (p4:Int) (again:S71→Option R) (again':S71→Option R') (k0:(L4)→Option R') (k:R'→Option R) (h:∀ s,again s=ob (again' s) k):∀ s,T71 B c72 p0 p1 p2 p3 p4 again (fun y=>ob (k0 y) k) s=ob (T71 B c72 p0 p1 p2 p3 p4 again' k0 s) k:=by
 rintro (_ | x)
 all_goals try cases x
 all_goals (unfold T71;repeat' first | exact rfl | exact h _ | apply qaa | (apply qaf;intro))
def R71 (c72:C72) (p0:L70) (p1:L73) (p2:L124) (p3:L77) (p4:Int):Nat→S71→Option (L4)
 | 0,_=>none
 | n+1,s=>T71 Ops.std c72 p0 p1 p2 p3 p4 (R71 c72 p0 p1 p2 p3 p4 n) some (some s)
theorem rr71 {R:Type} (c72:C72) (p0:L70) (p1:L73) (p2:L124) (p3:L77) (p4:Int) (k:AV→Objs→Option R):∀ (n:Nat) (s:S71),A71 Ops.std c72 p0 p1 p2 p3 p4 k s n=ob (R71 c72 p0 p1 p2 p3 p4 n s) (K26 k)
 | 0,s=>by cases s<;>rfl
 | n+1,s=>by rw [el71];exact nt71 Ops.std c72 p0 p1 p2 p3 p4 _ _ some (K26 k) (rr71 c72 p0 p1 p2 p3 p4 k n) (some s)
def F71 (c72:C72) (p0:L70) (p1:L73) (p2:L124) (p3:L77) (p4:Int):Option (L4):=T71 Ops.std c72 p0 p1 p2 p3 p4 (R71 c72 p0 p1 p2 p3 p4 1000000) some none
abbrev C71:Type:=L70→L73→L124→L77→Int→Option (L4)
def e71 {R:Type} (c:C71):Ent R:=eG [.aG [.cL 70 ty70,.cL 73 ty73,.cL 124 ty124,.cL 77 ty77,.cI .i64],.aF 72 []] [] fun v k=>ob (c v.1 v.2.1 v.2.2.1 v.2.2.2.1 v.2.2.2.2.1) (K26 k)
abbrev Sp71 (c:C71):Prop:=∀ (p0:L70) (p1:L73) (p2:L124) (p3:L77) (p4:Int) (y:L4),c p0 p1 p2 p3 p4=some y→Spec Try.prog gl0 71 [.agg [.list 70 ty70 p0,.list 73 ty73 p1,.list 124 ty124 p2,.list 77 ty77 p3,.int .i64 p4],.fn 72 []] [] (.c (.own 500)) [(500,.row 4 ty4 y)]
theorem ek71 {R:Type} {c:C71} (hs:Sp71 c):EOk 71 (e71 (R:=R) c):=qah fun v=>hs v.1 v.2.1 v.2.2.1 v.2.2.2.1 v.2.2.2.2.1
theorem sf71 {c72:C72} (h72:Sp72 c72):Sp71 (F71 c72):=fun p0 p1 p2 p3 p4 y hy=>by
 refine qae (qac (ek72 h72) qad) 1000000 (fn:=Try.f71) (by kernel_rfl) (by kernel_rfl) (X:=X71) (by kernel_rfl) ?_
 rw [eq71]
 exact (nt71 Ops.std c72 p0 p1 p2 p3 p4 _ _ some (K26 k0) (rr71 c72 p0 p1 p2 p3 p4 k0 1000000) none).trans (by show ob (F71 c72 p0 p1 p2 p3 p4) _=_;rw [hy];rfl)
noncomputable def M71:C71:=F71 M72
theorem sm71:Sp71 M71:=sf71 sm72
def X73:Aux:=⟨[],[]⟩
def T73 {R:Type} (B:Ops) (p0:Int) (k:(Bool)→Option R):Option R:=k false
theorem eq73 {R:Type} (B:Ops) (p0:Int) (k:AV→Objs→Option R) (n:Nat):afun tau B gl0 X73 gnil ow Try.f73 [.c (.int .i64 p0)] [] k n=T73 B p0 (K1 k):=by kernel_rfl
theorem nt73 {R R':Type} (B:Ops) (p0:Int) (k0:(Bool)→Option R') (k:R'→Option R):T73 B p0 (fun y=>ob (k0 y) k)=ob (T73 B p0 k0) k:=by
 unfold T73
 repeat' first | exact rfl | apply qaa | (apply qaf;intro)
def F73 (p0:Int):Option (Bool):=T73 Ops.std p0 some
abbrev C73:Type:=Int→Option (Bool)
def e73 {R:Type} (c:C73):Ent R:=eG [.aC (.cI .i64)] [] fun v k=>ob (c v.1) (K1 k)
abbrev Sp73 (c:C73):Prop:=∀ (p0:Int) (y:Bool),c p0=some y→Spec Try.prog gl0 73 [.c (.int .i64 p0)] [] (.c (.bool y)) []
theorem ek73 {R:Type} {c:C73} (hs:Sp73 c):EOk 73 (e73 (R:=R) c):=qah fun v=>hs v.1
theorem sf73:Sp73 (F73):=fun p0 y hy=>by
 refine qae qad 1000000 (fn:=Try.f73) (by kernel_rfl) (by kernel_rfl) (X:=X73) (by kernel_rfl) ?_
 rw [eq73]
 exact (nt73 Ops.std p0 some (K1 k0)).trans (by show ob (F73 p0) _=_;rw [hy];rfl)
noncomputable def M73:C73:=F73
theorem sm73:Sp73 M73:=sf73
def X159:Aux:=⟨[(3,([0,2,3,4,6,7,8,9,10,11]++rg 14 10))],[]⟩
inductive S159 where
 | l0 (v0 v1:Int) (v2:L4)
def T159 {R:Type} (B:Ops) (c73:C73) (p0:L70) (p1:L73) (p2:L124) (p3:L77) (p4:Int) (again:S159→Option R) (k:(L4)→Option R):Option S159→Option R | none=>cond (bif B.eq (↑p3.length) (↑p3.length) then bif B.le 0 (↑p3.length) then B.lim (Int.toNat (↑p3.length)) 1 else false else false) (again (.l0 (Nat.cast (List.length (List.replicate (Int.toNat (↑p3.length)) (Ty.dflt Ty.bool)))) 0 (List.replicate (Int.toNat (↑p3.length)) (Ty.dflt Ty.bool)))) none | some (.l0 v0 v1 v2)=>cond (B.lt v1 v0) (ob (c73 v1) fun y0=>cond (B.inb v1 v2.length) (again (.l0 v0 (IntKind.wrap .i64 (v1+1)) (List.set v2 v1.toNat y0))) none) (k v2)
def E159 (p0:L70) (p1:L73) (p2:L124) (p3:L77) (p4:Int):S159→List AV×Objs
 | .l0 v0 v1 v2=>(mk 24 [(1,.fn 73 []),(5,.c (.own 5)),(12,.c (.int .i64 v0)),(13,.c (.int .i64 v1))],[(5,.row 4 ty4 v2)])
def I159:S159→Nat
 | .l0 _ _ _=>0
noncomputable abbrev A159 {R:Type} (B:Ops) (c73:C73) (p0:L70) (p1:L73) (p2:L124) (p3:L77) (p4:Int) (k:AV→Objs→Option R) (s:S159) (n:Nat):Option R:=aloop tau B gl0 X159 (ent 73 (e73 c73) gnil) ow [] Try.f71 k (I159 s) (E159 p0 p1 p2 p3 p4 s) n
theorem eq159 {R:Type} (B:Ops) (c73:C73) (p0:L70) (p1:L73) (p2:L124) (p3:L77) (p4:Int) (k:AV→Objs→Option R) (n:Nat):afun tau B gl0 X159 (ent 73 (e73 c73) gnil) ow Try.f71 [.agg [.list 70 ty70 p0,.list 73 ty73 p1,.list 124 ty124 p2,.list 77 ty77 p3,.int .i64 p4],.fn 73 []] [] k n=T159 B c73 p0 p1 p2 p3 p4 (fun s=>A159 B c73 p0 p1 p2 p3 p4 k s n) (K26 k) none:=by kernel_rfl
theorem el159 {R:Type} (B:Ops) (c73:C73) (p0:L70) (p1:L73) (p2:L124) (p3:L77) (p4:Int) (k:AV→Objs→Option R) (n:Nat):∀ s,A159 B c73 p0 p1 p2 p3 p4 k s (n+1)=T159 B c73 p0 p1 p2 p3 p4 (fun s=>A159 B c73 p0 p1 p2 p3 p4 k s n) (K26 k) (some s):=by
 intro s
 cases s<;>kernel_rfl
theorem nt159 {R R':Type} (B:Ops) (c73:C73) (p0:L70) (p1:L73) (p2:L124) (p3:L77) (p4:Int) (again:S159→Option R) (again':S159→Option R') (k0:(L4)→Option R') (k:R'→Option R) (h:∀ s,again s=ob (again' s) k):∀ s,T159 B c73 p0 p1 p2 p3 p4 again (fun y=>ob (k0 y) k) s=ob (T159 B c73 p0 p1 p2 p3 p4 again' k0 s) k:=by
 rintro (_ | x)
 all_goals try cases x
 all_goals (unfold T159;repeat' first | exact rfl | exact h _ | apply qaa | (apply qaf;intro))
def R159 (c73:C73) (p0:L70) (p1:L73) (p2:L124) (p3:L77) (p4:Int):Nat→S159→Option (L4)
 | 0,_=>none
 | n+1,s=>T159 Ops.std c73 p0 p1 p2 p3 p4 (R159 c73 p0 p1 p2 p3 p4 n) some (some s)
theorem rr159 {R:Type} (c73:C73) (p0:L70) (p1:L73) (p2:L124) (p3:L77) (p4:Int) (k:AV→Objs→Option R):∀ (n:Nat) (s:S159),A159 Ops.std c73 p0 p1 p2 p3 p4 k s n=ob (R159 c73 p0 p1 p2 p3 p4 n s) (K26 k)
 | 0,s=>by cases s<;>rfl
 | n+1,s=>by rw [el159];exact nt159 Ops.std c73 p0 p1 p2 p3 p4 _ _ some (K26 k) (rr159 c73 p0 p1 p2 p3 p4 k n) (some s)
def F159 (c73:C73) (p0:L70) (p1:L73) (p2:L124) (p3:L77) (p4:Int):Option (L4):=T159 Ops.std c73 p0 p1 p2 p3 p4 (R159 c73 p0 p1 p2 p3 p4 1000000) some none
abbrev C159:Type:=L70→L73→L124→L77→Int→Option (L4)
def e159 {R:Type} (c:C159):Ent R:=eG [.aG [.cL 70 ty70,.cL 73 ty73,.cL 124 ty124,.cL 77 ty77,.cI .i64],.aF 73 []] [] fun v k=>ob (c v.1 v.2.1 v.2.2.1 v.2.2.2.1 v.2.2.2.2.1) (K26 k)
abbrev Sp159 (c:C159):Prop:=∀ (p0:L70) (p1:L73) (p2:L124) (p3:L77) (p4:Int) (y:L4),c p0 p1 p2 p3 p4=some y→Spec Try.prog gl0 71 [.agg [.list 70 ty70 p0,.list 73 ty73 p1,.list 124 ty124 p2,.list 77 ty77 p3,.int .i64 p4],.fn 73 []] [] (.c (.own 500)) [(500,.row 4 ty4 y)]
theorem ek159 {R:Type} {c:C159} (hs:Sp159 c):EOk 71 (e159 (R:=R) c):=qah fun v=>hs v.1 v.2.1 v.2.2.1 v.2.2.2.1 v.2.2.2.2.1
theorem sf159 {c73:C73} (h73:Sp73 c73):Sp159 (F159 c73):=fun p0 p1 p2 p3 p4 y hy=>by
 refine qae (qac (ek73 h73) qad) 1000000 (fn:=Try.f71) (by kernel_rfl) (by kernel_rfl) (X:=X159) (by kernel_rfl) ?_
 rw [eq159]
 exact (nt159 Ops.std c73 p0 p1 p2 p3 p4 _ _ some (K26 k0) (rr159 c73 p0 p1 p2 p3 p4 k0 1000000) none).trans (by show ob (F159 c73 p0 p1 p2 p3 p4) _=_;rw [hy];rfl)
noncomputable def M159:C159:=F159 M73
theorem sm159:Sp159 M159:=sf159 sm73
def X75:Aux:=⟨[],[]⟩
def T75 {R:Type} (B:Ops) (p0:Int) (p1:L49) (k:(Bool×L49)→Option R):Option R:=cond (B.inb 0 p1.length) (cond (B.inb p0 (List.length (p1.getD (Int.toNat 0) ty49.dflt))) (k ((!List.getD (p1.getD (Int.toNat 0) ty49.dflt) p0.toNat (Ty.dflt Ty.bool),p1))) none) none
abbrev K27 {R:Type} (k:AV→Objs→Option R) (y:(Bool×L49)):Option R:=k (.c (.bool y.1)) [(1,.box 47 [.list 49 ty49 y.2])]
theorem eq75 {R:Type} (B:Ops) (p0:Int) (p1:L49) (k:AV→Objs→Option R) (n:Nat):afun tau B gl0 X75 gnil ow Try.f75 [.c (.int .i64 p0),.c (.ptr 1 0)] [(1,.box 47 [.list 49 ty49 p1])] k n=T75 B p0 p1 (K27 k):=by kernel_rfl
theorem nt75 {R R':Type} (B:Ops) (p0:Int) (p1:L49) (k0:(Bool×L49)→Option R') (k:R'→Option R):T75 B p0 p1 (fun y=>ob (k0 y) k)=ob (T75 B p0 p1 k0) k:=by
 unfold T75
 repeat' first | exact rfl | apply qaa | (apply qaf;intro)
def F75 (p0:Int) (p1:L49):Option (Bool×L49):=T75 Ops.std p0 p1 some
abbrev C75:Type:=Int→L49→Option (Bool×L49)
def e75 {R:Type} (c:C75):Ent R:=eG [.aC (.cI .i64),.aC (.cP 1)] [.oB 1 47 [.cL 49 ty49]] fun v k=>ob (c v.1 v.2.1) (K27 k)
abbrev Sp75 (c:C75):Prop:=∀ (p0:Int) (p1:L49) (y:Bool×L49),c p0 p1=some y→Spec Try.prog gl0 75 [.c (.int .i64 p0),.c (.ptr 1 0)] [(1,.box 47 [.list 49 ty49 p1])] (.c (.bool y.1)) [(1,.box 47 [.list 49 ty49 y.2])]
theorem ek75 {R:Type} {c:C75} (hs:Sp75 c):EOk 75 (e75 (R:=R) c):=qah fun v=>hs v.1 v.2.1
theorem sf75:Sp75 (F75):=fun p0 p1 y hy=>by
 refine qae qad 1000000 (fn:=Try.f75) (by kernel_rfl) (by kernel_rfl) (X:=X75) (by kernel_rfl) ?_
 rw [eq75]
 exact (nt75 Ops.std p0 p1 some (K27 k0)).trans (by show ob (F75 p0 p1) _=_;rw [hy];rfl)
noncomputable def M75:C75:=F75
theorem sm75:Sp75 M75:=sf75
def X160:Aux:=⟨[(3,([0,2,3,4,6,7,8,9,10,11]++rg 14 10))],[]⟩
inductive S160 where
 | l0 (v0 v1:Int) (v2:L4) (v3:L49)
def T160 {R:Type} (B:Ops) (c75:C75) (p0:L70) (p1:L73) (p2:L124) (p3:L77) (p4:Int) (p5:L49) (again:S160→Option R) (k:(L4×L49)→Option R):Option S160→Option R | none=>cond (bif B.eq (↑p3.length) (↑p3.length) then bif B.le 0 (↑p3.length) then B.lim (Int.toNat (↑p3.length)) 1 else false else false) (again (.l0 (Nat.cast (List.length (List.replicate (Int.toNat (↑p3.length)) (Ty.dflt Ty.bool)))) 0 (List.replicate (Int.toNat (↑p3.length)) (Ty.dflt Ty.bool)) p5)) none | some (.l0 v0 v1 v2 v3)=>cond (B.lt v1 v0) (ob (c75 v1 v3) fun y0=>cond (B.inb v1 v2.length) (again (.l0 v0 (IntKind.wrap .i64 (v1+1)) (List.set v2 v1.toNat y0.1) y0.2)) none) (k (v2,v3))
def E160 (p0:L70) (p1:L73) (p2:L124) (p3:L77) (p4:Int) (p5:L49):S160→List AV×Objs
 | .l0 v0 v1 v2 v3=>(mk 24 [(1,.fn 75 [.ptr 2500 0]),(5,.c (.own 5)),(12,.c (.int .i64 v0)),(13,.c (.int .i64 v1))],[(5,.row 4 ty4 v2),(2500,.box 47 [.list 49 ty49 v3])])
def I160:S160→Nat
 | .l0 _ _ _ _=>0
abbrev K28 {R:Type} (k:AV→Objs→Option R) (y:(L4×L49)):Option R:=k (.c (.own 500)) [(500,.row 4 ty4 y.1),(2500,.box 47 [.list 49 ty49 y.2])]
noncomputable abbrev A160 {R:Type} (B:Ops) (c75:C75) (p0:L70) (p1:L73) (p2:L124) (p3:L77) (p4:Int) (p5:L49) (k:AV→Objs→Option R) (s:S160) (n:Nat):Option R:=aloop tau B gl0 X160 (ent 75 (e75 c75) gnil) ow [2500] Try.f71 k (I160 s) (E160 p0 p1 p2 p3 p4 p5 s) n
theorem eq160 {R:Type} (B:Ops) (c75:C75) (p0:L70) (p1:L73) (p2:L124) (p3:L77) (p4:Int) (p5:L49) (k:AV→Objs→Option R) (n:Nat):afun tau B gl0 X160 (ent 75 (e75 c75) gnil) ow Try.f71 [.agg [.list 70 ty70 p0,.list 73 ty73 p1,.list 124 ty124 p2,.list 77 ty77 p3,.int .i64 p4],.fn 75 [.ptr 2500 0]] [(2500,.box 47 [.list 49 ty49 p5])] k n=T160 B c75 p0 p1 p2 p3 p4 p5 (fun s=>A160 B c75 p0 p1 p2 p3 p4 p5 k s n) (K28 k) none:=by kernel_rfl
theorem el160 {R:Type} (B:Ops) (c75:C75) (p0:L70) (p1:L73) (p2:L124) (p3:L77) (p4:Int) (p5:L49) (k:AV→Objs→Option R) (n:Nat):∀ s,A160 B c75 p0 p1 p2 p3 p4 p5 k s (n+1)=T160 B c75 p0 p1 p2 p3 p4 p5 (fun s=>A160 B c75 p0 p1 p2 p3 p4 p5 k s n) (K28 k) (some s):=by
 intro s
 cases s<;>kernel_rfl
theorem nt160 {R R':Type} (B:Ops) (c75:C75) (p0:L70) (p1:L73) (p2:L124) (p3:L77) (p4:Int) (p5:L49) (again:S160→Option R) (again':S160→Option R') (k0:(L4×L49)→Option R') (k:R'→Option R) (h:∀ s,again s=ob (again' s) k):∀ s,T160 B c75 p0 p1 p2 p3 p4 p5 again (fun y=>ob (k0 y) k) s=ob (T160 B c75 p0 p1 p2 p3 p4 p5 again' k0 s) k:=by
 rintro (_ | x)
 all_goals try cases x
 all_goals (unfold T160;repeat' first | exact rfl | exact h _ | apply qaa | (apply qaf;intro))
def R160 (c75:C75) (p0:L70) (p1:L73) (p2:L124) (p3:L77) (p4:Int) (p5:L49):Nat→S160→Option (L4×L49)
 | 0,_=>none
 | n+1,s=>T160 Ops.std c75 p0 p1 p2 p3 p4 p5 (R160 c75 p0 p1 p2 p3 p4 p5 n) some (some s)
theorem rr160 {R:Type} (c75:C75) (p0:L70) (p1:L73) (p2:L124) (p3:L77) (p4:Int) (p5:L49) (k:AV→Objs→Option R):∀ (n:Nat) (s:S160),A160 Ops.std c75 p0 p1 p2 p3 p4 p5 k s n=ob (R160 c75 p0 p1 p2 p3 p4 p5 n s) (K28 k)
 | 0,s=>by cases s<;>rfl
 | n+1,s=>by rw [el160];exact nt160 Ops.std c75 p0 p1 p2 p3 p4 p5 _ _ some (K28 k) (rr160 c75 p0 p1 p2 p3 p4 p5 k n) (some s)
def F160 (c75:C75) (p0:L70) (p1:L73) (p2:L124) (p3:L77) (p4:Int) (p5:L49):Option (L4×L49):=T160 Ops.std c75 p0 p1 p2 p3 p4 p5 (R160 c75 p0 p1 p2 p3 p4 p5 1000000) some none
abbrev C160:Type:=L70→L73→L124→L77→Int→L49→Option (L4×L49)
def e160 {R:Type} (c:C160):Ent R:=eG [.aG [.cL 70 ty70,.cL 73 ty73,.cL 124 ty124,.cL 77 ty77,.cI .i64],.aF 75 [.cP 2500]] [.oB 2500 47 [.cL 49 ty49]] fun v k=>ob (c v.1 v.2.1 v.2.2.1 v.2.2.2.1 v.2.2.2.2.1 v.2.2.2.2.2.1) (K28 k)
abbrev Sp160 (c:C160):Prop:=∀ (p0:L70) (p1:L73) (p2:L124) (p3:L77) (p4:Int) (p5:L49) (y:L4×L49),c p0 p1 p2 p3 p4 p5=some y→Spec Try.prog gl0 71 [.agg [.list 70 ty70 p0,.list 73 ty73 p1,.list 124 ty124 p2,.list 77 ty77 p3,.int .i64 p4],.fn 75 [.ptr 2500 0]] [(2500,.box 47 [.list 49 ty49 p5])] (.c (.own 500)) [(500,.row 4 ty4 y.1),(2500,.box 47 [.list 49 ty49 y.2])]
theorem ek160 {R:Type} {c:C160} (hs:Sp160 c):EOk 71 (e160 (R:=R) c):=qah fun v=>hs v.1 v.2.1 v.2.2.1 v.2.2.2.1 v.2.2.2.2.1 v.2.2.2.2.2.1
theorem sf160 {c75:C75} (h75:Sp75 c75):Sp160 (F160 c75):=fun p0 p1 p2 p3 p4 p5 y hy=>by
 refine qae (qac (ek75 h75) qad) 1000000 (fn:=Try.f71) (by kernel_rfl) (by kernel_rfl) (X:=X160) (by kernel_rfl) ?_
 rw [eq160]
 exact (nt160 Ops.std c75 p0 p1 p2 p3 p4 p5 _ _ some (K28 k0) (rr160 c75 p0 p1 p2 p3 p4 p5 k0 1000000) none).trans (by show ob (F160 c75 p0 p1 p2 p3 p4 p5) _=_;rw [hy];rfl)
noncomputable def M160:C160:=F160 M75
theorem sm160:Sp160 M160:=sf160 sm75
def X76:Aux:=⟨[],[]⟩
def T76 {R:Type} (B:Ops) (p0:Int) (p1:L49) (k:(Bool×L49)→Option R):Option R:=cond (B.inb 0 p1.length) (cond (B.inb p0 (List.length (p1.getD (Int.toNat 0) ty49.dflt))) (cond (List.getD (p1.getD (Int.toNat 0) ty49.dflt) p0.toNat (Ty.dflt Ty.bool)) (cond (B.inb 1 p1.length) (cond (B.inb p0 (List.length (p1.getD (Int.toNat 1) ty49.dflt))) (k ((List.getD (p1.getD (Int.toNat 1) ty49.dflt) p0.toNat (Ty.dflt Ty.bool),p1))) none) none) (k (false,p1))) none) none
theorem eq76 {R:Type} (B:Ops) (p0:Int) (p1:L49) (k:AV→Objs→Option R) (n:Nat):afun tau B gl0 X76 gnil ow Try.f76 [.c (.int .i64 p0),.c (.ptr 1 0)] [(1,.box 47 [.list 49 ty49 p1])] k n=T76 B p0 p1 (K27 k):=by kernel_rfl
theorem nt76 {R R':Type} (B:Ops) (p0:Int) (p1:L49) (k0:(Bool×L49)→Option R') (k:R'→Option R):T76 B p0 p1 (fun y=>ob (k0 y) k)=ob (T76 B p0 p1 k0) k:=by
 unfold T76
 repeat' first | exact rfl | apply qaa | (apply qaf;intro)
def F76 (p0:Int) (p1:L49):Option (Bool×L49):=T76 Ops.std p0 p1 some
abbrev C76:Type:=Int→L49→Option (Bool×L49)
def e76 {R:Type} (c:C76):Ent R:=eG [.aC (.cI .i64),.aC (.cP 1)] [.oB 1 47 [.cL 49 ty49]] fun v k=>ob (c v.1 v.2.1) (K27 k)
abbrev Sp76 (c:C76):Prop:=∀ (p0:Int) (p1:L49) (y:Bool×L49),c p0 p1=some y→Spec Try.prog gl0 76 [.c (.int .i64 p0),.c (.ptr 1 0)] [(1,.box 47 [.list 49 ty49 p1])] (.c (.bool y.1)) [(1,.box 47 [.list 49 ty49 y.2])]
theorem ek76 {R:Type} {c:C76} (hs:Sp76 c):EOk 76 (e76 (R:=R) c):=qah fun v=>hs v.1 v.2.1
theorem sf76:Sp76 (F76):=fun p0 p1 y hy=>by
 refine qae qad 1000000 (fn:=Try.f76) (by kernel_rfl) (by kernel_rfl) (X:=X76) (by kernel_rfl) ?_
 rw [eq76]
 exact (nt76 Ops.std p0 p1 some (K27 k0)).trans (by show ob (F76 p0 p1) _=_;rw [hy];rfl)
noncomputable def M76:C76:=F76
theorem sm76:Sp76 M76:=sf76
def X161:Aux:=⟨[(3,([0,2,3,4,6,7,8,9,10,11]++rg 14 10))],[]⟩
inductive S161 where
 | l0 (v0 v1:Int) (v2:L4) (v3:L49)
def T161 {R:Type} (B:Ops) (c76:C76) (p0:L70) (p1:L73) (p2:L124) (p3:L77) (p4:Int) (p5:L49) (again:S161→Option R) (k:(L4×L49)→Option R):Option S161→Option R | none=>cond (bif B.eq (↑p3.length) (↑p3.length) then bif B.le 0 (↑p3.length) then B.lim (Int.toNat (↑p3.length)) 1 else false else false) (again (.l0 (Nat.cast (List.length (List.replicate (Int.toNat (↑p3.length)) (Ty.dflt Ty.bool)))) 0 (List.replicate (Int.toNat (↑p3.length)) (Ty.dflt Ty.bool)) p5)) none | some (.l0 v0 v1 v2 v3)=>cond (B.lt v1 v0) (ob (c76 v1 v3) fun y0=>cond (B.inb v1 v2.length) (again (.l0 v0 (IntKind.wrap .i64 (v1+1)) (List.set v2 v1.toNat y0.1) y0.2)) none) (k (v2,v3))
def E161 (p0:L70) (p1:L73) (p2:L124) (p3:L77) (p4:Int) (p5:L49):S161→List AV×Objs
 | .l0 v0 v1 v2 v3=>(mk 24 [(1,.fn 76 [.ptr 2500 0]),(5,.c (.own 5)),(12,.c (.int .i64 v0)),(13,.c (.int .i64 v1))],[(5,.row 4 ty4 v2),(2500,.box 47 [.list 49 ty49 v3])])
def I161:S161→Nat
 | .l0 _ _ _ _=>0
noncomputable abbrev A161 {R:Type} (B:Ops) (c76:C76) (p0:L70) (p1:L73) (p2:L124) (p3:L77) (p4:Int) (p5:L49) (k:AV→Objs→Option R) (s:S161) (n:Nat):Option R:=aloop tau B gl0 X161 (ent 76 (e76 c76) gnil) ow [2500] Try.f71 k (I161 s) (E161 p0 p1 p2 p3 p4 p5 s) n
theorem eq161 {R:Type} (B:Ops) (c76:C76) (p0:L70) (p1:L73) (p2:L124) (p3:L77) (p4:Int) (p5:L49) (k:AV→Objs→Option R) (n:Nat):afun tau B gl0 X161 (ent 76 (e76 c76) gnil) ow Try.f71 [.agg [.list 70 ty70 p0,.list 73 ty73 p1,.list 124 ty124 p2,.list 77 ty77 p3,.int .i64 p4],.fn 76 [.ptr 2500 0]] [(2500,.box 47 [.list 49 ty49 p5])] k n=T161 B c76 p0 p1 p2 p3 p4 p5 (fun s=>A161 B c76 p0 p1 p2 p3 p4 p5 k s n) (K28 k) none:=by kernel_rfl
theorem el161 {R:Type} (B:Ops) (c76:C76) (p0:L70) (p1:L73) (p2:L124) (p3:L77) (p4:Int) (p5:L49) (k:AV→Objs→Option R) (n:Nat):∀ s,A161 B c76 p0 p1 p2 p3 p4 p5 k s (n+1)=T161 B c76 p0 p1 p2 p3 p4 p5 (fun s=>A161 B c76 p0 p1 p2 p3 p4 p5 k s n) (K28 k) (some s):=by
 intro s
 cases s<;>kernel_rfl
theorem nt161 {R R':Type} (B:Ops) (c76:C76) (p0:L70) (p1:L73) (p2:L124) (p3:L77) (p4:Int) (p5:L49) (again:S161→Option R) (again':S161→Option R') (k0:(L4×L49)→Option R') (k:R'→Option R) (h:∀ s,again s=ob (again' s) k):∀ s,T161 B c76 p0 p1 p2 p3 p4 p5 again (fun y=>ob (k0 y) k) s=ob (T161 B c76 p0 p1 p2 p3 p4 p5 again' k0 s) k:=by
 rintro (_ | x)
 all_goals try cases x
 all_goals (unfold T161;repeat' first | exact rfl | exact h _ | apply qaa | (apply qaf;intro))
def R161 (c76:C76) (p0:L70) (p1:L73) (p2:L124) (p3:L77) (p4:Int) (p5:L49):Nat→S161→Option (L4×L49)
 | 0,_=>none
 | n+1,s=>T161 Ops.std c76 p0 p1 p2 p3 p4 p5 (R161 c76 p0 p1 p2 p3 p4 p5 n) some (some s)
theorem rr161 {R:Type} (c76:C76) (p0:L70) (p1:L73) (p2:L124) (p3:L77) (p4:Int) (p5:L49) (k:AV→Objs→Option R):∀ (n:Nat) (s:S161),A161 Ops.std c76 p0 p1 p2 p3 p4 p5 k s n=ob (R161 c76 p0 p1 p2 p3 p4 p5 n s) (K28 k)
 | 0,s=>by cases s<;>rfl
 | n+1,s=>by rw [el161];exact nt161 Ops.std c76 p0 p1 p2 p3 p4 p5 _ _ some (K28 k) (rr161 c76 p0 p1 p2 p3 p4 p5 k n) (some s)
def F161 (c76:C76) (p0:L70) (p1:L73) (p2:L124) (p3:L77) (p4:Int) (p5:L49):Option (L4×L49):=T161 Ops.std c76 p0 p1 p2 p3 p4 p5 (R161 c76 p0 p1 p2 p3 p4 p5 1000000) some none
abbrev C161:Type:=L70→L73→L124→L77→Int→L49→Option (L4×L49)
def e161 {R:Type} (c:C161):Ent R:=eG [.aG [.cL 70 ty70,.cL 73 ty73,.cL 124 ty124,.cL 77 ty77,.cI .i64],.aF 76 [.cP 2500]] [.oB 2500 47 [.cL 49 ty49]] fun v k=>ob (c v.1 v.2.1 v.2.2.1 v.2.2.2.1 v.2.2.2.2.1 v.2.2.2.2.2.1) (K28 k)
abbrev Sp161 (c:C161):Prop:=∀ (p0:L70) (p1:L73) (p2:L124) (p3:L77) (p4:Int) (p5:L49) (y:L4×L49),c p0 p1 p2 p3 p4 p5=some y→Spec Try.prog gl0 71 [.agg [.list 70 ty70 p0,.list 73 ty73 p1,.list 124 ty124 p2,.list 77 ty77 p3,.int .i64 p4],.fn 76 [.ptr 2500 0]] [(2500,.box 47 [.list 49 ty49 p5])] (.c (.own 500)) [(500,.row 4 ty4 y.1),(2500,.box 47 [.list 49 ty49 y.2])]
theorem ek161 {R:Type} {c:C161} (hs:Sp161 c):EOk 71 (e161 (R:=R) c):=qah fun v=>hs v.1 v.2.1 v.2.2.1 v.2.2.2.1 v.2.2.2.2.1 v.2.2.2.2.2.1
theorem sf161 {c76:C76} (h76:Sp76 c76):Sp161 (F161 c76):=fun p0 p1 p2 p3 p4 p5 y hy=>by
 refine qae (qac (ek76 h76) qad) 1000000 (fn:=Try.f71) (by kernel_rfl) (by kernel_rfl) (X:=X161) (by kernel_rfl) ?_
 rw [eq161]
 exact (nt161 Ops.std c76 p0 p1 p2 p3 p4 p5 _ _ some (K28 k0) (rr161 c76 p0 p1 p2 p3 p4 p5 k0 1000000) none).trans (by show ob (F161 c76 p0 p1 p2 p3 p4 p5) _=_;rw [hy];rfl)
noncomputable def M161:C161:=F161 M76
theorem sm161:Sp161 M161:=sf161 sm76
def X77:Aux:=⟨[],[]⟩
def T77 {R:Type} (B:Ops) (p0:Int) (p1:L49) (k:(Bool×L49)→Option R):Option R:=cond (B.inb 0 p1.length) (cond (B.inb p0 (List.length (p1.getD (Int.toNat 0) ty49.dflt))) (cond (List.getD (p1.getD (Int.toNat 0) ty49.dflt) p0.toNat (Ty.dflt Ty.bool)) (k (true,p1)) (cond (B.inb 1 p1.length) (cond (B.inb p0 (List.length (p1.getD (Int.toNat 1) ty49.dflt))) (k ((List.getD (p1.getD (Int.toNat 1) ty49.dflt) p0.toNat (Ty.dflt Ty.bool),p1))) none) none)) none) none
theorem eq77 {R:Type} (B:Ops) (p0:Int) (p1:L49) (k:AV→Objs→Option R) (n:Nat):afun tau B gl0 X77 gnil ow Try.f77 [.c (.int .i64 p0),.c (.ptr 1 0)] [(1,.box 47 [.list 49 ty49 p1])] k n=T77 B p0 p1 (K27 k):=by kernel_rfl
theorem nt77 {R R':Type} (B:Ops) (p0:Int) (p1:L49) (k0:(Bool×L49)→Option R') (k:R'→Option R):T77 B p0 p1 (fun y=>ob (k0 y) k)=ob (T77 B p0 p1 k0) k:=by
 unfold T77
 repeat' first | exact rfl | apply qaa | (apply qaf;intro)
def F77 (p0:Int) (p1:L49):Option (Bool×L49):=T77 Ops.std p0 p1 some
abbrev C77:Type:=Int→L49→Option (Bool×L49)
def e77 {R:Type} (c:C77):Ent R:=eG [.aC (.cI .i64),.aC (.cP 1)] [.oB 1 47 [.cL 49 ty49]] fun v k=>ob (c v.1 v.2.1) (K27 k)
abbrev Sp77 (c:C77):Prop:=∀ (p0:Int) (p1:L49) (y:Bool×L49),c p0 p1=some y→Spec Try.prog gl0 77 [.c (.int .i64 p0),.c (.ptr 1 0)] [(1,.box 47 [.list 49 ty49 p1])] (.c (.bool y.1)) [(1,.box 47 [.list 49 ty49 y.2])]
theorem ek77 {R:Type} {c:C77} (hs:Sp77 c):EOk 77 (e77 (R:=R) c):=qah fun v=>hs v.1 v.2.1
theorem sf77:Sp77 (F77):=fun p0 p1 y hy=>by
 refine qae qad 1000000 (fn:=Try.f77) (by kernel_rfl) (by kernel_rfl) (X:=X77) (by kernel_rfl) ?_
 rw [eq77]
 exact (nt77 Ops.std p0 p1 some (K27 k0)).trans (by show ob (F77 p0 p1) _=_;rw [hy];rfl)
noncomputable def M77:C77:=F77
theorem sm77:Sp77 M77:=sf77
def X162:Aux:=⟨[(3,([0,2,3,4,6,7,8,9,10,11]++rg 14 10))],[]⟩
inductive S162 where
 | l0 (v0 v1:Int) (v2:L4) (v3:L49)
def T162 {R:Type} (B:Ops) (c77:C77) (p0:L70) (p1:L73) (p2:L124) (p3:L77) (p4:Int) (p5:L49) (again:S162→Option R) (k:(L4×L49)→Option R):Option S162→Option R | none=>cond (bif B.eq (↑p3.length) (↑p3.length) then bif B.le 0 (↑p3.length) then B.lim (Int.toNat (↑p3.length)) 1 else false else false) (again (.l0 (Nat.cast (List.length (List.replicate (Int.toNat (↑p3.length)) (Ty.dflt Ty.bool)))) 0 (List.replicate (Int.toNat (↑p3.length)) (Ty.dflt Ty.bool)) p5)) none | some (.l0 v0 v1 v2 v3)=>cond (B.lt v1 v0) (ob (c77 v1 v3) fun y0=>cond (B.inb v1 v2.length) (again (.l0 v0 (IntKind.wrap .i64 (v1+1)) (List.set v2 v1.toNat y0.1) y0.2)) none) (k (v2,v3))
def E162 (p0:L70) (p1:L73) (p2:L124) (p3:L77) (p4:Int) (p5:L49):S162→List AV×Objs
 | .l0 v0 v1 v2 v3=>(mk 24 [(1,.fn 77 [.ptr 2500 0]),(5,.c (.own 5)),(12,.c (.int .i64 v0)),(13,.c (.int .i64 v1))],[(5,.row 4 ty4 v2),(2500,.box 47 [.list 49 ty49 v3])])
def I162:S162→Nat
 | .l0 _ _ _ _=>0
noncomputable abbrev A162 {R:Type} (B:Ops) (c77:C77) (p0:L70) (p1:L73) (p2:L124) (p3:L77) (p4:Int) (p5:L49) (k:AV→Objs→Option R) (s:S162) (n:Nat):Option R:=aloop tau B gl0 X162 (ent 77 (e77 c77) gnil) ow [2500] Try.f71 k (I162 s) (E162 p0 p1 p2 p3 p4 p5 s) n
theorem eq162 {R:Type} (B:Ops) (c77:C77) (p0:L70) (p1:L73) (p2:L124) (p3:L77) (p4:Int) (p5:L49) (k:AV→Objs→Option R) (n:Nat):afun tau B gl0 X162 (ent 77 (e77 c77) gnil) ow Try.f71 [.agg [.list 70 ty70 p0,.list 73 ty73 p1,.list 124 ty124 p2,.list 77 ty77 p3,.int .i64 p4],.fn 77 [.ptr 2500 0]] [(2500,.box 47 [.list 49 ty49 p5])] k n=T162 B c77 p0 p1 p2 p3 p4 p5 (fun s=>A162 B c77 p0 p1 p2 p3 p4 p5 k s n) (K28 k) none:=by kernel_rfl
theorem el162 {R:Type} (B:Ops) (c77:C77) (p0:L70) (p1:L73) (p2:L124) (p3:L77) (p4:Int) (p5:L49) (k:AV→Objs→Option R) (n:Nat):∀ s,A162 B c77 p0 p1 p2 p3 p4 p5 k s (n+1)=T162 B c77 p0 p1 p2 p3 p4 p5 (fun s=>A162 B c77 p0 p1 p2 p3 p4 p5 k s n) (K28 k) (some s):=by
 intro s
 cases s<;>kernel_rfl
theorem nt162 {R R':Type} (B:Ops) (c77:C77) (p0:L70) (p1:L73) (p2:L124) (p3:L77) (p4:Int) (p5:L49) (again:S162→Option R) (again':S162→Option R') (k0:(L4×L49)→Option R') (k:R'→Option R) (h:∀ s,again s=ob (again' s) k):∀ s,T162 B c77 p0 p1 p2 p3 p4 p5 again (fun y=>ob (k0 y) k) s=ob (T162 B c77 p0 p1 p2 p3 p4 p5 again' k0 s) k:=by
 rintro (_ | x)
 all_goals try cases x
 all_goals (unfold T162;repeat' first | exact rfl | exact h _ | apply qaa | (apply qaf;intro))
def R162 (c77:C77) (p0:L70) (p1:L73) (p2:L124) (p3:L77) (p4:Int) (p5:L49):Nat→S162→Option (L4×L49)
 | 0,_=>none
 | n+1,s=>T162 Ops.std c77 p0 p1 p2 p3 p4 p5 (R162 c77 p0 p1 p2 p3 p4 p5 n) some (some s)
theorem rr162 {R:Type} (c77:C77) (p0:L70) (p1:L73) (p2:L124) (p3:L77) (p4:Int) (p5:L49) (k:AV→Objs→Option R):∀ (n:Nat) (s:S162),A162 Ops.std c77 p0 p1 p2 p3 p4 p5 k s n=ob (R162 c77 p0 p1 p2 p3 p4 p5 n s) (K28 k)
 | 0,s=>by cases s<;>rfl
 | n+1,s=>by rw [el162];exact nt162 Ops.std c77 p0 p1 p2 p3 p4 p5 _ _ some (K28 k) (rr162 c77 p0 p1 p2 p3 p4 p5 k n) (some s)
def F162 (c77:C77) (p0:L70) (p1:L73) (p2:L124) (p3:L77) (p4:Int) (p5:L49):Option (L4×L49):=T162 Ops.std c77 p0 p1 p2 p3 p4 p5 (R162 c77 p0 p1 p2 p3 p4 p5 1000000) some none
abbrev C162:Type:=L70→L73→L124→L77→Int→L49→Option (L4×L49)
def e162 {R:Type} (c:C162):Ent R:=eG [.aG [.cL 70 ty70,.cL 73 ty73,.cL 124 ty124,.cL 77 ty77,.cI .i64],.aF 77 [.cP 2500]] [.oB 2500 47 [.cL 49 ty49]] fun v k=>ob (c v.1 v.2.1 v.2.2.1 v.2.2.2.1 v.2.2.2.2.1 v.2.2.2.2.2.1) (K28 k)
abbrev Sp162 (c:C162):Prop:=∀ (p0:L70) (p1:L73) (p2:L124) (p3:L77) (p4:Int) (p5:L49) (y:L4×L49),c p0 p1 p2 p3 p4 p5=some y→Spec Try.prog gl0 71 [.agg [.list 70 ty70 p0,.list 73 ty73 p1,.list 124 ty124 p2,.list 77 ty77 p3,.int .i64 p4],.fn 77 [.ptr 2500 0]] [(2500,.box 47 [.list 49 ty49 p5])] (.c (.own 500)) [(500,.row 4 ty4 y.1),(2500,.box 47 [.list 49 ty49 y.2])]
theorem ek162 {R:Type} {c:C162} (hs:Sp162 c):EOk 71 (e162 (R:=R) c):=qah fun v=>hs v.1 v.2.1 v.2.2.1 v.2.2.2.1 v.2.2.2.2.1 v.2.2.2.2.2.1
theorem sf162 {c77:C77} (h77:Sp77 c77):Sp162 (F162 c77):=fun p0 p1 p2 p3 p4 p5 y hy=>by
 refine qae (qac (ek77 h77) qad) 1000000 (fn:=Try.f71) (by kernel_rfl) (by kernel_rfl) (X:=X162) (by kernel_rfl) ?_
 rw [eq162]
 exact (nt162 Ops.std c77 p0 p1 p2 p3 p4 p5 _ _ some (K28 k0) (rr162 c77 p0 p1 p2 p3 p4 p5 k0 1000000) none).trans (by show ob (F162 c77 p0 p1 p2 p3 p4 p5) _=_;rw [hy];rfl)
noncomputable def M162:C162:=F162 M77
theorem sm162:Sp162 M162:=sf162 sm77
def X78:Aux:=⟨[],[]⟩
def T78 {R:Type} (B:Ops) (p0:Int) (p1:L49) (k:(Bool×L49)→Option R):Option R:=cond (B.inb 0 p1.length) (cond (B.inb p0 (List.length (p1.getD (Int.toNat 0) ty49.dflt))) (cond (!List.getD (p1.getD (Int.toNat 0) ty49.dflt) p0.toNat (Ty.dflt Ty.bool)) (k (true,p1)) (cond (B.inb 1 p1.length) (cond (B.inb p0 (List.length (p1.getD (Int.toNat 1) ty49.dflt))) (k ((List.getD (p1.getD (Int.toNat 1) ty49.dflt) p0.toNat (Ty.dflt Ty.bool),p1))) none) none)) none) none
theorem eq78 {R:Type} (B:Ops) (p0:Int) (p1:L49) (k:AV→Objs→Option R) (n:Nat):afun tau B gl0 X78 gnil ow Try.f78 [.c (.int .i64 p0),.c (.ptr 1 0)] [(1,.box 47 [.list 49 ty49 p1])] k n=T78 B p0 p1 (K27 k):=by kernel_rfl
theorem nt78 {R R':Type} (B:Ops) (p0:Int) (p1:L49) (k0:(Bool×L49)→Option R') (k:R'→Option R):T78 B p0 p1 (fun y=>ob (k0 y) k)=ob (T78 B p0 p1 k0) k:=by
 unfold T78
 repeat' first | exact rfl | apply qaa | (apply qaf;intro)
def F78 (p0:Int) (p1:L49):Option (Bool×L49):=T78 Ops.std p0 p1 some
abbrev C78:Type:=Int→L49→Option (Bool×L49)
def e78 {R:Type} (c:C78):Ent R:=eG [.aC (.cI .i64),.aC (.cP 1)] [.oB 1 47 [.cL 49 ty49]] fun v k=>ob (c v.1 v.2.1) (K27 k)
abbrev Sp78 (c:C78):Prop:=∀ (p0:Int) (p1:L49) (y:Bool×L49),c p0 p1=some y→Spec Try.prog gl0 78 [.c (.int .i64 p0),.c (.ptr 1 0)] [(1,.box 47 [.list 49 ty49 p1])] (.c (.bool y.1)) [(1,.box 47 [.list 49 ty49 y.2])]
theorem ek78 {R:Type} {c:C78} (hs:Sp78 c):EOk 78 (e78 (R:=R) c):=qah fun v=>hs v.1 v.2.1
theorem sf78:Sp78 (F78):=fun p0 p1 y hy=>by
 refine qae qad 1000000 (fn:=Try.f78) (by kernel_rfl) (by kernel_rfl) (X:=X78) (by kernel_rfl) ?_
 rw [eq78]
 exact (nt78 Ops.std p0 p1 some (K27 k0)).trans (by show ob (F78 p0 p1) _=_;rw [hy];rfl)
noncomputable def M78:C78:=F78
theorem sm78:Sp78 M78:=sf78
def X163:Aux:=⟨[(3,([0,2,3,4,6,7,8,9,10,11]++rg 14 10))],[]⟩
inductive S163 where
 | l0 (v0 v1:Int) (v2:L4) (v3:L49)
def T163 {R:Type} (B:Ops) (c78:C78) (p0:L70) (p1:L73) (p2:L124) (p3:L77) (p4:Int) (p5:L49) (again:S163→Option R) (k:(L4×L49)→Option R):Option S163→Option R | none=>cond (bif B.eq (↑p3.length) (↑p3.length) then bif B.le 0 (↑p3.length) then B.lim (Int.toNat (↑p3.length)) 1 else false else false) (again (.l0 (Nat.cast (List.length (List.replicate (Int.toNat (↑p3.length)) (Ty.dflt Ty.bool)))) 0 (List.replicate (Int.toNat (↑p3.length)) (Ty.dflt Ty.bool)) p5)) none | some (.l0 v0 v1 v2 v3)=>cond (B.lt v1 v0) (ob (c78 v1 v3) fun y0=>cond (B.inb v1 v2.length) (again (.l0 v0 (IntKind.wrap .i64 (v1+1)) (List.set v2 v1.toNat y0.1) y0.2)) none) (k (v2,v3))
def E163 (p0:L70) (p1:L73) (p2:L124) (p3:L77) (p4:Int) (p5:L49):S163→List AV×Objs
 | .l0 v0 v1 v2 v3=>(mk 24 [(1,.fn 78 [.ptr 2500 0]),(5,.c (.own 5)),(12,.c (.int .i64 v0)),(13,.c (.int .i64 v1))],[(5,.row 4 ty4 v2),(2500,.box 47 [.list 49 ty49 v3])])
def I163:S163→Nat
 | .l0 _ _ _ _=>0
noncomputable abbrev A163 {R:Type} (B:Ops) (c78:C78) (p0:L70) (p1:L73) (p2:L124) (p3:L77) (p4:Int) (p5:L49) (k:AV→Objs→Option R) (s:S163) (n:Nat):Option R:=aloop tau B gl0 X163 (ent 78 (e78 c78) gnil) ow [2500] Try.f71 k (I163 s) (E163 p0 p1 p2 p3 p4 p5 s) n
theorem eq163 {R:Type} (B:Ops) (c78:C78) (p0:L70) (p1:L73) (p2:L124) (p3:L77) (p4:Int) (p5:L49) (k:AV→Objs→Option R) (n:Nat):afun tau B gl0 X163 (ent 78 (e78 c78) gnil) ow Try.f71 [.agg [.list 70 ty70 p0,.list 73 ty73 p1,.list 124 ty124 p2,.list 77 ty77 p3,.int .i64 p4],.fn 78 [.ptr 2500 0]] [(2500,.box 47 [.list 49 ty49 p5])] k n=T163 B c78 p0 p1 p2 p3 p4 p5 (fun s=>A163 B c78 p0 p1 p2 p3 p4 p5 k s n) (K28 k) none:=by kernel_rfl
theorem el163 {R:Type} (B:Ops) (c78:C78) (p0:L70) (p1:L73) (p2:L124) (p3:L77) (p4:Int) (p5:L49) (k:AV→Objs→Option R) (n:Nat):∀ s,A163 B c78 p0 p1 p2 p3 p4 p5 k s (n+1)=T163 B c78 p0 p1 p2 p3 p4 p5 (fun s=>A163 B c78 p0 p1 p2 p3 p4 p5 k s n) (K28 k) (some s):=by
 intro s
 cases s<;>kernel_rfl
theorem nt163 {R R':Type} (B:Ops) (c78:C78) (p0:L70) (p1:L73) (p2:L124) (p3:L77) (p4:Int) (p5:L49) (again:S163→Option R) (again':S163→Option R') (k0:(L4×L49)→Option R') (k:R'→Option R) (h:∀ s,again s=ob (again' s) k):∀ s,T163 B c78 p0 p1 p2 p3 p4 p5 again (fun y=>ob (k0 y) k) s=ob (T163 B c78 p0 p1 p2 p3 p4 p5 again' k0 s) k:=by
 rintro (_ | x)
 all_goals try cases x
 all_goals (unfold T163;repeat' first | exact rfl | exact h _ | apply qaa | (apply qaf;intro))
def R163 (c78:C78) (p0:L70) (p1:L73) (p2:L124) (p3:L77) (p4:Int) (p5:L49):Nat→S163→Option (L4×L49)
 | 0,_=>none
 | n+1,s=>T163 Ops.std c78 p0 p1 p2 p3 p4 p5 (R163 c78 p0 p1 p2 p3 p4 p5 n) some (some s)
theorem rr163 {R:Type} (c78:C78) (p0:L70) (p1:L73) (p2:L124) (p3:L77) (p4:Int) (p5:L49) (k:AV→Objs→Option R):∀ (n:Nat) (s:S163),A163 Ops.std c78 p0 p1 p2 p3 p4 p5 k s n=ob (R163 c78 p0 p1 p2 p3 p4 p5 n s) (K28 k)
 | 0,s=>by cases s<;>rfl
 | n+1,s=>by rw [el163];exact nt163 Ops.std c78 p0 p1 p2 p3 p4 p5 _ _ some (K28 k) (rr163 c78 p0 p1 p2 p3 p4 p5 k n) (some s)
def F163 (c78:C78) (p0:L70) (p1:L73) (p2:L124) (p3:L77) (p4:Int) (p5:L49):Option (L4×L49):=T163 Ops.std c78 p0 p1 p2 p3 p4 p5 (R163 c78 p0 p1 p2 p3 p4 p5 1000000) some none
abbrev C163:Type:=L70→L73→L124→L77→Int→L49→Option (L4×L49)
def e163 {R:Type} (c:C163):Ent R:=eG [.aG [.cL 70 ty70,.cL 73 ty73,.cL 124 ty124,.cL 77 ty77,.cI .i64],.aF 78 [.cP 2500]] [.oB 2500 47 [.cL 49 ty49]] fun v k=>ob (c v.1 v.2.1 v.2.2.1 v.2.2.2.1 v.2.2.2.2.1 v.2.2.2.2.2.1) (K28 k)
abbrev Sp163 (c:C163):Prop:=∀ (p0:L70) (p1:L73) (p2:L124) (p3:L77) (p4:Int) (p5:L49) (y:L4×L49),c p0 p1 p2 p3 p4 p5=some y→Spec Try.prog gl0 71 [.agg [.list 70 ty70 p0,.list 73 ty73 p1,.list 124 ty124 p2,.list 77 ty77 p3,.int .i64 p4],.fn 78 [.ptr 2500 0]] [(2500,.box 47 [.list 49 ty49 p5])] (.c (.own 500)) [(500,.row 4 ty4 y.1),(2500,.box 47 [.list 49 ty49 y.2])]
theorem ek163 {R:Type} {c:C163} (hs:Sp163 c):EOk 71 (e163 (R:=R) c):=qah fun v=>hs v.1 v.2.1 v.2.2.1 v.2.2.2.1 v.2.2.2.2.1 v.2.2.2.2.2.1
theorem sf163 {c78:C78} (h78:Sp78 c78):Sp163 (F163 c78):=fun p0 p1 p2 p3 p4 p5 y hy=>by
 refine qae (qac (ek78 h78) qad) 1000000 (fn:=Try.f71) (by kernel_rfl) (by kernel_rfl) (X:=X163) (by kernel_rfl) ?_
 rw [eq163]
 exact (nt163 Ops.std c78 p0 p1 p2 p3 p4 p5 _ _ some (K28 k0) (rr163 c78 p0 p1 p2 p3 p4 p5 k0 1000000) none).trans (by show ob (F163 c78 p0 p1 p2 p3 p4 p5) _=_;rw [hy];rfl)
noncomputable def M163:C163:=F163 M78
theorem sm163:Sp163 M163:=sf163 sm78
def X80:Aux:=⟨[],[]⟩
def T80 {R:Type} (B:Ops) (p0:L70) (p1:L73) (p2:L124) (p3:L77) (p4 p5:Int) (k:(Int)→Option R):Option R:=cond (B.lt (IntKind.wrap .i64 (p5+1)) (↑p3.length)) (k (IntKind.wrap .i64 (p5+1))) (k p4)
theorem eq80 {R:Type} (B:Ops) (p0:L70) (p1:L73) (p2:L124) (p3:L77) (p4 p5:Int) (k:AV→Objs→Option R) (n:Nat):afun tau B gl0 X80 gnil ow Try.f80 [.agg [.list 70 ty70 p0,.list 73 ty73 p1,.list 124 ty124 p2,.list 77 ty77 p3,.int .i64 p4],.c (.int .i64 p5)] [] k n=T80 B p0 p1 p2 p3 p4 p5 (K9 k):=by kernel_rfl
theorem nt80 {R R':Type} (B:Ops) (p0:L70) (p1:L73) (p2:L124) (p3:L77) (p4 p5:Int) (k0:(Int)→Option R') (k:R'→Option R):T80 B p0 p1 p2 p3 p4 p5 (fun y=>ob (k0 y) k)=ob (T80 B p0 p1 p2 p3 p4 p5 k0) k:=by
 unfold T80
 repeat' first | exact rfl | apply qaa | (apply qaf;intro)
def F80 (p0:L70) (p1:L73) (p2:L124) (p3:L77) (p4 p5:Int):Option (Int):=T80 Ops.std p0 p1 p2 p3 p4 p5 some
abbrev C80:Type:=L70→L73→L124→L77→Int→Int→Option (Int)
def e80 {R:Type} (c:C80):Ent R:=eG [.aG [.cL 70 ty70,.cL 73 ty73,.cL 124 ty124,.cL 77 ty77,.cI .i64],.aC (.cI .i64)] [] fun v k=>ob (c v.1 v.2.1 v.2.2.1 v.2.2.2.1 v.2.2.2.2.1 v.2.2.2.2.2.1) (K9 k)
abbrev Sp80 (c:C80):Prop:=∀ (p0:L70) (p1:L73) (p2:L124) (p3:L77) (p4 p5 y:Int),c p0 p1 p2 p3 p4 p5=some y→Spec Try.prog gl0 80 [.agg [.list 70 ty70 p0,.list 73 ty73 p1,.list 124 ty124 p2,.list 77 ty77 p3,.int .i64 p4],.c (.int .i64 p5)] [] (.c (.int .i64 y)) []
theorem ek80 {R:Type} {c:C80} (hs:Sp80 c):EOk 80 (e80 (R:=R) c):=qah fun v=>hs v.1 v.2.1 v.2.2.1 v.2.2.2.1 v.2.2.2.2.1 v.2.2.2.2.2.1
theorem sf80:Sp80 (F80):=fun p0 p1 p2 p3 p4 p5 y hy=>by
 refine qae qad 1000000 (fn:=Try.f80) (by kernel_rfl) (by kernel_rfl) (X:=X80) (by kernel_rfl) ?_
 rw [eq80]
 exact (nt80 Ops.std p0 p1 p2 p3 p4 p5 some (K9 k0)).trans (by show ob (F80 p0 p1 p2 p3 p4 p5) _=_;rw [hy];rfl)
noncomputable def M80:C80:=F80
theorem sm80:Sp80 M80:=sf80
def X79:Aux:=⟨[],[(1,.lin [0,1,2,3,4,5,6,7,8])]⟩
def T79 {R:Type} (B:Ops) (c80:C80) (p0:Int) (p1:L49) (p2:L70) (p3:L73) (p4:L124) (p5:L77) (p6:Int) (k:(Bool×L49×L70×L73×L124×L77×Int)→Option R):Option R:=cond (B.inb 0 p1.length) (ob (c80 p2 p3 p4 p5 p6 p0) fun y0=>cond (B.inb y0 (List.length (p1.getD (Int.toNat 0) ty49.dflt))) (k ((List.getD (p1.getD (Int.toNat 0) ty49.dflt) y0.toNat (Ty.dflt Ty.bool),p1,p2,p3,p4,p5,p6))) none) none
abbrev K29 {R:Type} (k:AV→Objs→Option R) (y:(Bool×L49×L70×L73×L124×L77×Int)):Option R:=k (.c (.bool y.1)) [(1,.box 47 [.list 49 ty49 y.2.1]),(2,.box 81 [.list 70 ty70 y.2.2.1,.list 73 ty73 y.2.2.2.1,.list 124 ty124 y.2.2.2.2.1,.list 77 ty77 y.2.2.2.2.2.1,.int .i64 y.2.2.2.2.2.2])]
theorem eq79 {R:Type} (B:Ops) (c80:C80) (p0:Int) (p1:L49) (p2:L70) (p3:L73) (p4:L124) (p5:L77) (p6:Int) (k:AV→Objs→Option R) (n:Nat):afun tau B gl0 X79 (ent 80 (e80 c80) gnil) ow Try.f79 [.c (.int .i64 p0),.c (.ptr 1 0),.c (.ptr 2 0)] [(1,.box 47 [.list 49 ty49 p1]),(2,.box 81 [.list 70 ty70 p2,.list 73 ty73 p3,.list 124 ty124 p4,.list 77 ty77 p5,.int .i64 p6])] k n=T79 B c80 p0 p1 p2 p3 p4 p5 p6 (K29 k):=by kernel_rfl
theorem nt79 {R R':Type} (B:Ops) (c80:C80) (p0:Int) (p1:L49) (p2:L70) (p3:L73) (p4:L124) (p5:L77) (p6:Int) (k0:(Bool×L49×L70×L73×L124×L77×Int)→Option R') (k:R'→Option R):T79 B c80 p0 p1 p2 p3 p4 p5 p6 (fun y=>ob (k0 y) k)=ob (T79 B c80 p0 p1 p2 p3 p4 p5 p6 k0) k:=by
 unfold T79
 repeat' first | exact rfl | apply qaa | (apply qaf;intro)
def F79 (c80:C80) (p0:Int) (p1:L49) (p2:L70) (p3:L73) (p4:L124) (p5:L77) (p6:Int):Option (Bool×L49×L70×L73×L124×L77×Int):=T79 Ops.std c80 p0 p1 p2 p3 p4 p5 p6 some
abbrev C79:Type:=Int→L49→L70→L73→L124→L77→Int→Option (Bool×L49×L70×L73×L124×L77×Int)
def e79 {R:Type} (c:C79):Ent R:=eG [.aC (.cI .i64),.aC (.cP 1),.aC (.cP 2)] [.oB 1 47 [.cL 49 ty49],.oB 2 81 [.cL 70 ty70,.cL 73 ty73,.cL 124 ty124,.cL 77 ty77,.cI .i64]] fun v k=>ob (c v.1 v.2.1 v.2.2.1 v.2.2.2.1 v.2.2.2.2.1 v.2.2.2.2.2.1 v.2.2.2.2.2.2.1) (K29 k)
abbrev Sp79 (c:C79):Prop:=∀ (p0:Int) (p1:L49) (p2:L70) (p3:L73) (p4:L124) (p5:L77) (p6:Int) (y:Bool×L49×L70×L73×L124×L77×Int),c p0 p1 p2 p3 p4 p5 p6=some y→Spec Try.prog gl0 79 [.c (.int .i64 p0),.c (.ptr 1 0),.c (.ptr 2 0)] [(1,.box 47 [.list 49 ty49 p1]),(2,.box 81 [.list 70 ty70 p2,.list 73 ty73 p3,.list 124 ty124 p4,.list 77 ty77 p5,.int .i64 p6])] (.c (.bool y.1)) [(1,.box 47 [.list 49 ty49 y.2.1]),(2,.box 81 [.list 70 ty70 y.2.2.1,.list 73 ty73 y.2.2.2.1,.list 124 ty124 y.2.2.2.2.1,.list 77 ty77 y.2.2.2.2.2.1,.int .i64 y.2.2.2.2.2.2])]
theorem ek79 {R:Type} {c:C79} (hs:Sp79 c):EOk 79 (e79 (R:=R) c):=qah fun v=>hs v.1 v.2.1 v.2.2.1 v.2.2.2.1 v.2.2.2.2.1 v.2.2.2.2.2.1 v.2.2.2.2.2.2.1
theorem sf79 {c80:C80} (h80:Sp80 c80):Sp79 (F79 c80):=fun p0 p1 p2 p3 p4 p5 p6 y hy=>by
 refine qae (qac (ek80 h80) qad) 1000000 (fn:=Try.f79) (by kernel_rfl) (by kernel_rfl) (X:=X79) (by kernel_rfl) ?_
 rw [eq79]
 exact (nt79 Ops.std c80 p0 p1 p2 p3 p4 p5 p6 some (K29 k0)).trans (by show ob (F79 c80 p0 p1 p2 p3 p4 p5 p6) _=_;rw [hy];rfl)
noncomputable def M79:C79:=F79 M80
theorem sm79:Sp79 M79:=sf79 sm80
def X164:Aux:=⟨[(3,([0,2,3,4,6,7,8,9,10,11]++rg 14 10))],[]⟩
inductive S164 where
 | l0 (v0 v1:Int) (v2:L4) (v3:L49) (v4:L70) (v5:L73) (v6:L124) (v7:L77) (v8:Int)
def T164 {R:Type} (B:Ops) (c79:C79) (p0:L70) (p1:L73) (p2:L124) (p3:L77) (p4:Int) (p5:L49) (p6:L70) (p7:L73) (p8:L124) (p9:L77) (p10:Int) (again:S164→Option R) (k:(L4×L49×L70×L73×L124×L77×Int)→Option R):Option S164→Option R | none=>cond (bif B.eq (↑p3.length) (↑p3.length) then bif B.le 0 (↑p3.length) then B.lim (Int.toNat (↑p3.length)) 1 else false else false) (again (.l0 (Nat.cast (List.length (List.replicate (Int.toNat (↑p3.length)) (Ty.dflt Ty.bool)))) 0 (List.replicate (Int.toNat (↑p3.length)) (Ty.dflt Ty.bool)) p5 p6 p7 p8 p9 p10)) none | some (.l0 v0 v1 v2 v3 v4 v5 v6 v7 v8)=>cond (B.lt v1 v0) (ob (c79 v1 v3 v4 v5 v6 v7 v8) fun y0=>cond (B.inb v1 v2.length) (again (.l0 v0 (IntKind.wrap .i64 (v1+1)) (List.set v2 v1.toNat y0.1) y0.2.1 y0.2.2.1 y0.2.2.2.1 y0.2.2.2.2.1 y0.2.2.2.2.2.1 y0.2.2.2.2.2.2)) none) (k (v2,v3,v4,v5,v6,v7,v8))
def E164 (p0:L70) (p1:L73) (p2:L124) (p3:L77) (p4:Int) (p5:L49) (p6:L70) (p7:L73) (p8:L124) (p9:L77) (p10:Int):S164→List AV×Objs
 | .l0 v0 v1 v2 v3 v4 v5 v6 v7 v8=>(mk 24 [(1,.fn 79 [.ptr 2500 0,.ptr 2501 0]),(5,.c (.own 5)),(12,.c (.int .i64 v0)),(13,.c (.int .i64 v1))],[(5,.row 4 ty4 v2),(2500,.box 47 [.list 49 ty49 v3]),(2501,.box 81 [.list 70 ty70 v4,.list 73 ty73 v5,.list 124 ty124 v6,.list 77 ty77 v7,.int .i64 v8])])
def I164:S164→Nat
 | .l0 _ _ _ _ _ _ _ _ _=>0
abbrev K30 {R:Type} (k:AV→Objs→Option R) (y:(L4×L49×L70×L73×L124×L77×Int)):Option R:=k (.c (.own 500)) [(500,.row 4 ty4 y.1),(2500,.box 47 [.list 49 ty49 y.2.1]),(2501,.box 81 [.list 70 ty70 y.2.2.1,.list 73 ty73 y.2.2.2.1,.list 124 ty124 y.2.2.2.2.1,.list 77 ty77 y.2.2.2.2.2.1,.int .i64 y.2.2.2.2.2.2])]
noncomputable abbrev A164 {R:Type} (B:Ops) (c79:C79) (p0:L70) (p1:L73) (p2:L124) (p3:L77) (p4:Int) (p5:L49) (p6:L70) (p7:L73) (p8:L124) (p9:L77) (p10:Int) (k:AV→Objs→Option R) (s:S164) (n:Nat):Option R:=aloop tau B gl0 X164 (ent 79 (e79 c79) gnil) ow [2500,2501] Try.f71 k (I164 s) (E164 p0 p1 p2 p3 p4 p5 p6 p7 p8 p9 p10 s) n
theorem eq164 {R:Type} (B:Ops) (c79:C79) (p0:L70) (p1:L73) (p2:L124) (p3:L77) (p4:Int) (p5:L49) (p6:L70) (p7:L73) (p8:L124) (p9:L77) (p10:Int) (k:AV→Objs→Option R) (n:Nat):afun tau B gl0 X164 (ent 79 (e79 c79) gnil) ow Try.f71 [.agg [.list 70 ty70 p0,.list 73 ty73 p1,.list 124 ty124 p2,.list 77 ty77 p3,.int .i64 p4],.fn 79 [.ptr 2500 0,.ptr 2501 0]] [(2500,.box 47 [.list 49 ty49 p5]),(2501,.box 81 [.list 70 ty70 p6,.list 73 ty73 p7,.list 124 ty124 p8,.list 77 ty77 p9,.int .i64 p10])] k n=T164 B c79 p0 p1 p2 p3 p4 p5 p6 p7 p8 p9 p10 (fun s=>A164 B c79 p0 p1 p2 p3 p4 p5 p6 p7 p8 p9 p10 k s n) (K30 k) none:=by kernel_rfl
theorem el164 {R:Type} (B:Ops) (c79:C79) (p0:L70) (p1:L73) (p2:L124) (p3:L77) (p4:Int) (p5:L49) (p6:L70) (p7:L73) (p8:L124) (p9:L77) (p10:Int) (k:AV→Objs→Option R) (n:Nat):∀ s,A164 B c79 p0 p1 p2 p3 p4 p5 p6 p7 p8 p9 p10 k s (n+1)=T164 B c79 p0 p1 p2 p3 p4 p5 p6 p7 p8 p9 p10 (fun s=>A164 B c79 p0 p1 p2 p3 p4 p5 p6 p7 p8 p9 p10 k s n) (K30 k) (some s):=by
 intro s
 cases s<;>kernel_rfl
theorem nt164 {R R':Type} (B:Ops) (c79:C79) (p0:L70) (p1:L73) (p2:L124) (p3:L77) (p4:Int) (p5:L49) (p6:L70) (p7:L73) (p8:L124) (p9:L77) (p10:Int) (again:S164→Option R) (again':S164→Option R') (k0:(L4×L49×L70×L73×L124×L77×Int)→Option R') (k:R'→Option R) (h:∀ s,again s=ob (again' s) k):∀ s,T164 B c79 p0 p1 p2 p3 p4 p5 p6 p7 p8 p9 p10 again (fun y=>ob (k0 y) k) s=ob (T164 B c79 p0 p1 p2 p3 p4 p5 p6 p7 p8 p9 p10 again' k0 s) k:=by
 rintro (_ | x)
 all_goals try cases x
 all_goals (unfold T164;repeat' first | exact rfl | exact h _ | apply qaa | (apply qaf;intro))
def R164 (c79:C79) (p0:L70) (p1:L73) (p2:L124) (p3:L77) (p4:Int) (p5:L49) (p6:L70) (p7:L73) (p8:L124) (p9:L77) (p10:Int):Nat→S164→Option (L4×L49×L70×L73×L124×L77×Int)
 | 0,_=>none
 | n+1,s=>T164 Ops.std c79 p0 p1 p2 p3 p4 p5 p6 p7 p8 p9 p10 (R164 c79 p0 p1 p2 p3 p4 p5 p6 p7 p8 p9 p10 n) some (some s)
theorem rr164 {R:Type} (c79:C79) (p0:L70) (p1:L73) (p2:L124) (p3:L77) (p4:Int) (p5:L49) (p6:L70) (p7:L73) (p8:L124) (p9:L77) (p10:Int) (k:AV→Objs→Option R):∀ (n:Nat) (s:S164),A164 Ops.std c79 p0 p1 p2 p3 p4 p5 p6 p7 p8 p9 p10 k s n=ob (R164 c79 p0 p1 p2 p3 p4 p5 p6 p7 p8 p9 p10 n s) (K30 k)
 | 0,s=>by cases s<;>rfl
 | n+1,s=>by rw [el164];exact nt164 Ops.std c79 p0 p1 p2 p3 p4 p5 p6 p7 p8 p9 p10 _ _ some (K30 k) (rr164 c79 p0 p1 p2 p3 p4 p5 p6 p7 p8 p9 p10 k n) (some s)
def F164 (c79:C79) (p0:L70) (p1:L73) (p2:L124) (p3:L77) (p4:Int) (p5:L49) (p6:L70) (p7:L73) (p8:L124) (p9:L77) (p10:Int):Option (L4×L49×L70×L73×L124×L77×Int):=T164 Ops.std c79 p0 p1 p2 p3 p4 p5 p6 p7 p8 p9 p10 (R164 c79 p0 p1 p2 p3 p4 p5 p6 p7 p8 p9 p10 1000000) some none
abbrev C164:Type:=L70→L73→L124→L77→Int→L49→L70→L73→L124→L77→Int→Option (L4×L49×L70×L73×L124×L77×Int)
def e164 {R:Type} (c:C164):Ent R:=eG [.aG [.cL 70 ty70,.cL 73 ty73,.cL 124 ty124,.cL 77 ty77,.cI .i64],.aF 79 [.cP 2500,.cP 2501]] [.oB 2500 47 [.cL 49 ty49],.oB 2501 81 [.cL 70 ty70,.cL 73 ty73,.cL 124 ty124,.cL 77 ty77,.cI .i64]] fun v k=>ob (c v.1 v.2.1 v.2.2.1 v.2.2.2.1 v.2.2.2.2.1 v.2.2.2.2.2.1 v.2.2.2.2.2.2.1 v.2.2.2.2.2.2.2.1 v.2.2.2.2.2.2.2.2.1 v.2.2.2.2.2.2.2.2.2.1 v.2.2.2.2.2.2.2.2.2.2.1) (K30 k)
abbrev Sp164 (c:C164):Prop:=∀ (p0:L70) (p1:L73) (p2:L124) (p3:L77) (p4:Int) (p5:L49) (p6:L70) (p7:L73) (p8:L124) (p9:L77) (p10:Int) (y:L4×L49×L70×L73×L124×L77×Int),c p0 p1 p2 p3 p4 p5 p6 p7 p8 p9 p10=some y→Spec Try.prog gl0 71 [.agg [.list 70 ty70 p0,.list 73 ty73 p1,.list 124 ty124 p2,.list 77 ty77 p3,.int .i64 p4],.fn 79 [.ptr 2500 0,.ptr 2501 0]] [(2500,.box 47 [.list 49 ty49 p5]),(2501,.box 81 [.list 70 ty70 p6,.list 73 ty73 p7,.list 124 ty124 p8,.list 77 ty77 p9,.int .i64 p10])] (.c (.own 500)) [(500,.row 4 ty4 y.1),(2500,.box 47 [.list 49 ty49 y.2.1]),(2501,.box 81 [.list 70 ty70 y.2.2.1,.list 73 ty73 y.2.2.2.1,.list 124 ty124 y.2.2.2.2.1,.list 77 ty77 y.2.2.2.2.2.1,.int .i64 y.2.2.2.2.2.2])]
theorem ek164 {R:Type} {c:C164} (hs:Sp164 c):EOk 71 (e164 (R:=R) c):=qah fun v=>hs v.1 v.2.1 v.2.2.1 v.2.2.2.1 v.2.2.2.2.1 v.2.2.2.2.2.1 v.2.2.2.2.2.2.1 v.2.2.2.2.2.2.2.1 v.2.2.2.2.2.2.2.2.1 v.2.2.2.2.2.2.2.2.2.1 v.2.2.2.2.2.2.2.2.2.2.1
theorem sf164 {c79:C79} (h79:Sp79 c79):Sp164 (F164 c79):=fun p0 p1 p2 p3 p4 p5 p6 p7 p8 p9 p10 y hy=>by
 refine qae (qac (ek79 h79) qad) 1000000 (fn:=Try.f71) (by kernel_rfl) (by kernel_rfl) (X:=X164) (by kernel_rfl) ?_
 rw [eq164]
 exact (nt164 Ops.std c79 p0 p1 p2 p3 p4 p5 p6 p7 p8 p9 p10 _ _ some (K30 k0) (rr164 c79 p0 p1 p2 p3 p4 p5 p6 p7 p8 p9 p10 k0 1000000) none).trans (by show ob (F164 c79 p0 p1 p2 p3 p4 p5 p6 p7 p8 p9 p10) _=_;rw [hy];rfl)
noncomputable def M164:C164:=F164 M79
theorem sm164:Sp164 M164:=sf164 sm79
def X127:Aux:=⟨[],[]⟩
def T127 {R:Type} (B:Ops) (p0:Int) (k:(Int)→Option R):Option R:=k (bif true then bif B.lt (-99999) (bif false then bif B.lt p0 99999 then 99999 else p0 else bif B.lt 99999 p0 then 99999 else p0) then bif false then bif B.lt p0 99999 then 99999 else p0 else bif B.lt 99999 p0 then 99999 else p0 else -99999 else bif B.lt (bif false then bif B.lt p0 99999 then 99999 else p0 else bif B.lt 99999 p0 then 99999 else p0) (-99999) then bif false then bif B.lt p0 99999 then 99999 else p0 else bif B.lt 99999 p0 then 99999 else p0 else -99999)
theorem eq127 {R:Type} (B:Ops) (p0:Int) (k:AV→Objs→Option R) (n:Nat):afun tau B gl0 X127 gnil ow Try.f127 [.c (.int .i64 p0)] [] k n=T127 B p0 (K9 k):=by kernel_rfl
theorem nt127 {R R':Type} (B:Ops) (p0:Int) (k0:(Int)→Option R') (k:R'→Option R):T127 B p0 (fun y=>ob (k0 y) k)=ob (T127 B p0 k0) k:=by
 unfold T127
 repeat' first | exact rfl | apply qaa | (apply qaf;intro)
def F127 (p0:Int):Option (Int):=T127 Ops.std p0 some
abbrev C127:Type:=Int→Option (Int)
def e127 {R:Type} (c:C127):Ent R:=eG [.aC (.cI .i64)] [] fun v k=>ob (c v.1) (K9 k)
abbrev Sp127 (c:C127):Prop:=∀ (p0 y:Int),c p0=some y→Spec Try.prog gl0 127 [.c (.int .i64 p0)] [] (.c (.int .i64 y)) []
theorem ek127 {R:Type} {c:C127} (hs:Sp127 c):EOk 127 (e127 (R:=R) c):=qah fun v=>hs v.1
theorem sf127:Sp127 (F127):=fun p0 y hy=>by
 refine qae qad 1000000 (fn:=Try.f127) (by kernel_rfl) (by kernel_rfl) (X:=X127) (by kernel_rfl) ?_
 rw [eq127]
 exact (nt127 Ops.std p0 some (K9 k0)).trans (by show ob (F127 p0) _=_;rw [hy];rfl)
noncomputable def M127:C127:=F127
theorem sm127:Sp127 M127:=sf127
def X128:Aux:=⟨[],[]⟩
def T128 {R:Type} (B:Ops) (p0:Bool) (k:(Int)→Option R):Option R:=cond (p0) (k 1) (k 0)
theorem eq128 {R:Type} (B:Ops) (p0:Bool) (k:AV→Objs→Option R) (n:Nat):afun tau B gl0 X128 gnil ow Try.f128 [.c (.bool p0)] [] k n=T128 B p0 (K9 k):=by kernel_rfl
theorem nt128 {R R':Type} (B:Ops) (p0:Bool) (k0:(Int)→Option R') (k:R'→Option R):T128 B p0 (fun y=>ob (k0 y) k)=ob (T128 B p0 k0) k:=by
 unfold T128
 repeat' first | exact rfl | apply qaa | (apply qaf;intro)
def F128 (p0:Bool):Option (Int):=T128 Ops.std p0 some
abbrev C128:Type:=Bool→Option (Int)
def e128 {R:Type} (c:C128):Ent R:=eG [.aC .cB] [] fun v k=>ob (c v.1) (K9 k)
abbrev Sp128 (c:C128):Prop:=∀ (p0:Bool) (y:Int),c p0=some y→Spec Try.prog gl0 128 [.c (.bool p0)] [] (.c (.int .i64 y)) []
theorem ek128 {R:Type} {c:C128} (hs:Sp128 c):EOk 128 (e128 (R:=R) c):=qah fun v=>hs v.1
theorem sf128:Sp128 (F128):=fun p0 y hy=>by
 refine qae qad 1000000 (fn:=Try.f128) (by kernel_rfl) (by kernel_rfl) (X:=X128) (by kernel_rfl) ?_
 rw [eq128]
 exact (nt128 Ops.std p0 some (K9 k0)).trans (by show ob (F128 p0) _=_;rw [hy];rfl)
noncomputable def M128:C128:=F128
theorem sm128:Sp128 M128:=sf128
def X129:Aux:=⟨[],[]⟩
def T129 {R:Type} (B:Ops) (c127:C127) (c128:C128) (p0 p1 p2:Int) (k:(Int)→Option R):Option R:=cond (B.eq p0 6) (ob (c127 (IntKind.wrap .i64 (p1*p2))) fun y0=>k y0) (cond (B.eq p0 7) (ob (c127 (IntKind.wrap .i64 (p1+p2))) fun y0=>k y0) (cond (B.eq p0 8) (ob (c127 (IntKind.wrap .i64 (p1-p2))) fun y0=>k y0) (cond (B.eq p0 9) (ob (c128 (B.lt p1 p2)) fun y0=>k y0) (cond (B.eq p0 10) (ob (c128 (B.le p1 p2)) fun y0=>k y0) (cond (B.eq p0 11) (ob (c128 (B.lt p2 p1)) fun y0=>k y0) (cond (B.eq p0 12) (ob (c128 (B.le p2 p1)) fun y0=>k y0) (cond (B.eq p0 13) (ob (c128 (B.eq p1 p2)) fun y0=>k y0) (cond (B.eq p0 14) (ob (c128 !B.eq p1 p2) fun y0=>k y0) (cond (B.eq p0 15) (cond (!B.eq p1 0) (ob (c128 !B.eq p2 0) fun y0=>k y0) (ob (c128 false) fun y0=>k y0)) (cond (!B.eq p1 0) (ob (c128 true) fun y0=>k y0) (ob (c128 !B.eq p2 0) fun y0=>k y0)))))))))))
theorem eq129 {R:Type} (B:Ops) (c127:C127) (c128:C128) (p0 p1 p2:Int) (k:AV→Objs→Option R) (n:Nat):afun tau B gl0 X129 (ent 127 (e127 c127) (ent 128 (e128 c128) gnil)) ow Try.f129 [.c (.int .i64 p0),.c (.int .i64 p1),.c (.int .i64 p2)] [] k n=T129 B c127 c128 p0 p1 p2 (K9 k):=by kernel_rfl
theorem nt129 {R R':Type} (B:Ops) (c127:C127) (c128:C128) (p0 p1 p2:Int) (k0:(Int)→Option R') (k:R'→Option R):T129 B c127 c128 p0 p1 p2 (fun y=>ob (k0 y) k)=ob (T129 B c127 c128 p0 p1 p2 k0) k:=by
 unfold T129
 repeat' first | exact rfl | apply qaa | (apply qaf;intro)
def F129 (c127:C127) (c128:C128) (p0 p1 p2:Int):Option (Int):=T129 Ops.std c127 c128 p0 p1 p2 some
abbrev C129:Type:=Int→Int→Int→Option (Int)
def e129 {R:Type} (c:C129):Ent R:=eG [.aC (.cI .i64),.aC (.cI .i64),.aC (.cI .i64)] [] fun v k=>ob (c v.1 v.2.1 v.2.2.1) (K9 k)
abbrev Sp129 (c:C129):Prop:=∀ (p0 p1 p2 y:Int),c p0 p1 p2=some y→Spec Try.prog gl0 129 [.c (.int .i64 p0),.c (.int .i64 p1),.c (.int .i64 p2)] [] (.c (.int .i64 y)) []
theorem ek129 {R:Type} {c:C129} (hs:Sp129 c):EOk 129 (e129 (R:=R) c):=qah fun v=>hs v.1 v.2.1 v.2.2.1
theorem sf129 {c127:C127} {c128:C128} (h127:Sp127 c127) (h128:Sp128 c128):Sp129 (F129 c127 c128):=fun p0 p1 p2 y hy=>by
 refine qae (qac (ek127 h127) (qac (ek128 h128) qad)) 1000000 (fn:=Try.f129) (by kernel_rfl) (by kernel_rfl) (X:=X129) (by kernel_rfl) ?_
 rw [eq129]
 exact (nt129 Ops.std c127 c128 p0 p1 p2 some (K9 k0)).trans (by show ob (F129 c127 c128 p0 p1 p2) _=_;rw [hy];rfl)
noncomputable def M129:C129:=F129 M127 M128
theorem sm129:Sp129 M129:=sf129 sm127 sm128
def X107:Aux:=⟨[(5,([0,1,2,5,6]++rg 8 28++rg 39 83))],[(14,.lin (rg 0 10)),(10,.lin (rg 0 13))]⟩
inductive S107 where
 | l0 (v1 v2:Int) (v8:L3)
def T107 {R:Type} (B:Ops) (c69:C69) (c116:C116) (c105:C105) (c127:C127) (c106:C106) (c128:C128) (c129:C129) (p0:L70) (p1:L73) (p2:L124) (p3 p4:L3) (p5:L97) (again:S107→Option R) (k:(Int)→Option R):Option S107→Option R | none=>ob (c69 p0 p1 p2 p5) fun y0=>cond (!y0) (k 0) (cond (!B.eq (↑p3.length) (↑p1.length)) (k 0) (cond (!B.eq (↑p4.length) (↑p0.length)) (k 0) (again (.l0 (↑p5.length) 0 (mt (Ty.den (Ty.int .i64))))))) | some (.l0 v1 v2 v8)=>cond (B.lt v2 v1) (cond (B.inb v2 p5.length) (ob (c116 (p5.getD v2.toNat ty97.dflt).1) fun y0=>cond (B.eq (p5.getD v2.toNat ty97.dflt).1 1) (cond (B.inb (IntKind.wrap .i64 (Nat.cast v8.length-y0)) (List.length v8+1)) (cond (B.lim (List.length (List.take (Int.toNat (IntKind.wrap .i64 (Nat.cast v8.length-y0))) v8)+List.length (((p5.getD v2.toNat ty97.dflt).2).1::mt (Ty.den (Ty.int .i64)))) 8) (again (.l0 v1 (IntKind.wrap .i64 (v2+1)) (List.take (Int.toNat (IntKind.wrap .i64 (Nat.cast v8.length-y0))) v8++((p5.getD v2.toNat ty97.dflt).2).1::mt (Ty.den (Ty.int .i64))))) none) none) (cond (B.eq (p5.getD v2.toNat ty97.dflt).1 2) (ob (c105 p0 p1 p2 (((p5.getD v2.toNat ty97.dflt).2).2).1) fun y1=>cond (B.inb y1 p4.length) (ob (c127 (p4.getD y1.toNat ty3.dflt)) fun y2=>cond (B.inb (IntKind.wrap .i64 (Nat.cast v8.length-y0)) (List.length v8+1)) (cond (B.lim (List.length (List.take (Int.toNat (IntKind.wrap .i64 (Nat.cast v8.length-y0))) v8)+List.length (y2::mt (Ty.den (Ty.int .i64)))) 8) (again (.l0 v1 (IntKind.wrap .i64 (v2+1)) (List.take (Int.toNat (IntKind.wrap .i64 (Nat.cast v8.length-y0))) v8++y2::mt (Ty.den (Ty.int .i64))))) none) none) none) (cond (B.eq (p5.getD v2.toNat ty97.dflt).1 3) (ob (c106 p0 p1 p2 (((p5.getD v2.toNat ty97.dflt).2).2).1 (((p5.getD v2.toNat ty97.dflt).2).2).2) fun y1=>cond (B.inb y1.1 p3.length) (ob (c128 (B.eq (p3.getD (Int.toNat y1.1) ty3.dflt) y1.2)) fun y2=>cond (B.inb (IntKind.wrap .i64 (Nat.cast v8.length-y0)) (List.length v8+1)) (cond (B.lim (List.length (List.take (Int.toNat (IntKind.wrap .i64 (Nat.cast v8.length-y0))) v8)+List.length (y2::mt (Ty.den (Ty.int .i64)))) 8) (again (.l0 v1 (IntKind.wrap .i64 (v2+1)) (List.take (Int.toNat (IntKind.wrap .i64 (Nat.cast v8.length-y0))) v8++y2::mt (Ty.den (Ty.int .i64))))) none) none) none) (cond (B.eq (p5.getD v2.toNat ty97.dflt).1 4) (cond (B.inb (IntKind.wrap .i64 (Nat.cast v8.length-y0)) v8.length) (ob (c128 (B.eq (v8.getD (Int.toNat (IntKind.wrap .i64 (Nat.cast v8.length-y0))) ty3.dflt) 0)) fun y1=>cond (B.inb (IntKind.wrap .i64 (Nat.cast v8.length-y0)) (List.length v8+1)) (cond (B.lim (List.length (List.take (Int.toNat (IntKind.wrap .i64 (Nat.cast v8.length-y0))) v8)+List.length (y1::mt (Ty.den (Ty.int .i64)))) 8) (again (.l0 v1 (IntKind.wrap .i64 (v2+1)) (List.take (Int.toNat (IntKind.wrap .i64 (Nat.cast v8.length-y0))) v8++y1::mt (Ty.den (Ty.int .i64))))) none) none) none) (cond (B.eq (p5.getD v2.toNat ty97.dflt).1 5) (cond (B.inb (IntKind.wrap .i64 (Nat.cast v8.length-y0)) v8.length) (ob (c127 (IntKind.wrap .i64 (0-v8.getD (Int.toNat (IntKind.wrap .i64 (Nat.cast v8.length-y0))) ty3.dflt))) fun y1=>cond (B.inb (IntKind.wrap .i64 (Nat.cast v8.length-y0)) (List.length v8+1)) (cond (B.lim (List.length (List.take (Int.toNat (IntKind.wrap .i64 (Nat.cast v8.length-y0))) v8)+List.length (y1::mt (Ty.den (Ty.int .i64)))) 8) (again (.l0 v1 (IntKind.wrap .i64 (v2+1)) (List.take (Int.toNat (IntKind.wrap .i64 (Nat.cast v8.length-y0))) v8++y1::mt (Ty.den (Ty.int .i64))))) none) none) none) (cond (B.inb (IntKind.wrap .i64 (Nat.cast v8.length-y0)) v8.length) (cond (B.inb (IntKind.wrap .i64 (IntKind.wrap .i64 (Nat.cast v8.length-y0)+1)) v8.length) (ob (c129 (p5.getD v2.toNat ty97.dflt).1 (v8.getD (Int.toNat (IntKind.wrap .i64 (Nat.cast v8.length-y0))) ty3.dflt) (v8.getD (Int.toNat (IntKind.wrap .i64 (IntKind.wrap .i64 (Nat.cast v8.length-y0)+1))) ty3.dflt)) fun y1=>cond (B.inb (IntKind.wrap .i64 (Nat.cast v8.length-y0)) (List.length v8+1)) (cond (B.lim (List.length (List.take (Int.toNat (IntKind.wrap .i64 (Nat.cast v8.length-y0))) v8)+List.length (y1::mt (Ty.den (Ty.int .i64)))) 8) (again (.l0 v1 (IntKind.wrap .i64 (v2+1)) (List.take (Int.toNat (IntKind.wrap .i64 (Nat.cast v8.length-y0))) v8++y1::mt (Ty.den (Ty.int .i64))))) none) none) none) none)))))) none) (cond (B.inb 0 v8.length) (k (v8.getD (Int.toNat 0) ty3.dflt)) none)
def E107 (p0:L70) (p1:L73) (p2:L124) (p3 p4:L3) (p5:L97):S107→List AV×Objs
 | .l0 v1 v2 v8=>(mk 122 [(3,.c (.ptr 3 0)),(4,.c (.ptr 4 0)),(7,.c (.own 7)),(36,.c (.list 97 ty97 p5)),(37,.c (.int .i64 v1)),(38,.c (.int .i64 v2))],[(3,.box 41 [.list 70 ty70 p0,.list 73 ty73 p1,.list 124 ty124 p2]),(4,.box 75 [.list 3 ty3 p3,.list 3 ty3 p4]),(7,.row 3 ty3 v8)])
def I107:S107→Nat
 | .l0 _ _ _=>0
noncomputable abbrev A107 {R:Type} (B:Ops) (c69:C69) (c116:C116) (c105:C105) (c127:C127) (c106:C106) (c128:C128) (c129:C129) (p0:L70) (p1:L73) (p2:L124) (p3 p4:L3) (p5:L97) (k:AV→Objs→Option R) (s:S107) (n:Nat):Option R:=aloop tau B gl0 X107 (ent 69 (e69 c69) (ent 116 (e116 c116) (ent 105 (e105 c105) (ent 127 (e127 c127) (ent 106 (e106 c106) (ent 128 (e128 c128) (ent 129 (e129 c129) gnil))))))) ow [] Try.f107 k (I107 s) (E107 p0 p1 p2 p3 p4 p5 s) n
theorem eq107 {R:Type} (B:Ops) (c69:C69) (c116:C116) (c105:C105) (c127:C127) (c106:C106) (c128:C128) (c129:C129) (p0:L70) (p1:L73) (p2:L124) (p3 p4:L3) (p5:L97) (k:AV→Objs→Option R) (n:Nat):afun tau B gl0 X107 (ent 69 (e69 c69) (ent 116 (e116 c116) (ent 105 (e105 c105) (ent 127 (e127 c127) (ent 106 (e106 c106) (ent 128 (e128 c128) (ent 129 (e129 c129) gnil))))))) ow Try.f107 [.agg [.list 70 ty70 p0,.list 73 ty73 p1,.list 124 ty124 p2],.agg [.list 3 ty3 p3,.list 3 ty3 p4],.c (.list 97 ty97 p5)] [] k n=T107 B c69 c116 c105 c127 c106 c128 c129 p0 p1 p2 p3 p4 p5 (fun s=>A107 B c69 c116 c105 c127 c106 c128 c129 p0 p1 p2 p3 p4 p5 k s n) (K9 k) none:=by kernel_rfl
theorem el107 {R:Type} (B:Ops) (c69:C69) (c116:C116) (c105:C105) (c127:C127) (c106:C106) (c128:C128) (c129:C129) (p0:L70) (p1:L73) (p2:L124) (p3 p4:L3) (p5:L97) (k:AV→Objs→Option R) (n:Nat):∀ s,A107 B c69 c116 c105 c127 c106 c128 c129 p0 p1 p2 p3 p4 p5 k s (n+1)=T107 B c69 c116 c105 c127 c106 c128 c129 p0 p1 p2 p3 p4 p5 (fun s=>A107 B c69 c116 c105 c127 c106 c128 c129 p0 p1 p2 p3 p4 p5 k s n) (K9 k) (some s):=by
 intro s
 cases s<;>kernel_rfl
theorem nt107 {R R':Type} (B:Ops) (c69:C69) (c116:C116) (c105:C105) (c127:C127) (c106:C106) (c128:C128) (c129:C129) (p0:L70) (p1:L73) (p2:L124) (p3 p4:L3) (p5:L97) (again:S107→Option R) (again':S107→Option R') (k0:(Int)→Option R') (k:R'→Option R) (h:∀ s,again s=ob (again' s) k):∀ s,T107 B c69 c116 c105 c127 c106 c128 c129 p0 p1 p2 p3 p4 p5 again (fun y=>ob (k0 y) k) s=ob (T107 B c69 c116 c105 c127 c106 c128 c129 p0 p1 p2 p3 p4 p5 again' k0 s) k:=by
 rintro (_ | x)
 all_goals try cases x
 all_goals (unfold T107;repeat' first | exact rfl | exact h _ | apply qaa | (apply qaf;intro))
def R107 (c69:C69) (c116:C116) (c105:C105) (c127:C127) (c106:C106) (c128:C128) (c129:C129) (p0:L70) (p1:L73) (p2:L124) (p3 p4:L3) (p5:L97):Nat→S107→Option (Int)
 | 0,_=>none
 | n+1,s=>T107 Ops.std c69 c116 c105 c127 c106 c128 c129 p0 p1 p2 p3 p4 p5 (R107 c69 c116 c105 c127 c106 c128 c129 p0 p1 p2 p3 p4 p5 n) some (some s)
theorem rr107 {R:Type} (c69:C69) (c116:C116) (c105:C105) (c127:C127) (c106:C106) (c128:C128) (c129:C129) (p0:L70) (p1:L73) (p2:L124) (p3 p4:L3) (p5:L97) (k:AV→Objs→Option R):∀ (n:Nat) (s:S107),A107 Ops.std c69 c116 c105 c127 c106 c128 c129 p0 p1 p2 p3 p4 p5 k s n=ob (R107 c69 c116 c105 c127 c106 c128 c129 p0 p1 p2 p3 p4 p5 n s) (K9 k)
 | 0,s=>by cases s<;>rfl
 | n+1,s=>by rw [el107];exact nt107 Ops.std c69 c116 c105 c127 c106 c128 c129 p0 p1 p2 p3 p4 p5 _ _ some (K9 k) (rr107 c69 c116 c105 c127 c106 c128 c129 p0 p1 p2 p3 p4 p5 k n) (some s)
def F107 (c69:C69) (c116:C116) (c105:C105) (c127:C127) (c106:C106) (c128:C128) (c129:C129) (p0:L70) (p1:L73) (p2:L124) (p3 p4:L3) (p5:L97):Option (Int):=T107 Ops.std c69 c116 c105 c127 c106 c128 c129 p0 p1 p2 p3 p4 p5 (R107 c69 c116 c105 c127 c106 c128 c129 p0 p1 p2 p3 p4 p5 1000000) some none
abbrev C107:Type:=L70→L73→L124→L3→L3→L97→Option (Int)
def e107 {R:Type} (c:C107):Ent R:=eG [.aG [.cL 70 ty70,.cL 73 ty73,.cL 124 ty124],.aG [.cL 3 ty3,.cL 3 ty3],.aC (.cL 97 ty97)] [] fun v k=>ob (c v.1 v.2.1 v.2.2.1 v.2.2.2.1 v.2.2.2.2.1 v.2.2.2.2.2.1) (K9 k)
abbrev Sp107 (c:C107):Prop:=∀ (p0:L70) (p1:L73) (p2:L124) (p3 p4:L3) (p5:L97) (y:Int),c p0 p1 p2 p3 p4 p5=some y→Spec Try.prog gl0 107 [.agg [.list 70 ty70 p0,.list 73 ty73 p1,.list 124 ty124 p2],.agg [.list 3 ty3 p3,.list 3 ty3 p4],.c (.list 97 ty97 p5)] [] (.c (.int .i64 y)) []
theorem ek107 {R:Type} {c:C107} (hs:Sp107 c):EOk 107 (e107 (R:=R) c):=qah fun v=>hs v.1 v.2.1 v.2.2.1 v.2.2.2.1 v.2.2.2.2.1 v.2.2.2.2.2.1
theorem sf107 {c69:C69} {c116:C116} {c105:C105} {c127:C127} {c106:C106} {c128:C128} {c129:C129} (h69:Sp69 c69) (h116:Sp116 c116) (h105:Sp105 c105) (h127:Sp127 c127) (h106:Sp106 c106) (h128:Sp128 c128) (h129:Sp129 c129):Sp107 (F107 c69 c116 c105 c127 c106 c128 c129):=fun p0 p1 p2 p3 p4 p5 y hy=>by
 refine qae (qac (ek69 h69) (qac (ek116 h116) (qac (ek105 h105) (qac (ek127 h127) (qac (ek106 h106) (qac (ek128 h128) (qac (ek129 h129) qad))))))) 1000000 (fn:=Try.f107) (by kernel_rfl) (by kernel_rfl) (X:=X107) (by kernel_rfl) ?_
 rw [eq107]
 exact (nt107 Ops.std c69 c116 c105 c127 c106 c128 c129 p0 p1 p2 p3 p4 p5 _ _ some (K9 k0) (rr107 c69 c116 c105 c127 c106 c128 c129 p0 p1 p2 p3 p4 p5 k0 1000000) none).trans (by show ob (F107 c69 c116 c105 c127 c106 c128 c129 p0 p1 p2 p3 p4 p5) _=_;rw [hy];rfl)
noncomputable def M107:C107:=F107 M69 M116 M105 M127 M106 M128 M129
theorem sm107:Sp107 M107:=sf107 sm69 sm116 sm105 sm127 sm106 sm128 sm129
def X74:Aux:=⟨[(3,([0,3,4,6,7,8,9,10,11,12]++rg 16 16))],[]⟩
inductive S74 where
 | l0 (v2 v3:Int) (v9:L4)
def T74 {R:Type} (B:Ops) (c107:C107) (p0:L70) (p1:L73) (p2:L124) (p3:L77) (p4:Int) (p5:L97) (again:S74→Option R) (k:(L4)→Option R):Option S74→Option R | none=>cond (bif B.eq (↑p3.length) (↑p3.length) then bif B.le 0 (↑p3.length) then B.lim (Int.toNat (↑p3.length)) 1 else false else false) (again (.l0 (↑p3.length) 0 (List.replicate (Int.toNat (↑p3.length)) (Ty.dflt Ty.bool)))) none | some (.l0 v2 v3 v9)=>cond (B.lt v3 v2) (cond (B.inb v3 p3.length) (ob (c107 p0 p1 p2 ((p3.getD v3.toNat ty77.dflt).1).1 ((p3.getD v3.toNat ty77.dflt).1).2 p5) fun y0=>cond (B.inb v3 v9.length) (again (.l0 v2 (IntKind.wrap .i64 (v3+1)) (List.set v9 v3.toNat !B.eq y0 0))) none) none) (k v9)
def E74 (p0:L70) (p1:L73) (p2:L124) (p3:L77) (p4:Int) (p5:L97):S74→List AV×Objs
 | .l0 v2 v3 v9=>(mk 32 [(1,.c (.list 97 ty97 p5)),(2,.c (.ptr 2 0)),(5,.c (.own 5)),(13,.c (.list 77 ty77 p3)),(14,.c (.int .i64 v2)),(15,.c (.int .i64 v3))],[(2,.box 81 [.list 70 ty70 p0,.list 73 ty73 p1,.list 124 ty124 p2,.list 77 ty77 p3,.int .i64 p4]),(5,.row 4 ty4 v9)])
def I74:S74→Nat
 | .l0 _ _ _=>0
noncomputable abbrev A74 {R:Type} (B:Ops) (c107:C107) (p0:L70) (p1:L73) (p2:L124) (p3:L77) (p4:Int) (p5:L97) (k:AV→Objs→Option R) (s:S74) (n:Nat):Option R:=aloop tau B gl0 X74 (ent 107 (e107 c107) gnil) ow [] Try.f74 k (I74 s) (E74 p0 p1 p2 p3 p4 p5 s) n
theorem eq74 {R:Type} (B:Ops) (c107:C107) (p0:L70) (p1:L73) (p2:L124) (p3:L77) (p4:Int) (p5:L97) (k:AV→Objs→Option R) (n:Nat):afun tau B gl0 X74 (ent 107 (e107 c107) gnil) ow Try.f74 [.agg [.list 70 ty70 p0,.list 73 ty73 p1,.list 124 ty124 p2,.list 77 ty77 p3,.int .i64 p4],.c (.list 97 ty97 p5)] [] k n=T74 B c107 p0 p1 p2 p3 p4 p5 (fun s=>A74 B c107 p0 p1 p2 p3 p4 p5 k s n) (K26 k) none:=by kernel_rfl
theorem el74 {R:Type} (B:Ops) (c107:C107) (p0:L70) (p1:L73) (p2:L124) (p3:L77) (p4:Int) (p5:L97) (k:AV→Objs→Option R) (n:Nat):∀ s,A74 B c107 p0 p1 p2 p3 p4 p5 k s (n+1)=T74 B c107 p0 p1 p2 p3 p4 p5 (fun s=>A74 B c107 p0 p1 p2 p3 p4 p5 k s n) (K26 k) (some s):=by
 intro s
 cases s<;>kernel_rfl
theorem nt74 {R R':Type} (B:Ops) (c107:C107) (p0:L70) (p1:L73) (p2:L124) (p3:L77) (p4:Int) (p5:L97) (again:S74→Option R) (again':S74→Option R') (k0:(L4)→Option R') (k:R'→Option R) (h:∀ s,again s=ob (again' s) k):∀ s,T74 B c107 p0 p1 p2 p3 p4 p5 again (fun y=>ob (k0 y) k) s=ob (T74 B c107 p0 p1 p2 p3 p4 p5 again' k0 s) k:=by
 rintro (_ | x)
 all_goals try cases x
 all_goals (unfold T74;repeat' first | exact rfl | exact h _ | apply qaa | (apply qaf;intro))
def R74 (c107:C107) (p0:L70) (p1:L73) (p2:L124) (p3:L77) (p4:Int) (p5:L97):Nat→S74→Option (L4)
 | 0,_=>none
 | n+1,s=>T74 Ops.std c107 p0 p1 p2 p3 p4 p5 (R74 c107 p0 p1 p2 p3 p4 p5 n) some (some s)
theorem rr74 {R:Type} (c107:C107) (p0:L70) (p1:L73) (p2:L124) (p3:L77) (p4:Int) (p5:L97) (k:AV→Objs→Option R):∀ (n:Nat) (s:S74),A74 Ops.std c107 p0 p1 p2 p3 p4 p5 k s n=ob (R74 c107 p0 p1 p2 p3 p4 p5 n s) (K26 k)
 | 0,s=>by cases s<;>rfl
 | n+1,s=>by rw [el74];exact nt74 Ops.std c107 p0 p1 p2 p3 p4 p5 _ _ some (K26 k) (rr74 c107 p0 p1 p2 p3 p4 p5 k n) (some s)
def F74 (c107:C107) (p0:L70) (p1:L73) (p2:L124) (p3:L77) (p4:Int) (p5:L97):Option (L4):=T74 Ops.std c107 p0 p1 p2 p3 p4 p5 (R74 c107 p0 p1 p2 p3 p4 p5 1000000) some none
abbrev C74:Type:=L70→L73→L124→L77→Int→L97→Option (L4)
def e74 {R:Type} (c:C74):Ent R:=eG [.aG [.cL 70 ty70,.cL 73 ty73,.cL 124 ty124,.cL 77 ty77,.cI .i64],.aC (.cL 97 ty97)] [] fun v k=>ob (c v.1 v.2.1 v.2.2.1 v.2.2.2.1 v.2.2.2.2.1 v.2.2.2.2.2.1) (K26 k)
abbrev Sp74 (c:C74):Prop:=∀ (p0:L70) (p1:L73) (p2:L124) (p3:L77) (p4:Int) (p5:L97) (y:L4),c p0 p1 p2 p3 p4 p5=some y→Spec Try.prog gl0 74 [.agg [.list 70 ty70 p0,.list 73 ty73 p1,.list 124 ty124 p2,.list 77 ty77 p3,.int .i64 p4],.c (.list 97 ty97 p5)] [] (.c (.own 500)) [(500,.row 4 ty4 y)]
theorem ek74 {R:Type} {c:C74} (hs:Sp74 c):EOk 74 (e74 (R:=R) c):=qah fun v=>hs v.1 v.2.1 v.2.2.1 v.2.2.2.1 v.2.2.2.2.1 v.2.2.2.2.2.1
theorem sf74 {c107:C107} (h107:Sp107 c107):Sp74 (F74 c107):=fun p0 p1 p2 p3 p4 p5 y hy=>by
 refine qae (qac (ek107 h107) qad) 1000000 (fn:=Try.f74) (by kernel_rfl) (by kernel_rfl) (X:=X74) (by kernel_rfl) ?_
 rw [eq74]
 exact (nt74 Ops.std c107 p0 p1 p2 p3 p4 p5 _ _ some (K26 k0) (rr74 c107 p0 p1 p2 p3 p4 p5 k0 1000000) none).trans (by show ob (F74 c107 p0 p1 p2 p3 p4 p5) _=_;rw [hy];rfl)
noncomputable def M74:C74:=F74 M107
theorem sm74:Sp74 M74:=sf74 sm107
def X81:Aux:=⟨[(3,([0,5,6,7,8,10,11,12,13,14,15,16,17,18]++rg 21 66)),(8,([0,5,6,7,8,10]++rg 12 75)),(11,([0,5,6,7,8,10]++rg 13 74)),(1000014,([0,5,6,7,8,10]++rg 14 73)),(1000016,([0,5,6,7,8,10]++rg 14 73))],[]⟩
inductive S81 where
 | l0 (v3 v4:Int) (v10:L4)
 | l1 (v3:Bool) (v9:L4)
 | l2 (v3:Bool) (v4:Int) (v10:L4)
 | l1014 (v3:Bool) (v4:Int) (v5:Bool) (v11:L4)
 | l1016 (v3:Bool) (v4:Int) (v5:Bool) (v11:L4)
def T81 {R:Type} (B:Ops) (c80:C80) (p0:L70) (p1:L73) (p2:L124) (p3:L77) (p4:Int) (p5 p6:L4) (p7:Bool) (again:S81→Option R) (k:(L4)→Option R):Option S81→Option R | none=>cond (bif B.eq (↑p3.length) (↑p3.length) then bif B.le 0 (↑p3.length) then B.lim (Int.toNat (↑p3.length)) 1 else false else false) (again (.l0 (Nat.cast (List.length (List.replicate (Int.toNat (↑p3.length)) (Ty.dflt Ty.bool)))) 0 (List.replicate (Int.toNat (↑p3.length)) (Ty.dflt Ty.bool)))) none | some (.l0 v3 v4 v10)=>cond (B.lt v4 v3) (cond (B.inb v4 v10.length) (again (.l0 v3 (IntKind.wrap .i64 (v4+1)) (List.set v10 v4.toNat p7))) none) (again (.l1 true v10)) | some (.l1 v3 v9)=>cond (v3) (again (.l2 false (IntKind.wrap .i64 (Nat.cast v9.length-1)) v9)) (k v9) | some (.l2 v3 v4 v10)=>cond (B.le 0 v4) (cond (B.inb v4 p6.length) (cond (p6.getD v4.toNat ty4.dflt) (again (.l1014 v3 v4 true v10)) (cond (B.inb v4 p5.length) (cond (p5.getD v4.toNat ty4.dflt) (ob (c80 p0 p1 p2 p3 p4 v4) fun y0=>cond (B.inb y0 v10.length) (again (.l1014 v3 v4 (v10.getD y0.toNat ty4.dflt) v10)) none) (again (.l1014 v3 v4 false v10))) none)) none) (again (.l1 v3 v10)) | some (.l1014 v3 v4 v5 v11)=>cond (p7) (cond (B.inb v4 p6.length) (cond (p6.getD v4.toNat ty4.dflt) (cond (B.inb v4 p5.length) (cond (p5.getD v4.toNat ty4.dflt) (again (.l1016 v3 v4 true v11)) (ob (c80 p0 p1 p2 p3 p4 v4) fun y0=>cond (B.inb y0 v11.length) (again (.l1016 v3 v4 (v11.getD y0.toNat ty4.dflt) v11)) none)) none) (again (.l1016 v3 v4 false v11))) none) (again (.l1016 v3 v4 v5 v11)) | some (.l1016 v3 v4 v5 v11)=>cond (v3) (cond (B.inb v4 v11.length) (again (.l2 true (IntKind.wrap .i64 (v4-1)) (List.set v11 v4.toNat v5))) none) (cond (B.inb v4 v11.length) (cond (B.inb v4 v11.length) (again (.l2 (!v5 == v11.getD v4.toNat ty4.dflt) (IntKind.wrap .i64 (v4-1)) (List.set v11 v4.toNat v5))) none) none)
def E81 (p0:L70) (p1:L73) (p2:L124) (p3:L77) (p4:Int) (p5 p6:L4) (p7:Bool):S81→List AV×Objs
 | .l0 v3 v4 v10=>(mk 87 [(1,.c (.list 4 ty4 p5)),(2,.c (.list 4 ty4 p6)),(3,.c (.bool p7)),(4,.c (.ptr 4 0)),(9,.c (.own 9)),(19,.c (.int .i64 v3)),(20,.c (.int .i64 v4))],[(4,.box 81 [.list 70 ty70 p0,.list 73 ty73 p1,.list 124 ty124 p2,.list 77 ty77 p3,.int .i64 p4]),(9,.row 4 ty4 v10)])
 | .l1 v3 v9=>(mk 87 [(1,.c (.list 4 ty4 p5)),(2,.c (.list 4 ty4 p6)),(3,.c (.bool p7)),(4,.c (.ptr 4 0)),(9,.c (.own 9)),(11,.c (.bool v3))],[(4,.box 81 [.list 70 ty70 p0,.list 73 ty73 p1,.list 124 ty124 p2,.list 77 ty77 p3,.int .i64 p4]),(9,.row 4 ty4 v9)])
 | .l2 v3 v4 v10=>(mk 87 [(1,.c (.list 4 ty4 p5)),(2,.c (.list 4 ty4 p6)),(3,.c (.bool p7)),(4,.c (.ptr 4 0)),(9,.c (.own 9)),(11,.c (.bool v3)),(12,.c (.int .i64 v4))],[(4,.box 81 [.list 70 ty70 p0,.list 73 ty73 p1,.list 124 ty124 p2,.list 77 ty77 p3,.int .i64 p4]),(9,.row 4 ty4 v10)])
 | .l1014 v3 v4 v5 v11=>(mk 87 [(1,.c (.list 4 ty4 p5)),(2,.c (.list 4 ty4 p6)),(3,.c (.bool p7)),(4,.c (.ptr 4 0)),(9,.c (.own 9)),(11,.c (.bool v3)),(12,.c (.int .i64 v4)),(13,.c (.bool v5))],[(4,.box 81 [.list 70 ty70 p0,.list 73 ty73 p1,.list 124 ty124 p2,.list 77 ty77 p3,.int .i64 p4]),(9,.row 4 ty4 v11)])
 | .l1016 v3 v4 v5 v11=>(mk 87 [(1,.c (.list 4 ty4 p5)),(2,.c (.list 4 ty4 p6)),(3,.c (.bool p7)),(4,.c (.ptr 4 0)),(9,.c (.own 9)),(11,.c (.bool v3)),(12,.c (.int .i64 v4)),(13,.c (.bool v5))],[(4,.box 81 [.list 70 ty70 p0,.list 73 ty73 p1,.list 124 ty124 p2,.list 77 ty77 p3,.int .i64 p4]),(9,.row 4 ty4 v11)])
def I81:S81→Nat
 | .l0 _ _ _=>0
 | .l1 _ _=>1
 | .l2 _ _ _=>2
 | .l1014 _ _ _ _=>1014
 | .l1016 _ _ _ _=>1016
noncomputable abbrev A81 {R:Type} (B:Ops) (c80:C80) (p0:L70) (p1:L73) (p2:L124) (p3:L77) (p4:Int) (p5 p6:L4) (p7:Bool) (k:AV→Objs→Option R) (s:S81) (n:Nat):Option R:=aloop tau B gl0 X81 (ent 80 (e80 c80) gnil) ow [] Try.f81 k (I81 s) (E81 p0 p1 p2 p3 p4 p5 p6 p7 s) n
theorem eq81 {R:Type} (B:Ops) (c80:C80) (p0:L70) (p1:L73) (p2:L124) (p3:L77) (p4:Int) (p5 p6:L4) (p7:Bool) (k:AV→Objs→Option R) (n:Nat):afun tau B gl0 X81 (ent 80 (e80 c80) gnil) ow Try.f81 [.agg [.list 70 ty70 p0,.list 73 ty73 p1,.list 124 ty124 p2,.list 77 ty77 p3,.int .i64 p4],.c (.list 4 ty4 p5),.c (.list 4 ty4 p6),.c (.bool p7)] [] k n=T81 B c80 p0 p1 p2 p3 p4 p5 p6 p7 (fun s=>A81 B c80 p0 p1 p2 p3 p4 p5 p6 p7 k s n) (K26 k) none:=by kernel_rfl
theorem el81 {R:Type} (B:Ops) (c80:C80) (p0:L70) (p1:L73) (p2:L124) (p3:L77) (p4:Int) (p5 p6:L4) (p7:Bool) (k:AV→Objs→Option R) (n:Nat):∀ s,A81 B c80 p0 p1 p2 p3 p4 p5 p6 p7 k s (n+1)=T81 B c80 p0 p1 p2 p3 p4 p5 p6 p7 (fun s=>A81 B c80 p0 p1 p2 p3 p4 p5 p6 p7 k s n) (K26 k) (some s):=by
 intro s
 cases s<;>kernel_rfl
theorem nt81 {R R':Type} (B:Ops) (c80:C80) (p0:L70) (p1:L73) (p2:L124) (p3:L77) (p4:Int) (p5 p6:L4) (p7:Bool) (again:S81→Option R) (again':S81→Option R') (k0:(L4)→Option R') (k:R'→Option R) (h:∀ s,again s=ob (again' s) k):∀ s,T81 B c80 p0 p1 p2 p3 p4 p5 p6 p7 again (fun y=>ob (k0 y) k) s=ob (T81 B c80 p0 p1 p2 p3 p4 p5 p6 p7 again' k0 s) k:=by
 rintro (_ | x)
 all_goals try cases x
 all_goals (unfold T81;repeat' first | exact rfl | exact h _ | apply qaa | (apply qaf;intro))
def R81 (c80:C80) (p0:L70) (p1:L73) (p2:L124) (p3:L77) (p4:Int) (p5 p6:L4) (p7:Bool):Nat→S81→Option (L4)
 | 0,_=>none
 | n+1,s=>T81 Ops.std c80 p0 p1 p2 p3 p4 p5 p6 p7 (R81 c80 p0 p1 p2 p3 p4 p5 p6 p7 n) some (some s)
theorem rr81 {R:Type} (c80:C80) (p0:L70) (p1:L73) (p2:L124) (p3:L77) (p4:Int) (p5 p6:L4) (p7:Bool) (k:AV→Objs→Option R):∀ (n:Nat) (s:S81),A81 Ops.std c80 p0 p1 p2 p3 p4 p5 p6 p7 k s n=ob (R81 c80 p0 p1 p2 p3 p4 p5 p6 p7 n s) (K26 k)
 | 0,s=>by cases s<;>rfl
 | n+1,s=>by rw [el81];exact nt81 Ops.std c80 p0 p1 p2 p3 p4 p5 p6 p7 _ _ some (K26 k) (rr81 c80 p0 p1 p2 p3 p4 p5 p6 p7 k n) (some s)
def F81 (c80:C80) (p0:L70) (p1:L73) (p2:L124) (p3:L77) (p4:Int) (p5 p6:L4) (p7:Bool):Option (L4):=T81 Ops.std c80 p0 p1 p2 p3 p4 p5 p6 p7 (R81 c80 p0 p1 p2 p3 p4 p5 p6 p7 1000000) some none
abbrev C81:Type:=L70→L73→L124→L77→Int→L4→L4→Bool→Option (L4)
def e81 {R:Type} (c:C81):Ent R:=eG [.aG [.cL 70 ty70,.cL 73 ty73,.cL 124 ty124,.cL 77 ty77,.cI .i64],.aC (.cL 4 ty4),.aC (.cL 4 ty4),.aC .cB] [] fun v k=>ob (c v.1 v.2.1 v.2.2.1 v.2.2.2.1 v.2.2.2.2.1 v.2.2.2.2.2.1 v.2.2.2.2.2.2.1 v.2.2.2.2.2.2.2.1) (K26 k)
abbrev Sp81 (c:C81):Prop:=∀ (p0:L70) (p1:L73) (p2:L124) (p3:L77) (p4:Int) (p5 p6:L4) (p7:Bool) (y:L4),c p0 p1 p2 p3 p4 p5 p6 p7=some y→Spec Try.prog gl0 81 [.agg [.list 70 ty70 p0,.list 73 ty73 p1,.list 124 ty124 p2,.list 77 ty77 p3,.int .i64 p4],.c (.list 4 ty4 p5),.c (.list 4 ty4 p6),.c (.bool p7)] [] (.c (.own 500)) [(500,.row 4 ty4 y)]
theorem ek81 {R:Type} {c:C81} (hs:Sp81 c):EOk 81 (e81 (R:=R) c):=qah fun v=>hs v.1 v.2.1 v.2.2.1 v.2.2.2.1 v.2.2.2.2.1 v.2.2.2.2.2.1 v.2.2.2.2.2.2.1 v.2.2.2.2.2.2.2.1
theorem sf81 {c80:C80} (h80:Sp80 c80):Sp81 (F81 c80):=fun p0 p1 p2 p3 p4 p5 p6 p7 y hy=>by
 refine qae (qac (ek80 h80) qad) 1000000 (fn:=Try.f81) (by kernel_rfl) (by kernel_rfl) (X:=X81) (by kernel_rfl) ?_
 rw [eq81]
 exact (nt81 Ops.std c80 p0 p1 p2 p3 p4 p5 p6 p7 _ _ some (K26 k0) (rr81 c80 p0 p1 p2 p3 p4 p5 p6 p7 k0 1000000) none).trans (by show ob (F81 c80 p0 p1 p2 p3 p4 p5 p6 p7) _=_;rw [hy];rfl)
noncomputable def M81:C81:=F81 M80
theorem sm81:Sp81 M81:=sf81 sm80
abbrev K31 {R:Type} (k:AV→Objs→Option R) (y:(L77)):Option R:=k (.c (.own 500)) [(500,.row 77 ty77 y)]
abbrev C70:Type:=Int→Option (L77)
def e70 {R:Type} (c:C70):Ent R:=eG [.aC .cN,.aC (.cI .i64)] [] fun v k=>ob (c v.1) (K31 k)
abbrev Sp70 (c:C70):Prop:=∀ (p0:Int) (y:L77),c p0=some y→Spec Try.prog gl0 70 [.c .nil,.c (.int .i64 p0)] [] (.c (.own 500)) [(500,.row 77 ty77 y)]
theorem ek70 {R:Type} {c:C70} (hs:Sp70 c):EOk 70 (e70 (R:=R) c):=qah fun v=>hs v.1
def M70:Int→Option (L77):=growF70
theorem sm70:Sp70 M70:=fun p0 y hy=>grow_sp70 p0 y hy
def X41:Aux:=⟨[(3,([1,2,4,5,6,7,8]++rg 12 24)),(11,([0,1,2,3,4,5]++rg 7 18++[28,29,30,31,32,33,34,35]))],[]⟩
inductive S41 where
 | l0 (v1 v3 v4:Int)
 | l1 (v1 v2:Int) (v3:L77)
def T41 {R:Type} (B:Ops) (c70:C70) (p0:L42) (again:S41→Option R) (k:(L77)→Option R):Option S41→Option R | none=>again (.l0 0 (↑p0.length) 0) | some (.l0 v1 v3 v4)=>cond (B.lt v4 v3) (cond (B.inb v4 p0.length) (cond (B.lt (IntKind.wrap .i64 (v1+Nat.cast (List.length (p0.getD v4.toNat ty42.dflt)))) 0) none (again (.l0 (IntKind.wrap .i64 (v1+Nat.cast (List.length (p0.getD v4.toNat ty42.dflt)))) v3 (IntKind.wrap .i64 (v4+1))))) none) (ob (c70 v1) fun y0=>again (.l1 (↑p0.length) 0 y0)) | some (.l1 v1 v2 v3)=>cond (B.lt v2 v1) (cond (B.inb v2 p0.length) (cond (B.lim (List.length v3+List.length (p0.getD v2.toNat ty42.dflt)) 72) (again (.l1 v1 (IntKind.wrap .i64 (v2+1)) (v3++p0.getD v2.toNat ty42.dflt))) none) none) (k v3)
def E41 (p0:L42):S41→List AV×Objs
 | .l0 v1 v3 v4=>(mk 36 [(0,.c (.list 42 ty42 p0)),(3,.c (.int .i64 v1)),(9,.c (.list 42 ty42 p0)),(10,.c (.int .i64 v3)),(11,.c (.int .i64 v4))],[])
 | .l1 v1 v2 v3=>(mk 36 [(6,.c (.own 6)),(25,.c (.list 42 ty42 p0)),(26,.c (.int .i64 v1)),(27,.c (.int .i64 v2))],[(6,.row 77 ty77 v3)])
def I41:S41→Nat
 | .l0 _ _ _=>0
 | .l1 _ _ _=>1
noncomputable abbrev A41 {R:Type} (B:Ops) (c70:C70) (p0:L42) (k:AV→Objs→Option R) (s:S41) (n:Nat):Option R:=aloop tau B gl0 X41 (ent 70 (e70 c70) gnil) ow [] Try.f41 k (I41 s) (E41 p0 s) n
theorem eq41 {R:Type} (B:Ops) (c70:C70) (p0:L42) (k:AV→Objs→Option R) (n:Nat):afun tau B gl0 X41 (ent 70 (e70 c70) gnil) ow Try.f41 [.c (.list 42 ty42 p0)] [] k n=T41 B c70 p0 (fun s=>A41 B c70 p0 k s n) (K31 k) none:=by kernel_rfl
theorem el41 {R:Type} (B:Ops) (c70:C70) (p0:L42) (k:AV→Objs→Option R) (n:Nat):∀ s,A41 B c70 p0 k s (n+1)=T41 B c70 p0 (fun s=>A41 B c70 p0 k s n) (K31 k) (some s):=by
 intro s
 cases s<;>kernel_rfl
theorem nt41 {R R':Type} (B:Ops) (c70:C70) (p0:L42) (again:S41→Option R) (again':S41→Option R') (k0:(L77)→Option R') (k:R'→Option R) (h:∀ s,again s=ob (again' s) k):∀ s,T41 B c70 p0 again (fun y=>ob (k0 y) k) s=ob (T41 B c70 p0 again' k0 s) k:=by
 rintro (_ | x)
 all_goals try cases x
 all_goals (unfold T41;repeat' first | exact rfl | exact h _ | apply qaa | (apply qaf;intro))
def R41 (c70:C70) (p0:L42):Nat→S41→Option (L77)
 | 0,_=>none
 | n+1,s=>T41 Ops.std c70 p0 (R41 c70 p0 n) some (some s)
theorem rr41 {R:Type} (c70:C70) (p0:L42) (k:AV→Objs→Option R):∀ (n:Nat) (s:S41),A41 Ops.std c70 p0 k s n=ob (R41 c70 p0 n s) (K31 k)
 | 0,s=>by cases s<;>rfl
 | n+1,s=>by rw [el41];exact nt41 Ops.std c70 p0 _ _ some (K31 k) (rr41 c70 p0 k n) (some s)
def F41 (c70:C70) (p0:L42):Option (L77):=T41 Ops.std c70 p0 (R41 c70 p0 1000000) some none
abbrev C41:Type:=L42→Option (L77)
def e41 {R:Type} (c:C41):Ent R:=eG [.aC (.cL 42 ty42)] [] fun v k=>ob (c v.1) (K31 k)
abbrev Sp41 (c:C41):Prop:=∀ (p0:L42) (y:L77),c p0=some y→Spec Try.prog gl0 41 [.c (.list 42 ty42 p0)] [] (.c (.own 500)) [(500,.row 77 ty77 y)]
theorem ek41 {R:Type} {c:C41} (hs:Sp41 c):EOk 41 (e41 (R:=R) c):=qah fun v=>hs v.1
theorem sf41 {c70:C70} (h70:Sp70 c70):Sp41 (F41 c70):=fun p0 y hy=>by
 refine qae (qac (ek70 h70) qad) 1000000 (fn:=Try.f41) (by kernel_rfl) (by kernel_rfl) (X:=X41) (by kernel_rfl) ?_
 rw [eq41]
 exact (nt41 Ops.std c70 p0 _ _ some (K31 k0) (rr41 c70 p0 k0 1000000) none).trans (by show ob (F41 c70 p0) _=_;rw [hy];rfl)
noncomputable def M41:C41:=F41 M70
theorem sm41:Sp41 M41:=sf41 sm70
def X23:Aux:=⟨[],[]⟩
def T23 {R:Type} (B:Ops) (c43:C43) (c41:C41) (c45:C45) (c44:C44) (p0:L70) (p1:L73) (p2:L124) (p3 p4:L77) (k:(Bool)→Option R):Option R:=ob (c43 p0 p1 p2) fun y0=>cond (!y0) (k false) (cond (B.lt (↑p4.length) 1) (k false) (cond (B.lt 2000 (IntKind.wrap .i64 (Nat.cast p3.length+Nat.cast p4.length))) (k false) (ob (c41 (p3::p4::mt (Ty.den ty42))) fun y1=>ob (c44 y1 p0 p1 p2) fun y2=>k (!y2.1))))
theorem eq23 {R:Type} (B:Ops) (c43:C43) (c41:C41) (c45:C45) (c44:C44) (p0:L70) (p1:L73) (p2:L124) (p3 p4:L77) (k:AV→Objs→Option R) (n:Nat):afun tau B gl0 X23 (ent 43 (e43 c43) (ent 41 (e41 c41) (ent 45 (e45 c45) (ent 44 (e44 c44) gnil)))) ow Try.f23 [.agg [.list 70 ty70 p0,.list 73 ty73 p1,.list 124 ty124 p2],.agg [.list 77 ty77 p3,.list 77 ty77 p4]] [] k n=T23 B c43 c41 c45 c44 p0 p1 p2 p3 p4 (K1 k):=by kernel_rfl
theorem nt23 {R R':Type} (B:Ops) (c43:C43) (c41:C41) (c45:C45) (c44:C44) (p0:L70) (p1:L73) (p2:L124) (p3 p4:L77) (k0:(Bool)→Option R') (k:R'→Option R):T23 B c43 c41 c45 c44 p0 p1 p2 p3 p4 (fun y=>ob (k0 y) k)=ob (T23 B c43 c41 c45 c44 p0 p1 p2 p3 p4 k0) k:=by
 unfold T23
 repeat' first | exact rfl | apply qaa | (apply qaf;intro)
def F23 (c43:C43) (c41:C41) (c45:C45) (c44:C44) (p0:L70) (p1:L73) (p2:L124) (p3 p4:L77):Option (Bool):=T23 Ops.std c43 c41 c45 c44 p0 p1 p2 p3 p4 some
abbrev C23:Type:=L70→L73→L124→L77→L77→Option (Bool)
def e23 {R:Type} (c:C23):Ent R:=eG [.aG [.cL 70 ty70,.cL 73 ty73,.cL 124 ty124],.aG [.cL 77 ty77,.cL 77 ty77]] [] fun v k=>ob (c v.1 v.2.1 v.2.2.1 v.2.2.2.1 v.2.2.2.2.1) (K1 k)
abbrev Sp23 (c:C23):Prop:=∀ (p0:L70) (p1:L73) (p2:L124) (p3 p4:L77) (y:Bool),c p0 p1 p2 p3 p4=some y→Spec Try.prog gl0 23 [.agg [.list 70 ty70 p0,.list 73 ty73 p1,.list 124 ty124 p2],.agg [.list 77 ty77 p3,.list 77 ty77 p4]] [] (.c (.bool y)) []
theorem ek23 {R:Type} {c:C23} (hs:Sp23 c):EOk 23 (e23 (R:=R) c):=qah fun v=>hs v.1 v.2.1 v.2.2.1 v.2.2.2.1 v.2.2.2.2.1
theorem sf23 {c43:C43} {c41:C41} {c45:C45} {c44:C44} (h43:Sp43 c43) (h41:Sp41 c41) (h45:Sp45 c45) (h44:Sp44 c44):Sp23 (F23 c43 c41 c45 c44):=fun p0 p1 p2 p3 p4 y hy=>by
 refine qae (qac (ek43 h43) (qac (ek41 h41) (qac (ek45 h45) (qac (ek44 h44) qad)))) 1000000 (fn:=Try.f23) (by kernel_rfl) (by kernel_rfl) (X:=X23) (by kernel_rfl) ?_
 rw [eq23]
 exact (nt23 Ops.std c43 c41 c45 c44 p0 p1 p2 p3 p4 some (K1 k0)).trans (by show ob (F23 c43 c41 c45 c44 p0 p1 p2 p3 p4) _=_;rw [hy];rfl)
noncomputable def M23:C23:=F23 M43 M41 M45 M44
theorem sm23:Sp23 M23:=sf23 sm43 sm41 sm45 sm44
end Go.Proofs.Ytccnmhdgghjgoaa.Av
